import PyProof.Rows.All
import Wide.All
import OpenK.AllK
import Wide.FinOn
import HandS.ForMost
import HandS.ForExc
import HandS.TupAny
import HandS.TupMul
import HandS.TupLe
import HandS.Wide
import HandS.Style
import HandS.IsInst
import HandS.Deep
import HandS.Walk
import HandS.Zip
import HandS.Defaults
import HandS.ExcOwn
import HandS.ExcIs
import HandS.EndBits
import HandS.Conv
import KE.DatumMoreOrd
import KE.SortData
import KE.DataFind
import KE.KTupSum
import KE.GoesEnum
import HandS.SetBool
import HandS.Strs
import HandS.SetFor
import HandS.MakeKwOnly
import HandS.Head0
import HandS.Head1
import HandS.Head2
import HandS.HeadEnd
import HandS.HeadHook1
import HandS.HeadHook2
import PySem.Challenge.RW_seamhall_k01_pictures
set_option Elab.async false
set_option linter.all false
set_option maxRecDepth 100000
/-! own syntax, a pure evaluator over data -/
namespace Rf
open PySem PySem.Spec PyProof.Rows L2
abbrev D := PyData
/-- an exception: its class by number, what it bears -/
abbrev Xn := Nat × Option Int
inductive Rs (α : Type) where
  | ok (a : α) | ex (e : Xn) | no
def Rs.bind {α β : Type} : Rs α → (α → Rs β) → Rs β
  | .ok a, f => f a
  | .ex e, _ => .ex e
  | .no, _ => .no
@[simp] theorem Rs.bind_ok {α β : Type} (a : α) (f : α → Rs β) : (Rs.ok a).bind f = f a := id rfl
@[simp] theorem Rs.bind_ex {α β : Type} (e : Xn) (f : α → Rs β) : (Rs.ex e : Rs α).bind f = .ex e := id rfl
@[simp] theorem Rs.bind_no {α β : Type} (f : α → Rs β) : (Rs.no : Rs α).bind f = .no := id rfl
def Rs.map {α β : Type} (f : α → β) (x : Rs α) : Rs β := x.bind fun a => .ok (f a)
/-- within a comprehension nothing may be raised -/
def Rs.quiet {α : Type} : Rs α → Rs α
  | .ok a => .ok a
  | _ => .no
@[simp] theorem Rs.quiet_ok {α : Type} (a : α) : (Rs.ok a).quiet = .ok a := id rfl
def grd {α : Type} (b : Bool) (x : Rs α) : Rs α := if b = true then x else .no
@[simp] theorem grd_true {α : Type} (x : Rs α) : grd true x = x := id rfl
@[simp] theorem grd_false {α : Type} (x : Rs α) : grd false x = .no := id rfl
/-- the size that lists, tuples and texts keep below here -/
def few (n : Nat) : Bool := Nat.ble n 999999
theorem few_iff {n : Nat} : few n = true ↔ n < 1000000 := by
  unfold few
  rw [Nat.ble_eq]
  omega
/-- a whole number within 2^60, told so that no kernel counts -/
def inRng : Int → Bool
  | .ofNat n => Nat.ble n 1152921504606846975
  | .negSucc n => Nat.ble n 1152921504606846975
theorem inRng_iff {i : Int} : inRng i = true ↔ -(2 ^ 60) ≤ i ∧ i < 2 ^ 60 := by
  cases i with
  | ofNat n => unfold inRng; dsimp only; rw [Nat.ble_eq, show Int.ofNat n = (n : Int) from rfl]; omega
  | negSucc n =>
    unfold inRng
    dsimp only
    rw [Nat.ble_eq, Int.negSucc_eq, show (2 : Int) ^ 60 = 1152921504606846976 from rfl]
    exact ⟨fun h => ⟨by omega, by omega⟩, fun h => by omega⟩
/-- within 2^64 -/
def smI : Int → Bool
  | .ofNat n => Nat.ble n 18446744073709551615
  | .negSucc n => Nat.ble n 18446744073709551614
theorem smI_iff {i : Int} : smI i = true ↔ -(2 ^ 64) < i ∧ i < 2 ^ 64 := by
  cases i with
  | ofNat n => unfold smI; dsimp only; rw [Nat.ble_eq, show Int.ofNat n = (n : Int) from rfl]; omega
  | negSucc n => unfold smI; dsimp only; rw [Nat.ble_eq, Int.negSucc_eq]; omega
def posI : Int → Bool
  | .ofNat 0 => false
  | .ofNat (_ + 1) => true
  | .negSucc _ => false
theorem posI_iff {i : Int} : posI i = true ↔ 0 < i := by
  cases i with
  | ofNat n => cases n with
    | zero => unfold posI; simp
    | succ n => exact ⟨fun _ => Int.natCast_pos.mpr (Nat.succ_pos n), fun _ => rfl⟩
  | negSucc n =>
    constructor
    · intro h; cases h
    · intro h; rw [Int.negSucc_eq] at h; omega

inductive Sl where
  | un | fz (d : D) | ow (ds : List D) | xn (e : Xn)
abbrev Env := List Sl

inductive Tg where
  | nm (i : Nat) | t2 (a b : Tg) | t3 (a b c : Tg)
inductive It where
  | seq | rng | enum | zip | str
inductive Bf where
  | len | sum | all | any | abs | max | min | tuple | list | int | sorted
inductive Mf where
  | index | count
mutual
inductive E where
  | var (i : Nat)
  | cst (d : D)
  | glb (i : Nat)
  | bin (o : Operator) (a b : E)
  | neg (a : E)
  | nt (a : E)
  | and (a b : E)
  | or (a b : E)
  | cmp (o : CmpOp) (a b : E)
  | chn (o p : CmpOp) (a b c : E)
  | ite (c a b : E)
  | tup (es : Es)
  | lst (es : Es)
  | idx (a i : E)
  | vdx (v : Nat) (i : E)
  | vln (v : Nat)
  | sl01 (a h : E)
  | sl10 (a l : E)
  | sl11 (a l h : E)
  | rev (a : E)
  | lrg1 (tp : Bool) (a : E)
  | lrg2 (tp : Bool) (a b : E)
  | bcl (f : Bf) (es : Es)
  | fcl (f : Nat) (es : Es)
  | kcl (f : Nat) (sh : Nat) (es ks : Es)
  | met (m : Mf) (a : E) (es : Es)
  | isi (a : E) (t : String)
  | isx (v : Nat) (c : Nat)
  | isv (v : Nat)
  | cmpr (e : E) (t : Tg) (k : It) (is : Es) (c : Es) (own : List Nat)
  | sst (e : E)
  | ssc (ln : Bool) (e : E) (t : Tg) (k : It) (is : Es) (own : List Nat)
  | cm2 (e : E) (t : Tg) (k : It) (is : Es) (t1 : Tg) (k1 : It) (is1 : Es) (own own1 : List Nat)
inductive Es where
  | nil
  | cons (e : E) (es : Es)
end

/-! ### operations on data -/
def addD : D → D → Rs D
  | .int i, .int j => .ok (.int (i + j))
  | .str x, .str y => grd (few (x.length + y.length)) (.ok (.str (x ++ y)))
  | .tuple xs, .tuple ys => grd (few (xs.length + ys.length)) (.ok (.tuple (xs ++ ys)))
  | .list xs, .list ys => grd (few (xs.length + ys.length)) (.ok (.list (xs ++ ys)))
  | _, _ => .no
def subD : D → D → Rs D
  | .int i, .int j => .ok (.int (i - j))
  | _, _ => .no
/-- a text so many times -/
def repS (x : Str) (n : Int) : Str := ⟨(List.replicate n.toNat x.cps.toList).flatten.toArray⟩
def tmI : Int → Bool
  | .ofNat n => Nat.ble n 1000
  | .negSucc n => Nat.ble n 1152921504606846975
theorem tmI_iff {i : Int} : tmI i = true ↔ -(2 ^ 60) ≤ i ∧ i ≤ 1000 := by
  cases i with
  | ofNat n => unfold tmI; dsimp only; rw [Nat.ble_eq, show Int.ofNat n = (n : Int) from rfl]; omega
  | negSucc n =>
    unfold tmI
    dsimp only
    rw [Nat.ble_eq, Int.negSucc_eq, show (2 : Int) ^ 60 = 1152921504606846976 from rfl]
    exact ⟨fun h => ⟨by omega, by omega⟩, fun h => by omega⟩
def rep {α : Type} (xs : List α) (n : Int) : List α := (List.replicate n.toNat xs).flatten
def mulD : D → D → Rs D
  | .tuple xs, .int n => grd (tmI n && (Nat.ble 1 xs.length && Nat.ble xs.length 1000)) (.ok (.tuple (rep xs n)))
  | .list xs, .int n => grd (tmI n && Nat.ble xs.length 1000) (.ok (.list (rep xs n)))
  | .str x, .int n => grd (tmI n && (Nat.ble 1 x.length && Nat.ble x.length 1000)) (.ok (.str (repS x n)))
  | .int i, .int j => grd (smI i || smI j) (.ok (.int (i * j)))
  | _, _ => .no
def divD : D → D → Rs D
  | .int i, .int j => grd (posI j && smI j) (.ok (.int (i / j)))
  | _, _ => .no
def modD : D → D → Rs D
  | .int i, .int j => grd (posI j) (.ok (.int (i % j)))
  | _, _ => .no
def powD : D → D → Rs D
  | .int i, .int j => (match j with | .ofNat n => grd (Nat.ble n 100 && Nat.ble i.natAbs 999) (.ok (.int (i ^ n))) | .negSucc _ => .no)
  | _, _ => .no
def binD : Operator → D → D → Rs D
  | .Add => addD
  | .Sub => subD
  | .Mult => mulD
  | .FloorDiv => divD
  | .Mod => modD
  | .Pow => powD
  | _ => fun _ _ => .no
def negD : D → Rs D
  | .int i => .ok (.int (-i))
  | _ => .no
def flatD : D → Bool
  | .none | .bool _ | .int _ | .str _ => true
  | _ => false
def eqD (d e : D) : Rs Bool := grd (SeqAt.shaped d && SeqAt.shaped e) (.ok (PyData.eqv d e))
/-- all can be compared -/
def alkB (ds : List D) : Bool := ds.all fun d => (ds.all fun e => PySem.W.alike d e) && (match d with | .none => false | _ => true)
/-- all are tuples with an item, or none is one -/
def srtB (ds : List D) : Bool := (ds.all fun d => match d with | .tuple (_ :: _) => true | _ => false) || ds.all fun d => match d with | .none => false | .tuple _ => false | _ => true
def ltD : D → D → Rs Bool
  | .int i, .int j => .ok (decide (i < j))
  | .str x, .str y => .ok (decide (x.cps.toList < y.cps.toList))
  | .tuple xs, .tuple ys => grd (PySem.W.alike (.tuple xs) (.tuple ys) && Nat.ble (PyData.tuple xs).depth 60) (.ok (PySem.W.dataLt (.tuple xs) (.tuple ys)))
  | .list xs, .list ys => grd (PySem.W.alike (.list xs) (.list ys) && Nat.ble (PyData.list xs).depth 60) (.ok (PySem.W.dataLt (.list xs) (.list ys)))
  | _, _ => .no
def intsD : List D → Rs (List Int)
  | [] => .ok []
  | .int i :: ds => (intsD ds).map (i :: ·)
  | _ :: _ => .no
/-- whether a list of whole numbers is not behind another -/
def leL (a b : List Int) : Bool := Ob.lexAt (fun j => decide (a.getD j 0 = b.getD j 0)) (fun j => decide (a.getD j 0 ≤ b.getD j 0)) (decide (a.length ≤ b.length)) 0 (min a.length b.length)
def leD : D → D → Rs Bool
  | .int i, .int j => .ok (decide (i ≤ j))
  | .tuple xs, .tuple ys => (intsD xs).bind fun a => (intsD ys).map fun b => leL a b
  | _, _ => .no
def isD : D → D → Rs Bool
  | d, .none => .ok (match d with | .none => true | _ => false)
  | .bool a, .bool b => .ok (decide (a = b))
  | _, _ => .no
def inD : D → D → Rs Bool
  | d, .list ds => grd (SeqAt.shaped d && SeqAt.shaped (.list ds)) (.ok (ds.any fun z => PyData.eqv z d))
  | d, .tuple ds => grd (SeqAt.shaped d && SeqAt.shaped (.tuple ds)) (.ok (ds.any fun z => PyData.eqv z d))
  | _, _ => .no
def cmpB : CmpOp → D → D → Rs Bool
  | .Eq, d, e => eqD d e
  | .NotEq, d, e => (eqD d e).map not
  | .Lt, d, e => ltD d e
  | .Gt, .int i, .int j => .ok (decide (j < i))
  | .LtE, d, e => leD d e
  | .GtE, .int i, .int j => .ok (decide (j ≤ i))
  | .Is, d, e => isD d e
  | .IsNot, d, e => (isD d e).map not
  | .In, d, e => inD d e
  | .NotIn, d, e => (inD d e).map not
  | _, _, _ => .no
def cmpD (o : CmpOp) (d e : D) : Rs D := (cmpB o d e).map .bool
def asB : D → Rs Bool
  | .bool b => .ok b
  | _ => .no
def idxD : D → D → Rs D
  | .list ds, .int i => match atI ds i with | some d => .ok d | none => .no
  | .tuple ds, .int i => match atI ds i with | some d => .ok d | none => .no
  | .str z, .int i => grd (few z.length) (match atI z.cps.toList i with | some c => .ok (.str ⟨#[c]⟩) | none => .no)
  | _, _ => .no
def cutD {α : Type} (xs : List α) (lo hi : Option Int) : List α := (xs.drop (HT.sIx xs.length 0 lo)).take (HT.sIx xs.length xs.length hi - HT.sIx xs.length 0 lo)
def sliD : D → Option Int → Option Int → Rs D
  | .list ds, lo, hi => .ok (.list (cutD ds lo hi))
  | .tuple ds, lo, hi => .ok (.tuple (cutD ds lo hi))
  | _, _, _ => .no
def asI : D → Rs Int
  | .int i => .ok i
  | _ => .no
def revD : D → Rs D
  | .list ds => .ok (.list ds.reverse)
  | .tuple ds => .ok (.tuple ds.reverse)
  | _ => .no
def boolsD : List D → Rs (List Bool)
  | [] => .ok []
  | .bool i :: ds => (boolsD ds).map (i :: ·)
  | _ :: _ => .no
def isiD (t : String) : D → Rs Bool
  | .none => .ok false
  | .bool _ => .ok (t == "bool" || t == "int")
  | .int _ => .ok (t == "int")
  | .str _ => .ok (t == "str")
  | .list _ => .ok (t == "list")
  | .tuple _ => .ok (t == "tuple")
  | .dict _ => .no
/-- built-in functions -/
def lenD : List D → Rs D
  | [.list xs] => .ok (.int xs.length)
  | [.tuple xs] => .ok (.int xs.length)
  | [.str x] => grd (few x.length) (.ok (.int x.length))
  | _ => .no
def lenS : D → Rs D
  | .list xs => .ok (.int xs.length)
  | .tuple xs => .ok (.int xs.length)
  | _ => .no
def sumD : List D → Rs D
  | [.list xs] => (intsD xs).map fun ns => .int ns.sum
  | [.tuple xs] => (intsD xs).map fun ns => .int ns.sum
  | _ => .no
def allD : List D → Rs D
  | [.list xs] => (boolsD xs).map fun bs => .bool (bs.all id)
  | _ => .no
def anyD : List D → Rs D
  | [.list xs] => (boolsD xs).map fun bs => .bool (bs.any id)
  | _ => .no
def absD : List D → Rs D
  | [.int i] => .ok (.int (if i < 0 then -i else i))
  | _ => .no
def bestD (f : D → List D → D) : List D → Rs D
  | [] => .no
  | x :: xs => grd (alkB (x :: xs) && (PyData.canLayAll0 (x :: xs) && Nat.ble (PyData.depthAll (x :: xs)) 60)) (.ok (f x xs))
def maxD : List D → Rs D
  | [.int i, .int j] => .ok (.int (if j > i then j else i))
  | [.list xs] => bestD PySem.W.maxD xs
  | [.tuple xs] => bestD PySem.W.maxD xs
  | _ => .no
def minD : List D → Rs D
  | [.int i, .int j] => .ok (.int (if j < i then j else i))
  | [.list xs] => bestD PySem.W.minD xs
  | [.tuple xs] => bestD PySem.W.minD xs
  | _ => .no
def sortD : List D → Rs D
  | [.list xs] => grd (alkB xs && (srtB xs && Nat.ble (PyData.depthAll xs) 60)) (.ok (.list (xs.mergeSort fun a b => !PySem.W.dataLt b a)))
  | _ => .no
def tupleD : List D → Rs D
  | [.list xs] => .ok (.tuple xs)
  | [.tuple xs] => .ok (.tuple xs)
  | _ => .no
def listD : List D → Rs D
  | [.list xs] => .ok (.list xs)
  | [.tuple xs] => .ok (.list xs)
  | _ => .no
def toIntD : List D → Rs D
  | [.int i] => .ok (.int i)
  | [.bool b] => .ok (.int (if b then 1 else 0))
  | _ => .no
def Bf.nm : Bf → String
  | .len => "len" | .sum => "sum" | .all => "all" | .any => "any" | .abs => "abs" | .max => "max" | .min => "min" | .tuple => "tuple" | .list => "list" | .int => "int" | .sorted => "sorted"
def bclD : Bf → List D → Rs D
  | .len => lenD | .sum => sumD | .all => allD | .any => anyD | .abs => absD | .max => maxD | .min => minD | .tuple => tupleD | .list => listD | .int => toIntD | .sorted => sortD
/-- the first place of an equal one -/
def placeD (d : D) : List D → Option Nat
  | [] => none
  | x :: xs => if PyData.eqv x d then some 0 else (placeD d xs).map (· + 1)
/-- methods of data -/
def indexD (d : D) (ds : List D) : Rs D := match d, ds with
  | .list xs, [e] => grd (SeqAt.shaped (.list xs) && SeqAt.shaped e) (match placeD e xs with | some j => .ok (.int (j : Nat)) | none => .no)
  | _, _ => .no
/-- how often an equal one stands there -/
def countD (d : D) (ds : List D) : Rs D := match d, ds with
  | .list xs, [e] => grd (SeqAt.shaped (.list xs) && SeqAt.shaped e) (.ok (.int ((xs.countP fun y => PyData.eqv y e : Nat) : Int)))
  | _, _ => .no
def Mf.nm : Mf → String
  | .index => "index" | .count => "count"
def metD : Mf → D → List D → Rs D
  | .index => indexD | .count => countD
def isLst : D → Bool
  | .list _ => true
  | _ => false
def metOk : Mf → D → Bool
  | .index => isLst | .count => isLst
/-- what a loop walks -/
def zip2 : List D → List D → List D
  | x :: xs, y :: ys => .tuple [x, y] :: zip2 xs ys
  | _, _ => []
def zip3 : List D → List D → List D → List D
  | x :: xs, y :: ys, z :: zs => .tuple [x, y, z] :: zip3 xs ys zs
  | _, _, _ => []
def enumD : Nat → List D → List D
  | _, [] => []
  | n, x :: xs => .tuple [.int (n : Nat), x] :: enumD (n + 1) xs
def itsD : D → Rs (List D)
  | .list xs => .ok xs
  | .tuple xs => .ok xs
  | .str x => grd (few x.length) (.ok (x.cps.toList.map fun c => .str ⟨#[c]⟩))
  | _ => .no
def rngD (lo hi : Int) : List D := (List.range (hi - lo).toNat).map fun k => .int (lo + (k : Nat))
def rngC (lo c : Int) (n : Nat) : List D := (List.range n).map fun k => .int (lo + (k : Nat) * c)
/-- a range of any step -/
def rg3 (i j c : Int) : Bool := !decide (c = 0) && (Nat.ble c.natAbs 1000000 && (Builtin.Range.small i j c && (match Builtin.Range.rangeSize i j c with | .ofNat n => few n | _ => false)))
def itD : It → List D → Rs (List D)
  | .seq, [d] => itsD d
  | .rng, [.int j] => grd (inRng j && few j.toNat) (.ok (rngD 0 j))
  | .rng, [.int i, .int j] => grd (inRng i && inRng j && few (j - i).toNat) (.ok (rngD i j))
  | .rng, [.int i, .int j, .int c] => if c = -1 then grd (inRng i && inRng j && few (i - j).toNat) (.ok (rngC i (-1) (i - j).toNat)) else grd (rg3 i j c) (.ok (rngC i c (Builtin.Range.rangeSize i j c).toNat))
  | .enum, [d] => (itsD d).map (enumD 0)
  | .zip, [d, e] => (itsD d).bind fun xs => (itsD e).map fun ys => zip2 xs ys
  | .zip, [d, e, f] => (itsD d).bind fun xs => (itsD e).bind fun ys => (itsD f).map fun zs => zip3 xs ys zs
  | _, _ => .no
/-- list(range()), tuple(range()) -/
def rngL (tp : Bool) (ds : List D) : Rs D := (itD .rng ds).map fun xs => if tp = true then .tuple xs else .list xs
def bindTg : Tg → D → Rs (List (Nat × D))
  | .nm i, d => .ok [(i, d)]
  | .t2 a b, .tuple [x, y] => (bindTg a x).bind fun l => (bindTg b y).map fun r => l ++ r
  | .t3 a b c, .tuple [x, y, z] => (bindTg a x).bind fun l => (bindTg b y).bind fun r => (bindTg c z).map fun q => l ++ (r ++ q)
  | _, _ => .no
def setAllE (ρ : Env) : List (Nat × D) → Env
  | [] => ρ
  | b :: bs => setAllE (ρ.set b.1 (.fz b.2)) bs
def setTg (t : Tg) (d : D) (ρ : Env) : Rs Env := (bindTg t d).map (setAllE ρ)
def Tg.slots : Tg → List Nat
  | .nm i => [i]
  | .t2 a b => a.slots ++ b.slots
  | .t3 a b c => a.slots ++ (b.slots ++ c.slots)
def wipeE (ρ : Env) : List Nat → Env
  | [] => ρ
  | v :: vs => (wipeE ρ vs).set v .un
/-- a comprehension's turns: what each gives, none where its test says no -/
def gather (f : D → Rs (Option D)) : List D → Rs (List D)
  | [] => .ok []
  | d :: ds => (f d).quiet.bind fun o => (gather f ds).map fun r => o.toList ++ r

theorem gather_cons (f : D → Rs (Option D)) (d : D) (ds : List D) : gather f (d :: ds) = (f d).quiet.bind fun o => (gather f ds).map fun r => o.toList ++ r := rfl

/-- a comprehension's turn -/
def turnD (t : Tg) (rt : Env → Rs Bool) (re : Env → Rs D) (own : List Nat) (ρ : Env) (d : D) : Rs (Option D) :=
  (setTg t d (wipeE ρ own)).bind fun ρ1 => (rt ρ1).bind fun b => if b = true then (re ρ1).map some else .ok none
/-- what a comprehension of two clauses gives -/
def gath2 (f : D → Rs (List D)) : List D → Rs (List D)
  | [] => .ok []
  | d :: ds => (f d).quiet.bind fun l => (gath2 f ds).map fun r => l ++ r
theorem gath2_cons (f : D → Rs (List D)) (d : D) (ds : List D) : gath2 f (d :: ds) = (f d).quiet.bind fun l => (gath2 f ds).map fun r => l ++ r := rfl
def turn2 (t : Tg) (ri : Env → Rs (List D)) (t1 : Tg) (re : Env → Rs D) (own own1 : List Nat) (ρ : Env) (d : D) : Rs (List D) :=
  (setTg t d (wipeE ρ own)).bind fun ρ1 => (ri ρ1).bind fun its => gather (turnD t1 (fun _ => .ok true) re own1 ρ1) its
/-- set in among rising ones -/
def insU (x : Int) : List Int → List Int
  | [] => [x]
  | y :: l => if x < y then x :: y :: l else if x = y then y :: l else y :: insU x l
/-- rising, each once -/
def sortU (ns : List Int) : List Int := ns.foldl (fun l x => insU x l) []
/-- sorted(set(xs)) -/
def sstD : D → Rs D
  | .list ds => (intsD ds).bind fun ns => grd (Nat.ble ns.length 63) (.ok (.list ((sortU ns).map .int)))
  | _ => .no
def sscD (ln : Bool) (ns : List Int) : Rs D := grd (Nat.ble (sortU ns).length 63) (.ok (if ln = true then .int ((sortU ns).length : Nat) else .list ((sortU ns).map .int)))
structure Fn where
  name : Str
  ar : Nat
  m : List D → Rs D
  /-- no keyword-only parameters -/
  pl : Bool
structure Tb where
  fns : List Fn
  /-- calls with keywords: the def, the keywords' names, how the arguments lie -/
  shs : List (Nat × Nat × List Str × (List D → List D → List D))
  gls : List (Str × D)
  cls : List Str
  isa : Nat → Nat → Bool
def Tb.fn (T : Tb) (i : Nat) (ds : List D) : Rs D := match T.fns[i]? with | some f => f.m ds | none => .no
def Tb.arr (T : Tb) (i : Nat) (ds es : List D) : List D := match T.shs[i]? with | some s => s.2.2.2 ds es | none => []
def Tb.gl (T : Tb) (i : Nat) : Rs D := match T.gls[i]? with | some p => .ok p.2 | none => .no
def varD : Option Sl → Rs D
  | some (.fz d) => .ok d
  | _ => .no
def lookD : Option Sl → Rs D
  | some (.fz d) => .ok d
  | some (.ow ds) => .ok (.list ds)
  | _ => .no
/-- the test of a comprehension: none, or one -/
def tst : List D → Rs Bool
  | [] => .ok true
  | [.bool b] => .ok b
  | _ => .no
mutual
def E.ev (T : Tb) : E → Env → Rs D
  | .var i, ρ => varD ρ[i]?
  | .cst d, _ => .ok d
  | .glb i, _ => T.gl i
  | .bin o a b, ρ => (a.ev T ρ).bind fun x => (b.ev T ρ).bind fun y => (binD o x y).quiet
  | .neg a, ρ => (a.ev T ρ).bind fun x => (negD x).quiet
  | .nt a, ρ => (a.ev T ρ).bind fun x => (asB x).map fun b => .bool (!b)
  | .and a b, ρ => (a.ev T ρ).bind fun x => (asB x).bind fun c => if c = true then b.ev T ρ else .ok (.bool false)
  | .or a b, ρ => (a.ev T ρ).bind fun x => (asB x).bind fun c => if c = true then .ok (.bool true) else b.ev T ρ
  | .cmp o a b, ρ => (a.ev T ρ).bind fun x => (b.ev T ρ).bind fun y => (cmpD o x y).quiet
  | .chn o p a b c, ρ => (a.ev T ρ).bind fun x => (b.ev T ρ).bind fun y => (cmpB o x y).quiet.bind fun k => if k = true then (c.ev T ρ).bind fun z => (cmpD p y z).quiet else .ok (.bool false)
  | .ite c a b, ρ => (c.ev T ρ).bind fun x => (asB x).bind fun k => if k = true then a.ev T ρ else b.ev T ρ
  | .tup es, ρ => (es.ev T ρ).map .tuple
  | .lst es, ρ => (es.ev T ρ).map .list
  | .idx a i, ρ => (a.ev T ρ).bind fun x => (i.ev T ρ).bind fun y => (idxD x y).quiet
  | .vdx v i, ρ => (lookD ρ[v]?).bind fun x => (i.ev T ρ).bind fun y => (idxD x y).quiet
  | .vln v, ρ => (lookD ρ[v]?).bind fun x => (lenS x).quiet
  | .sl01 a h, ρ => (a.ev T ρ).bind fun x => (h.ev T ρ).bind fun y => (asI y).bind fun k => (sliD x none (some k)).quiet
  | .sl10 a l, ρ => (a.ev T ρ).bind fun x => (l.ev T ρ).bind fun y => (asI y).bind fun k => (sliD x (some k) none).quiet
  | .sl11 a l h, ρ => (a.ev T ρ).bind fun x => (l.ev T ρ).bind fun y => (asI y).bind fun k => (h.ev T ρ).bind fun z => (asI z).bind fun n => (sliD x (some k) (some n)).quiet
  | .rev a, ρ => (a.ev T ρ).bind fun x => (revD x).quiet
  | .lrg1 tp a, ρ => (a.ev T ρ).bind fun x => (rngL tp [x]).quiet
  | .lrg2 tp a b, ρ => (a.ev T ρ).bind fun x => (b.ev T ρ).bind fun y => (rngL tp [x, y]).quiet
  | .bcl f es, ρ => (es.ev T ρ).bind fun ds => (bclD f ds).quiet
  | .fcl f es, ρ => (es.ev T ρ).bind (T.fn f)
  | .kcl f sh es ks, ρ => (es.ev T ρ).bind fun ds => (ks.ev T ρ).bind fun zs => T.fn f (T.arr sh ds zs)
  | .met m a es, ρ => (a.ev T ρ).bind fun x => grd (metOk m x) ((es.ev T ρ).bind fun ds => (metD m x ds).quiet)
  | .isi a t, ρ => (a.ev T ρ).bind fun x => ((isiD t x).map .bool).quiet
  | .isx v c, ρ => match ρ[v]? with | some (.xn e) => grd (decide (e.1 < T.cls.length) && decide (c < T.cls.length)) (.ok (.bool (T.isa e.1 c))) | _ => .no
  | .isv v, ρ => match ρ[v]? with | some (.xn e) => grd (decide (e.1 < T.cls.length)) (.ok (.bool true)) | _ => .no
  | .cmpr e t k is c own, ρ => ((is.ev T ρ).bind fun ds => (itD k ds).quiet).bind fun its => grd (few its.length) ((gather (turnD t (fun ρ1 => (c.ev T ρ1).bind tst) (fun ρ1 => e.ev T ρ1) own ρ) its).map .list)
  | .sst e, ρ => (e.ev T ρ).bind sstD
  | .ssc ln e t k is own, ρ => ((is.ev T ρ).bind fun ds => (itD k ds).quiet).bind fun its => ((gather (turnD t (fun _ => .ok true) (fun ρ1 => e.ev T ρ1) own ρ) its).bind intsD).quiet.bind (sscD ln)
  | .cm2 e t k is t1 k1 is1 own own1, ρ => ((is.ev T ρ).bind fun ds => (itD k ds).quiet).bind fun its => (gath2 (turn2 t (fun ρ1 => (is1.ev T ρ1).bind fun ds => (itD k1 ds).quiet) t1 (fun ρ2 => e.ev T ρ2) own own1 ρ) its).bind fun r => grd (few r.length) (.ok (.list r))
def Es.ev (T : Tb) : Es → Env → Rs (List D)
  | .nil, _ => .ok []
  | .cons e es, ρ => (e.ev T ρ).bind fun x => (es.ev T ρ).map fun r => x :: r
end
end Rf
set_option Elab.async false
set_option linter.all false
set_option maxRecDepth 100000
namespace Rf
open PySem PySem.Spec PyProof.Rows L2
/-! ### data in heaps -/
theorem Same.seqT {K : PySem.W.Frag} {H H' : Hp} {a : Addr} {xs : List V} (e : Same H H') (h : SqT K H a xs) : SqT K H' a xs := by
  rcases h with (h | ⟨o, h⟩) | h
  · exact .inl (.inl (e _ _ h))
  · exact .inl (.inr ⟨o, e _ _ h⟩)
  · exact .inr h
mutual
theorem Dp_mono {K : PySem.W.Frag} {G H : Hp} (e : Same G H) : ∀ {v : V} {d : D}, Dp K G v d → Dp K H v d
  | _, _, .non => .non
  | _, _, .bl b => .bl b
  | _, _, .int i => .int i
  | _, _, .str x => .str x
  | _, _, .lst q r => .lst (e.seq q) (DpAll_mono e r)
  | _, _, .tup q r => .tup (Same.seqT e q) (DpAll_mono e r)
theorem DpAll_mono {K : PySem.W.Frag} {G H : Hp} (e : Same G H) : ∀ {vs : List V} {ds : List D}, DpAll K G vs ds → DpAll K H vs ds
  | _, _, .nil => .nil
  | _, _, .cons a b => .cons (Dp_mono e a) (DpAll_mono e b)
end
section
variable {K : PySem.W.Frag} {G : Hp}
theorem DpAll_len : ∀ {vs : List V} {ds : List D}, DpAll K G vs ds → vs.length = ds.length
  | _, _, .nil => rfl
  | _, _, .cons _ b => by simp [DpAll_len b]
theorem DpAll_app : ∀ {vs ws : List V} {ds es : List D}, DpAll K G vs ds → DpAll K G ws es → DpAll K G (vs ++ ws) (ds ++ es)
  | _, _, _, _, .nil, h => h
  | _, _, _, _, .cons a b, h => .cons a (DpAll_app b h)
theorem DpAll_take : ∀ {vs : List V} {ds : List D} (n : Nat), DpAll K G vs ds → DpAll K G (vs.take n) (ds.take n)
  | _, _, 0, _ => .nil
  | _, _, _ + 1, .nil => .nil
  | _, _, n + 1, .cons a b => .cons a (DpAll_take n b)
theorem DpAll_drop : ∀ {vs : List V} {ds : List D} (n : Nat), DpAll K G vs ds → DpAll K G (vs.drop n) (ds.drop n)
  | _, _, 0, h => h
  | _, _, _ + 1, .nil => .nil
  | _, _, n + 1, .cons a b => DpAll_drop n b
theorem DpAll_rev {vs : List V} {ds : List D} (h : DpAll K G vs ds) : DpAll K G vs.reverse ds.reverse := by
  induction vs generalizing ds with
  | nil => cases h; exact .nil
  | cons v vs ih =>
    cases h with
    | cons a b => rw [List.reverse_cons, List.reverse_cons]; exact DpAll_app (ih b) (.cons a .nil)
theorem DpAll_get : ∀ {vs : List V} {ds : List D} {i : Nat} {d : D}, DpAll K G vs ds → ds[i]? = some d → ∃ v, vs[i]? = some v ∧ Dp K G v d
  | _, _, _, _, .nil, h => by simp at h
  | _, _, 0, d, .cons a b, h => by simp at h; subst h; exact ⟨_, rfl, a⟩
  | _, _, i + 1, d, .cons a b, h => by
    obtain ⟨v, e, r⟩ := DpAll_get (i := i) b (by simpa using h)
    exact ⟨v, by simpa using e, r⟩
theorem DpAll_getV : ∀ {vs : List V} {ds : List D} {i : Nat} {v : V}, DpAll K G vs ds → vs[i]? = some v → ∃ d, ds[i]? = some d ∧ Dp K G v d
  | _, _, _, _, .nil, h => by simp at h
  | _, _, 0, v, .cons a b, h => by simp at h; subst h; exact ⟨_, rfl, a⟩
  | _, _, i + 1, v, .cons a b, h => by
    obtain ⟨d, e, r⟩ := DpAll_getV (i := i) b (by simpa using h)
    exact ⟨d, by simpa using e, r⟩
theorem DpAll_set : ∀ {vs : List V} {ds : List D} {v : V} {d : D} (i : Nat), DpAll K G vs ds → Dp K G v d → DpAll K G (vs.set i v) (ds.set i d)
  | _, _, _, _, _, .nil, _ => .nil
  | _, _, _, _, 0, .cons a b, h => .cons h b
  | _, _, _, _, i + 1, .cons a b, h => .cons a (DpAll_set i b h)
theorem DpAll_atI {vs : List V} {ds : List D} {i : Int} {d : D} (h : DpAll K G vs ds) (e : atI ds i = some d) : ∃ v, atI vs i = some v ∧ Dp K G v d := by
  unfold atI at e ⊢
  rw [DpAll_len h]
  cases q : ixN ds.length i with
  | none => rw [q] at e; cases e
  | some j =>
    rw [q] at e
    exact DpAll_get h (show ds[j]? = some d from e)
theorem DpAll_cut {vs : List V} {ds : List D} (h : DpAll K G vs ds) (lo hi : Option Int) : DpAll K G (cutV vs lo hi) (cutD ds lo hi) := by
  unfold cutV cutD
  rw [DpAll_len h]
  exact DpAll_take _ (DpAll_drop _ h)
theorem DpAll_ints : ∀ {vs : List V} {ds : List D} {ns : List Int}, DpAll K G vs ds → intsD ds = .ok ns → vs = ns.map V.int
  | _, _, _, .nil, h => by cases h; rfl
  | _, _, ns, .cons (d := d) (ds := ds) a b, h => by
    cases a with
    | int i =>
      unfold intsD at h
      cases q : intsD ds with
      | ok m =>
        rw [q] at h
        have e : i :: m = ns := by injection h
        subst e
        rw [DpAll_ints b q]; rfl
      | ex e => rw [q] at h; cases h
      | no => rw [q] at h; cases h
    | non => unfold intsD at h; cases h
    | bl => unfold intsD at h; cases h
    | str => unfold intsD at h; cases h
    | lst => unfold intsD at h; cases h
    | tup => unfold intsD at h; cases h
theorem DpAll_bools : ∀ {vs : List V} {ds : List D} {ns : List Bool}, DpAll K G vs ds → boolsD ds = .ok ns → vs = ns.map V.bl
  | _, _, _, .nil, h => by cases h; rfl
  | _, _, ns, .cons (d := d) (ds := ds) a b, h => by
    cases a with
    | bl i =>
      unfold boolsD at h
      cases q : boolsD ds with
      | ok m =>
        rw [q] at h
        have e : i :: m = ns := by injection h
        subst e
        rw [DpAll_bools b q]; rfl
      | ex e => rw [q] at h; cases h
      | no => rw [q] at h; cases h
    | non => unfold boolsD at h; cases h
    | int => unfold boolsD at h; cases h
    | str => unfold boolsD at h; cases h
    | lst => unfold boolsD at h; cases h
    | tup => unfold boolsD at h; cases h
end
/-- on the way: nothing tracked is changed, the frozen part grows by new objects alone -/
structure Stp (G H G' H' : Hp) : Prop where
  hh : Same H H'
  gg : Same G G'
  gh : Same G' H'
  nw : ∀ a o, G' a = some o → G a = none → H a = none
theorem Stp.refl {G H : Hp} (s : Same G H) : Stp G H G H := ⟨Same.refl H, Same.refl G, s, fun a o h n => by rw [h] at n; cases n⟩
theorem Stp.sub {G H G' H' : Hp} (s : Stp G H G' H') : Same G' H' := s.gh
theorem Stp.trans {G H G1 H1 G2 H2 : Hp} (a : Stp G H G1 H1) (b : Stp G1 H1 G2 H2) : Stp G H G2 H2 :=
  ⟨a.hh.trans b.hh, a.gg.trans b.gg, b.gh, fun c o h n => by
    cases q : G1 c with
    | none => exact a.hh.free (b.nw c o h q)
    | some u => exact a.nw c u q n⟩
theorem Same.upd {H : Hp} {p : Addr} {o : HO} (h : H p = none) : Same H (upd H p o) := fun b x e => by
  rw [upd_ne (ne_of_none e h)]
  exact e
theorem Stp.new {G H : Hp} {p : Addr} {o : HO} (s : Same G H) (h : H p = none) : Stp G H (upd G p o) (upd H p o) :=
  ⟨Same.upd h, Same.upd (s.free h), fun a u e => by
    by_cases q : a = p
    · subst q; rw [upd_same] at e ⊢; exact e
    · rw [upd_ne q] at e ⊢; exact s a u e, fun a u e n => by
    by_cases q : a = p
    · subst q; exact h
    · rw [upd_ne q] at e; rw [e] at n; cases n⟩
/-- an object that is laid beside the frozen ones -/
theorem Stp.beside {G H : Hp} {p : Addr} {o : HO} (s : Same G H) (h : H p = none) : Stp G H G (L2.upd H p o) :=
  ⟨Same.upd h, Same.refl G, fun a u e => Same.upd h a u (s a u e), fun a u e n => by rw [e] at n; cases n⟩

/-! ### wishes -/
/-- the classes' places; what is wanted of what is raised -/
structure Cw where
  K : PySem.W.Frag
  ca : Nat → Addr
  W : WX
  xa : Option (Addr × Xn)
def XW (ca : Nat → Addr) (W : WX) (σ : L2.St) (e : Xn) (H : Hp) : Prop := match e.2 with
  | none => W (.ref (ca e.1)) none σ H
  | some n => ∀ d, H d = some (.xd [("now", .int n)]) → W (.ref (ca e.1)) (some d) σ H
def PoG {α β : Type} (R : Hp → β → α → Prop) (c : Cw) (σ : L2.St) (G H : Hp) (x : Rs α) (Q : β → Hp → Prop) : Prop := match x with
  | .ok d => ∀ u G' H', Stp G H G' H' → R G' u d → Q u H'
  | .ex e => ∀ G' H', Stp G H G' H' → XW c.ca c.W σ e H'
  | .no => False
section
variable {α β γ δ : Type} {R : Hp → β → α → Prop} {S : Hp → δ → γ → Prop} {c : Cw} {σ : L2.St} {G H G1 H1 : Hp}
theorem PoG.mono {x : Rs α} {Q : β → Hp → Prop} (s : Stp G H G1 H1) (p : PoG R c σ G H x Q) : PoG R c σ G1 H1 x Q := by
  cases x with
  | ok d => exact fun u G' H' s' r => p u G' H' (s.trans s') r
  | ex e => exact fun G' H' s' => p G' H' (s.trans s')
  | no => exact p
theorem PoG.seq {x : Rs α} {f : α → Rs γ} {Q : δ → Hp → Prop} {Q1 : β → Hp → Prop} (p : PoG S c σ G H (x.bind f) Q)
    (h : ∀ a u G1 H1, x = .ok a → Stp G H G1 H1 → R G1 u a → PoG S c σ G1 H1 (f a) Q → Q1 u H1) : PoG R c σ G H x Q1 := by
  cases x with
  | ok d => exact fun u G' H' s r => h d u G' H' rfl s r (PoG.mono s p)
  | ex e => exact p
  | no => exact p
end
abbrev Kx := PySem.W.Frag × Option (Addr × Xn)
abbrev Cw.kx (c : Cw) : Kx := (c.K, c.xa)
/-- slots -/
def SlotR (K : Kx) (G H : Hp) : Sl → Option V → Prop
  | .un, _ => True
  | .fz d, v => ∃ u, v = some u ∧ Dp K.1 G u d
  | .ow ds, v => ∃ a vs, v = some (.ref a) ∧ H a = some (.lst vs) ∧ G a = none ∧ DpAll K.1 G vs ds
  | .xn e, v => ∃ a, v = some (.ref a) ∧ K.2 = some (a, e)
structure EnvR (K : Kx) (G H : Hp) (ρ : Env) (σ : L2.St) : Prop where
  len : ρ.length = σ.length
  at_ : ∀ (i : Nat) (s : Sl) (v : Option V), ρ[i]? = some s → σ[i]? = some v → SlotR K G H s v
theorem SlotR.step {K : Kx} {G H G' H' : Hp} {s : Sl} {v : Option V} (st : Stp G H G' H') (h : SlotR K G H s v) : SlotR K G' H' s v := by
  cases s with
  | un => trivial
  | fz d => obtain ⟨u, e, r⟩ := h; exact ⟨u, e, Dp_mono st.gg r⟩
  | ow ds =>
    obtain ⟨a, vs, e, q, n, r⟩ := h
    refine ⟨a, vs, e, st.hh a _ q, ?_, DpAll_mono st.gg r⟩
    cases z : G' a with
    | none => rfl
    | some o => have y := st.nw a o z n; rw [q] at y; cases y
  | xn e => exact h
theorem EnvR.step {K : Kx} {G H G' H' : Hp} {ρ : Env} {σ : L2.St} (st : Stp G H G' H') (h : EnvR K G H ρ σ) : EnvR K G' H' ρ σ :=
  ⟨h.len, fun i s v a b => (h.at_ i s v a b).step st⟩
theorem EnvR.get {K : Kx} {G H : Hp} {ρ : Env} {σ : L2.St} (h : EnvR K G H ρ σ) {i : Nat} {s : Sl} (e : ρ[i]? = some s) : ∃ v, σ[i]? = some v ∧ SlotR K G H s v := by
  obtain ⟨hl, _⟩ := List.getElem?_eq_some_iff.mp e
  have hl2 : i < σ.length := by rw [← h.len]; exact hl
  exact ⟨σ[i], List.getElem?_eq_getElem hl2, h.at_ i s _ e (List.getElem?_eq_getElem hl2)⟩
theorem EnvR.set {K : Kx} {G H : Hp} {ρ : Env} {σ : L2.St} (h : EnvR K G H ρ σ) {i : Nat} {s : Sl} {v : Option V} (r : SlotR K G H s v) : EnvR K G H (ρ.set i s) (σ.set i v) := by
  refine ⟨by simp [h.len], fun j t w a b => ?_⟩
  by_cases e : i = j
  · subst e
    rw [List.getElem?_set_self'] at a b
    cases q : ρ[i]? with
    | none => rw [q] at a; cases a
    | some x =>
      cases q2 : σ[i]? with
      | none => rw [q2] at b; cases b
      | some y =>
        rw [q] at a; rw [q2] at b
        have e1 : s = t := Option.some.inj a
        have e2 : v = w := Option.some.inj b
        subst e1; subst e2; exact r
  · rw [List.getElem?_set_ne e] at a b
    exact h.at_ j t w a b
theorem EnvR.setU {K : Kx} {G H : Hp} {ρ : Env} {σ : L2.St} (h : EnvR K G H ρ σ) {i : Nat} {u : V} {d : D} (r : Dp K.1 G u d) : EnvR K G H (ρ.set i (.fz d)) (σ.set i (some u)) := h.set ⟨u, rfl, r⟩
theorem EnvR.wipe {K : Kx} {G H : Hp} {ρ : Env} {σ : L2.St} (h : EnvR K G H ρ σ) : ∀ vs : List Nat, EnvR K G H (wipeE ρ vs) (L2.wipe σ vs)
  | [] => h
  | v :: vs => by
    unfold wipeE L2.wipe
    exact (EnvR.wipe h vs).set trivial
/-- what an expression asks: its value by the evaluator -/
def tG {α β : Type} (R : Hp → β → α → Prop) (c : Cw) (r : Env → Rs α) : L2.St → Hp → (β → Hp → Prop) → Prop := fun σ H Q => ∃ ρ G, Same G H ∧ EnvR c.kx G H ρ σ ∧ PoG R c σ G H (r ρ) Q
abbrev tE (c : Cw) (r : Env → Rs D) : TE := tG (Dp c.K) c r
abbrev tL (c : Cw) (r : Env → Rs (List D)) : TA := tG (DpAll c.K) c r
abbrev tTs (c : Cw) (r : Env → Rs D) : TT := tG (fun _ b b' => b' = b) c fun ρ => (r ρ).bind asB
theorem PE.mono {X : Cx} {e : Expr} {t t' : TE} (h : PE X e t) (i : ∀ σ H Q, t' σ H Q → t σ H Q) : PE X e t' := ⟨fun pins s σ H Q I q => h.run pins s σ H Q I (i _ _ _ q)⟩
theorem PT.mono {X : Cx} {e : Expr} {t t' : TT} (h : PT X e t) (i : ∀ σ H Q, t' σ H Q → t σ H Q) : PT X e t' := ⟨fun pins s σ H Q I q => h.run pins s σ H Q I (i _ _ _ q)⟩
theorem PW.mono {X : Cx} {e : Expr} {t t' : TT} (h : PW X e t) (i : ∀ σ H Q, t' σ H Q → t σ H Q) : PW X e t' := ⟨fun w pins s σ H Q I q => h.run w pins s σ H Q I (i _ _ _ q)⟩
theorem PA.mono {X : Cx} {e : List Expr} {t t' : TA} (h : PA X e t) (i : ∀ σ H Q, t' σ H Q → t σ H Q) : PA X e t' := ⟨fun p pins s σ H Q I q => h.run p pins s σ H Q I (i _ _ _ q)⟩
/-- the first part of a bind -/
theorem tG.first {α β γ δ : Type} {R : Hp → β → α → Prop} {S : Hp → δ → γ → Prop} {c : Cw} {σ : L2.St} {G H : Hp} {ρ : Env} {r : Env → Rs α} {f : α → Rs γ} {Q : δ → Hp → Prop} {Q1 : β → Hp → Prop} (sg : Same G H) (e : EnvR c.kx G H ρ σ)
    (p : PoG S c σ G H ((r ρ).bind f) Q) (h : ∀ a u G1 H1, Same G1 H1 → EnvR c.kx G1 H1 ρ σ → Stp G H G1 H1 → R G1 u a → PoG S c σ G1 H1 (f a) Q → Q1 u H1) : tG R c r σ H Q1 :=
  ⟨ρ, G, sg, e, p.seq fun a u G1 H1 _ st ra p1 => h a u G1 H1 st.gh (e.step st) st ra p1⟩
/-- the last part, as it stands -/
theorem tG.last {α β : Type} {R : Hp → β → α → Prop} {c : Cw} {σ : L2.St} {G H : Hp} {ρ : Env} {r : Env → Rs α} {Q : β → Hp → Prop} (sg : Same G H) (e : EnvR c.kx G H ρ σ) (p : PoG R c σ G H (r ρ) Q) : tG R c r σ H Q := ⟨ρ, G, sg, e, p⟩
end Rf
set_option Elab.async false
set_option linter.all false
set_option maxRecDepth 100000
set_option maxHeartbeats 4000000
namespace Rf
open PySem PySem.Spec PyProof.Rows L2
/-! ### a tuple, a list, a text so many times -/
theorem tupOnce (l : Addr) (items : Array Value) (n : Nat) (dd : Option Addr) (sl : Array (Option Value)) (u : Tok) :
    Meets (Builtin.«tuple.__mul__» ⟨[.ref l, .int 1 u], []⟩) (fun _ R s => s.heap.get? l = some { cls := .type "tuple", dict := dd, data := .seq items n, slots := sl } ∧ R (.ok (.ret (.ref l))) s) :=
  .of_wp fun prog w A R s h => by
    obtain ⟨hp, g, d, tk, os⟩ := s
    obtain ⟨hl, hR⟩ := h
    have f1 := AutoSeq1.idx_int
    have c0 : (decide ((1 : Int) < -(2 ^ 63)) || decide ((1 : Int) ≥ 2 ^ 63)) = false := by decide
    have c1 : (items.isEmpty || (1 : Int) == 1) = true := by rw [Bool.or_comm]; rfl
    wp_walk using wpAny_loadPart' hl
    repeat (first
      | (refine wpAny_ite_false (decide_eq_false (by rw [c0]; exact Bool.false_ne_true)) ?_; wp_walk using wpAny_loadPart' hl)
      | (refine wpAny_ite_true (decide_eq_true (by rw [c1])) ?_; wp_walk using wpAny_loadPart' hl))
    exact ⟨_, rfl, hR⟩
theorem tupNone (l : Addr) (items : Array Value) (n : Nat) (dd : Option Addr) (sl : Array (Option Value)) (x : Int) (u : Tok) (h1 : -(2 ^ 63) ≤ x) (h2 : x ≤ 0) (hi : items.isEmpty = false) :
    Meets (Builtin.«tuple.__mul__» ⟨[.ref l, .int x u], []⟩) (fun _ R s => s.heap.get? l = some { cls := .type "tuple", dict := dd, data := .seq items n, slots := sl } ∧
      R (.ok (.ret (Value.ref s.heap.objs.size))) { s with heap := s.heap.push { cls := Value.type "tuple", data := Data.seq #[] }, toks := s.toks }) :=
  .of_wp fun prog w A R s h => by
    obtain ⟨hp, g, d, tk, os⟩ := s
    obtain ⟨hl, hR⟩ := h
    have f1 := AutoSeq1.idx_int
    have c0 : (decide (x < -(2 ^ 63)) || decide (x ≥ 2 ^ 63)) = false := by rw [decide_eq_false (by omega), decide_eq_false (by omega)]; rfl
    have c1 : (items.isEmpty || x == 1) = false := by rw [hi, Bool.false_or]; exact beq_eq_false_iff_ne.mpr (by omega)
    have c2 : (decide (x ≤ 0) || items.isEmpty) = true := by rw [decide_eq_true h2]; rfl
    wp_walk using wpAny_loadPart' hl
    repeat (first
      | (refine wpAny_ite_false (decide_eq_false (by rw [c0]; exact Bool.false_ne_true)) ?_; wp_walk using wpAny_loadPart' hl)
      | (refine wpAny_ite_false (decide_eq_false (by rw [c1]; exact Bool.false_ne_true)) ?_; wp_walk using wpAny_loadPart' hl)
      | (refine wpAny_ite_true (decide_eq_true (by rw [c2])) ?_; wp_walk using wpAny_loadPart' hl))
    exact ⟨_, rfl, hR⟩
def rTimesT (K : PySem.W.Frag) : R2 := fun x y H Q => ∃ l k xs, x = .ref l ∧ y = .int k ∧ SqT K H l xs ∧ xs ≠ [] ∧ -(2 ^ 60) ≤ k ∧ k ≤ 1000 ∧ xs.length ≤ 1000 ∧ (k = 1 → Q (.ref l) H) ∧ (k ≠ 1 → ∀ p, H p = none → Q (.ref p) (upd H p (.tup (List.replicate k.toNat xs).flatten)))
section
variable {X : Cx}
theorem opTimesT : OpR X (binaryOp .Mult) (rTimesT X.K) := by
  intro pins s σ H x y v u Q I rx ry h
  obtain ⟨l, k, xs, rfl, rfl, hT, hne, h1, h2, hz, q1, q2⟩ := h
  by_cases hk : 2 ≤ k
  · exact op_repT pins s σ H _ _ v u Q I rx ry ⟨l, k, xs, rfl, rfl, hT, hne, hk, h2, hz, q2 (by omega)⟩
  cases rx
  obtain ⟨t, rfl⟩ := ry
  obtain ⟨its, r, ⟨⟨cls, dd, data, sl⟩, ho, hc, n, hd⟩, hs⟩ := I.tuple hT
  simp only at hc hd
  subst hc hd
  have hle : its.length = xs.length := r.length.symm
  have hi : its.toArray.isEmpty = false := by
    cases its with
    | nil => exact absurd (List.eq_nil_of_length_eq_zero (by rw [← hle]; rfl)) hne
    | cons a b => rfl
  by_cases e1 : k = 1
  · subst e1
    exact wpAny_binaryOp_repeat_ref (T := "tuple") (U := "int") (by decide) ⟨_, ho, rfl⟩ (fun s' => typeIs_int s' 1 t) noFill_tuple_mul F.fills_int_mul F.slot_int_rmul repeat_tuple F.slot_int_index.lookup
      (call_meets F.slot_int_rmul (typeIs_int s 1 t) F.entry_int_rmul (F.args_int_rmul_2 _ _) (int_rmul_tuple 1 t l its.toArray n dd sl)
        ⟨ho, rfl, ⟨_, ho, rfl⟩, call_meets F.slot_tuple_mul ⟨_, ho, rfl⟩ F.entry_tuple_mul (F.args_tuple_mul_2 _ _) (tupOnce l its.toArray n dd sl t) ⟨ho, .ref l, H, I, rfl, q1 rfl⟩⟩)
  · refine wpAny_binaryOp_repeat_ref (T := "tuple") (U := "int") (by decide) ⟨_, ho, rfl⟩ (fun s' => typeIs_int s' k t) noFill_tuple_mul F.fills_int_mul F.slot_int_rmul repeat_tuple F.slot_int_index.lookup
      (call_meets F.slot_int_rmul (typeIs_int s k t) F.entry_int_rmul (F.args_int_rmul_2 _ _) (int_rmul_tuple k t l its.toArray n dd sl)
        ⟨ho, rfl, ⟨_, ho, rfl⟩, call_meets F.slot_tuple_mul ⟨_, ho, rfl⟩ F.entry_tuple_mul (F.args_tuple_mul_2 _ _) (tupNone l its.toArray n dd sl k t (by omega) (by omega) hi) ⟨ho, ?_⟩⟩)
    have e0 : (List.replicate k.toNat xs).flatten = [] := by rw [show k.toNat = 0 by omega]; rfl
    have q := q2 e1
    rw [e0] at q
    exact ⟨.ref s.heap.objs.size, _, I.laid (t' := s.toks) (o := .tup []) (fun b ob q => Heap.get?_push_of_some _ q) (Nat.le_refl _) ⟨Nat.zero_le _, [], .nil, IsTup.new _ _⟩, rfl, q _ (I.hok.fresh (Nat.le_refl _))⟩
end
theorem lstTimes (l : Addr) (items : Array Value) (n : Nat) (sl : Array (Option Value)) (x : Int) (u : Tok) (hc0 : ¬(!Builtin.List.listFitsIndex x) = true) (hc1 : ¬items.size * x.toNat > (2 ^ 63 - 1) / 8) (hc2 : ¬Builtin.List.listTooLong (items.size * x.toNat) = true) :
    Meets (Builtin.«list.__mul__» ⟨[.ref l, .int x u], []⟩) (fun _ R s => s.heap.get? l = some { cls := .type "list", dict := none, data := .seq items n, slots := sl } ∧
      R (.ok (.ret (Value.ref s.heap.objs.size))) { s with heap := s.heap.push { cls := Value.type "list", data := Data.seq (List.foldl (fun x1 x2 => x1 ++ x2) #[] (List.replicate (if items.isEmpty = true then 0 else x.toNat) items)) }, toks := s.toks }) :=
  .of_wp fun prog w A R s h => by
    obtain ⟨hp, g, d, tk, os⟩ := s
    obtain ⟨hl, hR⟩ := h
    have hsz := PySem.AutoListH.joined_fits hc2
    wp_walk using wpAny_loadPart' hl
    refine wpAny_ite_false (decide_eq_false (Nat.not_lt.mpr hsz)) ?_
    wp_walk
    exact ⟨_, rfl, hR⟩
theorem intRmulL (a : Int) (t : Tok) (l : Addr) (items : Array Value) (n : Nat) (sl : Array (Option Value)) :
    Meets (Builtin.«int.__rmul__» ⟨[.int a t, .ref l], []⟩) (fun _ R s => s.heap.get? l = some { cls := .type "list", dict := none, data := .seq items n, slots := sl } ∧ R (.ok (.ret Value.notImplemented)) s) :=
  .of_wp fun prog w A R s h => by
    obtain ⟨hp, g, d, tk, os⟩ := s
    obtain ⟨hl, hR⟩ := h
    wp_walk using wpAny_loadPart' hl
    exact ⟨_, rfl, hR⟩
def rTimesL (K : PySem.W.Frag) : R2 := fun x y H Q => ∃ l k xs, x = .ref l ∧ y = .int k ∧ SqL K H l xs ∧ -(2 ^ 60) ≤ k ∧ k ≤ 1000 ∧ xs.length ≤ 1000 ∧ ∀ p, H p = none → Q (.ref p) (upd H p (.lst (List.replicate k.toNat xs).flatten))
section
variable {X : Cx}
theorem opTimesL : OpR X (binaryOp .Mult) (rTimesL X.K) := by
  intro pins s σ H x y v u Q I rx ry h
  obtain ⟨l, k, xs, rfl, rfl, hH, h1, h2, hz, q⟩ := h
  cases rx
  obtain ⟨t, rfl⟩ := ry
  obtain ⟨its, r, ⟨⟨cls, dd, data, sl⟩, n, ho, hc, hdd, hd⟩, hs⟩ := I.list hH
  simp only at hc hd hdd
  subst hc hd hdd
  have hle : its.length = xs.length := r.length.symm
  have hm : its.toArray.size * k.toNat ≤ 1000000 := by
    rw [List.size_toArray, hle]
    have a1 : xs.length * k.toNat ≤ 1000 * 1000 := Nat.mul_le_mul hz (by omega)
    omega
  have hlen : its.toArray.size * k.toNat ≤ sizeLine := by rw [sizeLine_eq]; omega
  have hcap : ¬ its.toArray.size * k.toNat > (2 ^ 63 - 1) / 8 := by omega
  have hfit : ¬ (!Builtin.List.listFitsIndex k) = true := by rw [fitsIndex_both (by omega) (by omega)]; exact Bool.false_ne_true
  have hlong : ¬ Builtin.List.listTooLong (its.toArray.size * k.toNat) = true := by rw [notLongL hlen]; exact Bool.false_ne_true
  have hnew : List.foldl (fun x1 x2 => x1 ++ x2) #[] (List.replicate (if its.toArray.isEmpty = true then 0 else k.toNat) its.toArray) = (List.replicate k.toNat its).flatten.toArray := by
    rw [size_rep]
    cases its with
    | nil => simp
    | cons a r' => rw [if_neg (by simp)]
  refine wpAny_binaryOp_repeat_ref (T := "list") (U := "int") (by decide) ⟨_, ho, rfl⟩ (fun s' => typeIs_int s' k t) noFill_list_mul F.fills_int_mul F.slot_int_rmul repeat_list F.slot_int_index.lookup
    (call_meets F.slot_int_rmul (typeIs_int s k t) F.entry_int_rmul (F.args_int_rmul_2 _ _) (intRmulL k t l its.toArray n sl)
      ⟨ho, rfl, ⟨_, ho, rfl⟩, call_meets F.slot_list_mul ⟨_, ho, rfl⟩ F.entry_list_mul (F.args_list_mul_2 _ _) (lstTimes l its.toArray n sl k t hfit hcap hlong) ⟨ho, ?_⟩⟩)
  rw [hnew]
  have z : (List.replicate k.toNat xs).flatten.length ≤ sizeLine := by
    rw [PyProof.Rows.lm_len_rep_flat, sizeLine_eq]
    have a1 : k.toNat * xs.length ≤ 1000 * 1000 := Nat.mul_le_mul (by omega) hz
    omega
  exact ⟨.ref s.heap.objs.size, _, I.laid (t' := s.toks) (o := .lst (List.replicate k.toNat xs).flatten) (fun b ob q => Heap.get?_push_of_some _ q) (Nat.le_refl _) ⟨z, _, 0, r.rep k.toNat, Heap.get?_push_size _ rfl⟩, rfl, q _ (I.hok.fresh (Nat.le_refl _))⟩
theorem repS_one (x : Str) : repS x 1 = x := by
  unfold repS
  cases x
  simp
theorem opTimesS : OpR X (binaryOp .Mult) (fun x y H Q => ∃ z k, x = .str z ∧ y = .int k ∧ -(2 ^ 60) ≤ k ∧ k ≤ 1000 ∧ 1 ≤ z.length ∧ z.length ≤ 1000 ∧ Q (.str (repS z k)) H) := by
  intro pins s σ H x y v u Q I rx ry h
  obtain ⟨z, k, rfl, rfl, h1, h2, hz0, hz, q⟩ := h
  obtain ⟨t, rfl⟩ := rx
  obtain ⟨t', rfl⟩ := ry
  have hzz : z.length = z.cps.size := rfl
  refine P.mul_str (by rw [decide_eq_false (by omega), decide_eq_false (by omega)]; rfl) (fun a b => ?_) (fun a b => ?_) ?_
  · have : (1000 : Int) ≤ (2 ^ 63 - 1) / k := by
      have hk : 0 < k := by omega
      rw [Int.le_ediv_iff_mul_le hk]
      omega
    omega
  · have a1 : z.length * k.toNat ≤ 1000 * 1000 := Nat.mul_le_mul hz (by omega)
    unfold Builtin.Str.tooLong
    rw [sizeLine_eq]
    exact decide_eq_false (by omega)
  · by_cases k0 : k < 1
    · rw [if_pos k0]
      have e : repS z k = Str.empty := by unfold repS; rw [show k.toNat = 0 by omega]; rfl
      rw [e] at q
      exact ⟨by decide, .str Str.empty, H, I.tok _, ⟨_, rfl⟩, q⟩
    · rw [if_neg k0]
      by_cases k1 : k = 1
      · subst k1
        rw [repS_one] at q
        rw [if_pos (show ((1 : Int) == 1 || z.length == 0) = true from rfl)]
        exact ⟨.str z, H, I, ⟨_, rfl⟩, q⟩
      · have c : (k == 1 || z.length == 0) = false := by
          rw [Bool.or_eq_false_iff]
          exact ⟨beq_eq_false_iff_ne.mpr k1, beq_eq_false_iff_ne.mpr (by omega)⟩
        rw [if_neg (by rw [c]; exact Bool.false_ne_true)]
        have e : (List.replicate k.toNat z.cps).foldl (· ++ ·) #[] = (List.replicate k.toNat z.cps.toList).flatten.toArray := by
          have f : ∀ (m : Nat) (acc : Array Nat), ((List.replicate m z.cps).foldl (· ++ ·) acc).toList = acc.toList ++ (List.replicate m z.cps.toList).flatten := by
            intro m
            induction m with
            | zero => intro acc; simp
            | succ m ih => intro acc; rw [List.replicate_succ, List.foldl_cons, ih, List.replicate_succ, List.flatten_cons]; simp
          apply Array.toList_inj.mp
          rw [f]; simp
        rw [e]
        have hl : ((List.replicate k.toNat z.cps.toList).flatten.toArray).size ≤ sizeLine := by
          rw [List.size_toArray, PyProof.Rows.lm_len_rep_flat, sizeLine_eq]
          have a1 : k.toNat * z.cps.toList.length ≤ 1000 * 1000 := Nat.mul_le_mul (by omega) (by rw [Array.length_toList]; omega)
          omega
        exact ⟨hl, .str (repS z k), H, I.tok _, ⟨_, rfl⟩, q⟩
end
end Rf
set_option Elab.async false
set_option linter.all false
set_option maxRecDepth 100000
set_option maxHeartbeats 2000000
namespace Rf
open PySem PySem.Spec PyProof.Rows L2
/-! ### operators -/
def PoQ (K : PySem.W.Frag) (G H : Hp) (x : Rs D) (Q : VK) : Prop := match x with
  | .ok d => ∀ u G' H', Stp G H G' H' → Dp K G' u d → Q u H'
  | _ => False
theorem PoG.q {c : Cw} {σ : L2.St} {G H : Hp} {x : Rs D} {Q : VK} (p : PoG (Dp c.K) c σ G H x.quiet Q) : PoQ c.K G H x Q := by
  cases x with
  | ok d => exact p
  | ex e => exact p
  | no => exact p
theorem PoQ.mono {K : PySem.W.Frag} {G H G1 H1 : Hp} {x : Rs D} {Q : VK} (s : Stp G H G1 H1) (p : PoQ K G H x Q) : PoQ K G1 H1 x Q := by
  cases x with
  | ok d => exact fun u G' H' s' r => p u G' H' (s.trans s') r
  | ex e => exact p
  | no => exact p
theorem PoQ.bl {K : PySem.W.Frag} {G H : Hp} {x : Rs Bool} {Q : VK} (s : Same G H) (p : PoQ K G H (x.map .bool) Q) : ∃ b, x = .ok b ∧ Q (.bl b) H := by
  cases x with
  | ok b => exact ⟨b, rfl, p _ G H (Stp.refl s) (.bl b)⟩
  | ex e => exact p.elim
  | no => exact p.elim
theorem PoQ.grd {K : PySem.W.Frag} {G H : Hp} {b : Bool} {x : Rs D} {Q : VK} (p : PoQ K G H (grd b x) Q) : b = true ∧ PoQ K G H x Q := by
  cases b with
  | true => exact ⟨rfl, p⟩
  | false => exact p.elim
def rO2 (K : PySem.W.Frag) (f : D → D → Rs D) : R2 := fun x y H Q => ∃ d e G, Same G H ∧ Dp K G x d ∧ Dp K G y e ∧ PoQ K G H (f d e) Q
def rO1 (K : PySem.W.Frag) (f : D → Rs D) : V → Hp → VK → Prop := fun x H Q => ∃ d G, Same G H ∧ Dp K G x d ∧ PoQ K G H (f d) Q
theorem few_le {n : Nat} (h : few n = true) : n ≤ sizeLine := by
  have := few_iff.mp h
  rw [sizeLine_eq]; omega
theorem few_lt {n : Nat} (h : few n = true) : n < sizeLine := by
  have := few_iff.mp h
  rw [sizeLine_eq]; omega
section
variable {X : Cx}
/-- list + list, of any kind -/
theorem op_catL : OpR X (binaryOp .Add) (fun x y H Q => ∃ l b xs zs, x = .ref l ∧ y = .ref b ∧ SqL X.K H l xs ∧ SqL X.K H b zs ∧ xs.length + zs.length ≤ sizeLine ∧ ∀ p, H p = none → Q (.ref p) (upd H p (.lst (xs ++ zs)))) := by
  intro pins s σ H x y v u Q I rx ry h
  obtain ⟨l, b, xs, zs, rfl, rfl, hH, hB, hz, q⟩ := h
  cases rx
  cases ry
  obtain ⟨its, r, ⟨⟨cls, dd, data, sls⟩, n, ho, hc, hdn, hdt⟩, hl⟩ := I.list hH
  obtain ⟨its2, r2, ⟨⟨cls2, dd2, data2, sls2⟩, n2, ho2, hc2, hdn2, hdt2⟩, hl2⟩ := I.list hB
  simp only at hc hdn hdt hc2 hdn2 hdt2
  subst hc hdn hdt hc2 hdn2 hdt2
  have e1 := r.length
  have e2 := r2.length
  refine concat_meets ⟨_, ho, rfl⟩ ⟨_, ho2, rfl⟩ noFill_list_add seq_list_add PySem.F.slot_list_add PySem.F.entry_list_add (PySem.F.args_list_add_2 _ _) (list_addW l b its.toArray its2.toArray n n2 none none sls sls2 (by rw [List.size_toArray, List.size_toArray]; omega)) ⟨ho, ho2, ?_⟩
  have ea : its.toArray ++ its2.toArray = (its ++ its2).toArray := by simp
  rw [ea]
  exact ⟨.ref _, _, I.lnew (t' := s.toks) (r.append r2) (by rw [List.length_append]; omega), rfl, q _ I.fresh⟩
theorem oAdd : OpR X (binaryOp .Add) (rO2 X.K addD) := by
  intro pins s σ H x y v u Q I rx ry ⟨d, e, G, sg, hd, he, p⟩
  cases hd <;> cases he <;> first | exact (show False from p).elim | skip
  · exact op_add pins s σ H _ _ v u Q I rx ry ⟨_, _, rfl, rfl, p _ G H (Stp.refl sg) (.int _)⟩
  · obtain ⟨g, p⟩ := PoQ.grd p
    exact op_add_str pins s σ H _ _ v u Q I rx ry ⟨_, _, rfl, rfl, few_le g, p _ G H (Stp.refl sg) (.str _)⟩
  · rename_i a xs ds qa ra b ys es qb rb
    obtain ⟨g, p⟩ := PoQ.grd p
    refine op_catL pins s σ H _ _ v u Q I rx ry ⟨a, b, xs, ys, rfl, rfl, sg.seq qa, sg.seq qb, by rw [DpAll_len ra, DpAll_len rb]; exact few_le g, fun q hq => ?_⟩
    have st := Stp.new (o := .lst (xs ++ ys)) sg hq
    exact p _ _ _ st (.lst (SqL.of upd_same) (DpAll_app (DpAll_mono st.gg ra) (DpAll_mono st.gg rb)))
  · rename_i a xs ds qa ra b ys es qb rb
    obtain ⟨g, p⟩ := PoQ.grd p
    refine op_catA pins s σ H _ _ v u Q I rx ry ⟨a, b, xs, ys, rfl, rfl, Same.seqT sg qa, Same.seqT sg qb, by rw [DpAll_len ra, DpAll_len rb]; exact few_le g, fun e => ?_, fun _ e => ?_, fun _ _ q hq => ?_⟩
    · subst e
      cases ra
      exact p _ G H (Stp.refl sg) (.tup qb rb)
    · subst e
      cases rb
      refine p _ G H (Stp.refl sg) (.tup qa ?_)
      rw [List.append_nil]; exact ra
    · have st := Stp.new (o := .tup (xs ++ ys)) sg hq
      exact p _ _ _ st (.tup (SqT.of upd_same) (DpAll_app (DpAll_mono st.gg ra) (DpAll_mono st.gg rb)))
theorem oSub : OpR X (binaryOp .Sub) (rO2 X.K subD) := by
  intro pins s σ H x y v u Q I rx ry ⟨d, e, G, sg, hd, he, p⟩
  cases hd <;> cases he <;> first | exact (show False from p).elim | skip
  exact op_sub pins s σ H _ _ v u Q I rx ry ⟨_, _, rfl, rfl, p _ G H (Stp.refl sg) (.int _)⟩
theorem DpAll_rep {K : PySem.W.Frag} {G : Hp} {vs : List V} {ds : List D} (h : DpAll K G vs ds) : ∀ n : Nat, DpAll K G (List.replicate n vs).flatten (List.replicate n ds).flatten
  | 0 => .nil
  | n + 1 => by rw [List.replicate_succ, List.replicate_succ, List.flatten_cons, List.flatten_cons]; exact DpAll_app h (DpAll_rep h n)
theorem oMul : OpR X (binaryOp .Mult) (rO2 X.K mulD) := by
  intro pins s σ H x y v u Q I rx ry ⟨d, e, G, sg, hd, he, p⟩
  cases hd <;> cases he <;> first | exact (show False from p).elim | skip
  · obtain ⟨g, p⟩ := PoQ.grd p
    refine op_mul pins s σ H _ _ v u Q I rx ry ⟨_, _, rfl, rfl, ?_, p _ G H (Stp.refl sg) (.int _)⟩
    simp only [Bool.or_eq_true, smI_iff] at g
    exact g
  · obtain ⟨g, p⟩ := PoQ.grd p
    simp only [Bool.and_eq_true, tmI_iff, Nat.ble_eq] at g
    exact opTimesS pins s σ H _ _ v u Q I rx ry ⟨_, _, rfl, rfl, g.1.1, g.1.2, g.2.1, g.2.2, p _ G H (Stp.refl sg) (.str _)⟩
  · rename_i a xs ds qa ra k
    obtain ⟨g, p⟩ := PoQ.grd p
    simp only [Bool.and_eq_true, tmI_iff, Nat.ble_eq] at g
    refine opTimesL pins s σ H _ _ v u Q I rx ry ⟨a, k, xs, rfl, rfl, sg.seq qa, g.1.1, g.1.2, by rw [DpAll_len ra]; exact g.2, fun q hq => ?_⟩
    have st := Stp.new (o := .lst (List.replicate k.toNat xs).flatten) sg hq
    exact p _ _ _ st (.lst (SqL.of upd_same) (DpAll_rep (DpAll_mono st.gg ra) _))
  · rename_i a xs ds qa ra k
    obtain ⟨g, p⟩ := PoQ.grd p
    simp only [Bool.and_eq_true, tmI_iff, Nat.ble_eq] at g
    refine opTimesT pins s σ H _ _ v u Q I rx ry ⟨a, k, xs, rfl, rfl, Same.seqT sg qa, fun e => by subst e; have := DpAll_len ra; simp at this; omega, g.1.1, g.1.2, by rw [DpAll_len ra]; exact g.2.2, fun e => ?_, fun e q hq => ?_⟩
    · subst e
      exact p _ G H (Stp.refl sg) (.tup qa (by have e2 : rep ds 1 = ds := by { show (List.replicate 1 ds).flatten = ds; simp }; rw [e2]; exact ra))
    · have st := Stp.new (o := .tup (List.replicate k.toNat xs).flatten) sg hq
      exact p _ _ _ st (.tup (SqT.of upd_same) (DpAll_rep (DpAll_mono st.gg ra) _))
theorem oDiv : OpR X (binaryOp .FloorDiv) (rO2 X.K divD) := by
  intro pins s σ H x y v u Q I rx ry ⟨d, e, G, sg, hd, he, p⟩
  cases hd <;> cases he <;> first | exact (show False from p).elim | skip
  rename_i i j
  obtain ⟨g, p⟩ := PoQ.grd p
  rw [Bool.and_eq_true, posI_iff, smI_iff] at g
  refine op_fdivW pins s σ H _ _ v u Q I rx ry ⟨_, _, rfl, rfl, wide_div (b := 64) g.1 (by omega) (by decide) (by decide), p _ G H (Stp.refl sg) (.int _)⟩
theorem oMod : OpR X (binaryOp .Mod) (rO2 X.K modD) := by
  intro pins s σ H x y v u Q I rx ry ⟨d, e, G, sg, hd, he, p⟩
  cases hd <;> cases he <;> first | exact (show False from p).elim | skip
  obtain ⟨g, p⟩ := PoQ.grd p
  exact op_mod pins s σ H _ _ v u Q I rx ry ⟨_, _, rfl, rfl, posI_iff.mp g, p _ G H (Stp.refl sg) (.int _)⟩
theorem oPow : OpR X (binaryOp .Pow) (rO2 X.K powD) := by
  intro pins s σ H x y v u Q I rx ry ⟨d, e, G, sg, hd, he, p⟩
  cases hd <;> cases he <;> first | exact (show False from p).elim | skip
  rename_i i j
  cases j with
  | negSucc n => exact (show False from p).elim
  | ofNat n =>
    obtain ⟨g, p⟩ := PoQ.grd p
    rw [Bool.and_eq_true, Nat.ble_eq, Nat.ble_eq] at g
    exact op_pow pins s σ H _ _ v u Q I rx ry ⟨_, _, rfl, rfl, ⟨by simp, by simp; omega, by have := g.2; omega⟩, p _ G H (Stp.refl sg) (.int _)⟩
theorem oBin (o : Operator) : OpR X (binaryOp o) (rO2 X.K (binD o)) := by
  cases o <;> first | exact oAdd | exact oSub | exact oMul | exact oDiv | exact oMod | exact oPow | exact fun pins s σ H x y v u Q I rx ry ⟨d, e, G, sg, hd, he, p⟩ => (show False from p).elim
theorem oNeg : UnR X (unaryOp .USub) (rO1 X.K negD) := by
  intro pins s σ H x v Q I rx ⟨d, G, sg, hd, p⟩
  cases hd <;> first | exact (show False from p).elim | skip
  exact un_neg pins s σ H _ v Q I rx ⟨_, rfl, p _ G H (Stp.refl sg) (.int _)⟩
/-! ### comparisons -/
theorem Dp.up {K : PySem.W.Frag} {G H : Hp} {v : V} {d : D} (sg : Same G H) (h : Dp K G v d) : Dp K H v d := Dp_mono sg h
def rOB (K : PySem.W.Frag) (f : D → D → Rs Bool) : R2 := rO2 K fun d e => (f d e).map .bool
theorem oEq (hu : X.A.units + 65 < cLine) : OpR X (compareOp .Eq) (rOB X.K eqD) := by
  intro pins s σ H x y v u Q I rx ry ⟨d, e, G, sg, hd, he, p⟩
  obtain ⟨b, eb, q⟩ := PoQ.bl sg p
  have eb : eqD d e = .ok b := eb
  unfold eqD grd at eb
  by_cases g0 : (SeqAt.shaped d && SeqAt.shaped e) = true
  rw [if_pos g0] at eb
  · have g := g0
    simp only [Bool.and_eq_true] at g
    injection eb with eb
    subst eb
    exact op_eqD (by omega) pins s σ H _ _ v u Q I rx ry ⟨d, e, Dp_mono sg hd, Dp_mono sg he, g.1, g.2, q⟩
  · rw [if_neg g0] at eb; cases eb
theorem oNe (hu : X.A.units + 65 < cLine) : OpR X (compareOp .NotEq) (rOB X.K fun d e => (eqD d e).map not) := by
  intro pins s σ H x y v u Q I rx ry ⟨d, e, G, sg, hd, he, p⟩
  obtain ⟨b, eb, q⟩ := PoQ.bl sg p
  have eb : (eqD d e).map not = .ok b := eb
  unfold eqD grd at eb
  by_cases g0 : (SeqAt.shaped d && SeqAt.shaped e) = true
  rw [if_pos g0] at eb
  · have g := g0
    simp only [Bool.and_eq_true] at g
    simp only [Rs.map, Rs.bind_ok] at eb
    injection eb with eb
    subst eb
    exact op_neD (by omega) pins s σ H _ _ v u Q I rx ry ⟨d, e, Dp_mono sg hd, Dp_mono sg he, g.1, g.2, q⟩
  · rw [if_neg g0] at eb; cases eb
theorem oLe (hu : X.A.units + 65 < cLine) : OpR X (compareOp .LtE) (rOB X.K leD) := by
  intro pins s σ H x y v u Q I rx ry ⟨d, e, G, sg, hd, he, p⟩
  obtain ⟨b, eb, q⟩ := PoQ.bl sg p
  cases hd <;> cases he <;> first | cases eb; done | skip
  · injection eb with eb
    subst eb
    exact op_le pins s σ H _ _ v u Q I rx ry ⟨_, _, rfl, rfl, q⟩
  · rename_i a vs1 xs q1 r1 b2 vs2 ys q2 r2
    have eb : (intsD xs).bind (fun a => (intsD ys).map fun b => leL a b) = .ok b := eb
    cases h1 : intsD xs with
    | ok ns =>
      cases h2 : intsD ys with
      | ok ms =>
        rw [h1, h2] at eb
        have eb : Rs.ok (leL ns ms) = .ok b := eb
        injection eb with eb
        subst eb
        have e1 := DpAll_ints r1 h1
        have e2 := DpAll_ints r2 h2
        subst e1 e2
        exact op_leT (by omega) pins s σ H _ _ v u Q I rx ry ⟨_, _, ns, ms, rfl, rfl, Same.seqT sg q1, Same.seqT sg q2, q⟩
      | ex e => rw [h1, h2] at eb; cases eb
      | no => rw [h1, h2] at eb; cases eb
    | ex e => rw [h1] at eb; cases eb
    | no => rw [h1] at eb; cases eb
def gtD : D → D → Rs Bool := cmpB .Gt
def geD : D → D → Rs Bool := cmpB .GtE
theorem oGt : OpR X (compareOp .Gt) (rOB X.K (cmpB .Gt)) := by
  intro pins s σ H x y v u Q I rx ry ⟨d, e, G, sg, hd, he, p⟩
  obtain ⟨b, eb, q⟩ := PoQ.bl sg p
  cases hd <;> cases he <;> first | cases eb; done | skip
  injection eb with eb
  subst eb
  exact op_gt pins s σ H _ _ v u Q I rx ry ⟨_, _, rfl, rfl, q⟩
theorem oGe : OpR X (compareOp .GtE) (rOB X.K (cmpB .GtE)) := by
  intro pins s σ H x y v u Q I rx ry ⟨d, e, G, sg, hd, he, p⟩
  obtain ⟨b, eb, q⟩ := PoQ.bl sg p
  cases hd <;> cases he <;> first | cases eb; done | skip
  injection eb with eb
  subst eb
  exact op_ge pins s σ H _ _ v u Q I rx ry ⟨_, _, rfl, rfl, q⟩
theorem oIs : OpR X (compareOp .Is) (rOB X.K isD) := by
  intro pins s σ H x y v u Q I rx ry ⟨d, e, G, sg, hd, he, p⟩
  obtain ⟨b, eb, q⟩ := PoQ.bl sg p
  cases he with
  | non =>
    refine op_isN pins s σ H _ _ v u Q I rx ry ⟨rfl, ?_⟩
    cases hd <;> (injection eb with eb; subst eb; exact q)
  | bl k =>
    cases hd <;> first | cases eb; done | skip
    injection eb with eb
    subst eb
    exact op_isBl pins s σ H _ _ v u Q I rx ry ⟨_, _, rfl, rfl, q⟩
  | int => cases hd <;> cases eb
  | str => cases hd <;> cases eb
  | lst => cases hd <;> cases eb
  | tup => cases hd <;> cases eb
theorem oIsNot : OpR X (compareOp .IsNot) (rOB X.K fun d e => (isD d e).map not) := by
  intro pins s σ H x y v u Q I rx ry ⟨d, e, G, sg, hd, he, p⟩
  obtain ⟨b, eb, q⟩ := PoQ.bl sg p
  cases he with
  | non =>
    refine op_notN pins s σ H _ _ v u Q I rx ry ⟨rfl, ?_⟩
    cases hd <;> (simp only [isD, Rs.map, Rs.bind_ok] at eb; injection eb with eb; subst eb; exact q)
  | bl k =>
    cases hd <;> first | cases eb; done | skip
    simp only [isD, Rs.map, Rs.bind_ok] at eb
    injection eb with eb
    subst eb
    exact op_notBl pins s σ H _ _ v u Q I rx ry ⟨_, _, rfl, rfl, q⟩
  | int => cases hd <;> cases eb
  | str => cases hd <;> cases eb
  | lst => cases hd <;> cases eb
  | tup => cases hd <;> cases eb
theorem oInT (hu : X.A.units + 65 < cLine) {pins s σ H x y v u Q} {d : D} {ds : List D} (I : Inv X pins σ H s) (rx : RelV x v) (ry : RelV y u) (hd : Dp X.K H x d) (he : Dp X.K H y (.tuple ds)) (sd : SeqAt.shaped d = true) (se : SeqAt.shaped (.tuple ds) = true)
    (q : Q (.bl (ds.any fun z => PyData.eqv z d)) H) : wpAny (model X.prog X.w) X.A (compareOp .In v u) (EP X pins σ Q) X.xe s := by
  obtain ⟨as, r1⟩ := Dp.reads I d x v hd rx
  cases he with
  | tup hs ha =>
    cases ry
    obtain ⟨its, rv, ht, hlen⟩ := I.tuple hs
    obtain ⟨bs, h4⟩ := Dp.readsAll I ds _ its ha rv
    have hxs : PyData.canLayAll0 ds = true := SeqAt.canLay_of_shaped se
    have hmap : its.map (SeqAt.readOf s.heap) = ds := SeqAt.readsAll_map ds its bs hxs h4
    have hroom : X.A.units + 1 + min (PyData.depthAll ds) d.depth < cLine := room_in_shaped sd hu
    refine SeqAt.in_tupleAt (fun u => PyData.eqv (SeqAt.readOf s.heap u) d) (show s.heap.IsTuple _ its.toArray from ht) (SeqAt.items_eqAt (vs := its.toArray) (show ReadsAll s.heap its.toArray.toList ds bs from h4) r1 hxs (SeqAt.canLay_of_shaped sd) hroom) ?_
    refine ⟨.bl _, H, I, rfl, ?_⟩
    have e : (its.toArray.any fun u => PyData.eqv (SeqAt.readOf s.heap u) d) = ds.any fun z => PyData.eqv z d := by
      rw [← hmap]
      rw [List.any_map]
      first | rfl | simp [Function.comp_def]
    first
      | exact e ▸ q
      | (simpa [← hmap, List.any_map, Function.comp] using q)
theorem oNotInT (hu : X.A.units + 65 < cLine) {pins s σ H x y v u Q} {d : D} {ds : List D} (I : Inv X pins σ H s) (rx : RelV x v) (ry : RelV y u) (hd : Dp X.K H x d) (he : Dp X.K H y (.tuple ds)) (sd : SeqAt.shaped d = true) (se : SeqAt.shaped (.tuple ds) = true)
    (q : Q (.bl (!ds.any fun z => PyData.eqv z d)) H) : wpAny (model X.prog X.w) X.A (compareOp .NotIn v u) (EP X pins σ Q) X.xe s := by
  obtain ⟨as, r1⟩ := Dp.reads I d x v hd rx
  cases he with
  | tup hs ha =>
    cases ry
    obtain ⟨its, rv, ht, hlen⟩ := I.tuple hs
    obtain ⟨bs, h4⟩ := Dp.readsAll I ds _ its ha rv
    have hxs : PyData.canLayAll0 ds = true := SeqAt.canLay_of_shaped se
    have hmap : its.map (SeqAt.readOf s.heap) = ds := SeqAt.readsAll_map ds its bs hxs h4
    have hroom : X.A.units + 1 + min (PyData.depthAll ds) d.depth < cLine := room_in_shaped sd hu
    refine SeqAt.notIn_tupleAt (fun u => PyData.eqv (SeqAt.readOf s.heap u) d) (show s.heap.IsTuple _ its.toArray from ht) (SeqAt.items_eqAt (vs := its.toArray) (show ReadsAll s.heap its.toArray.toList ds bs from h4) r1 hxs (SeqAt.canLay_of_shaped sd) hroom) ?_
    refine ⟨.bl _, H, I, rfl, ?_⟩
    have e : (its.toArray.any fun u => PyData.eqv (SeqAt.readOf s.heap u) d) = ds.any fun z => PyData.eqv z d := by
      rw [← hmap]
      rw [List.any_map]
      first | rfl | simp [Function.comp_def]
    first
      | exact e ▸ q
      | (simpa [← hmap, List.any_map, Function.comp] using q)
end
end Rf
set_option Elab.async false
set_option linter.all false
set_option maxRecDepth 100000
set_option maxHeartbeats 4000000
namespace Rf
open PySem PySem.Spec PyProof.Rows L2
/-! ### order, least, greatest, sorted: over data -/
theorem alkB_of {xs : List D} (h : alkB xs = true) : PySem.W.AlikeAll xs := by
  unfold alkB at h
  rw [List.all_eq_true] at h
  refine ⟨fun x hx y hy => ?_, fun x hx e => ?_⟩
  · have := h x hx
    rw [Bool.and_eq_true, List.all_eq_true] at this
    exact this.1 y hy
  · have := h x hx
    rw [Bool.and_eq_true] at this
    subst e
    cases this.2
section
variable {X : Cx}
theorem opLtT (hu : X.A.units + 65 < cLine) {pins s σ H x y v u Q} {d e : D} (I : Inv X pins σ H s) (rx : RelV x v) (ry : RelV y u) (hd : Dp X.K H x d) (he : Dp X.K H y e) (ha : PySem.W.alike d e = true) (hn : d ≠ .none) (hs : d.depth ≤ 60) (q : Q (.bl (PySem.W.dataLt d e)) H) :
    wpAny (model X.prog X.w) X.A (compareOp .Lt v u) (EP X pins σ Q) X.xe s := by
  obtain ⟨as, r1⟩ := Dp.reads I d x v hd rx
  obtain ⟨bs, r2⟩ := Dp.reads I e y u he ry
  exact PySem.W.lt_data r1 r2 ha hn (by have := Nat.min_le_left d.depth e.depth; omega) ⟨.bl _, H, I, rfl, q⟩
theorem unread {h : Heap} {v : Value} {d e : D} {as bs : List Addr} (hc : d.canLay0 = true) (r1 : Reads h v d as) (r2 : Reads h v e bs) : d = e := by
  first
    | exact (Reads.unique r1 _ _ r2).1
    | exact Reads.unique d e v as bs hc r1 r2
theorem item_of {pins s σ G H} {vs : List V} {ds : List D} {its : List Value} {i : Nat} {v : Value} (I : Inv X pins σ H s) (sg : Same G H) (ra : DpAll X.K G vs ds) (rv : Vals vs its) (hi : its[i]? = some v) : ∃ u d as, RelV u v ∧ Dp X.K G u d ∧ Reads s.heap v d as ∧ ds[i]? = some d ∧ vs[i]? = some u := by
  obtain ⟨hl, _⟩ := List.getElem?_eq_some_iff.mp hi
  have hl2 : i < vs.length := by rw [rv.length]; exact hl
  have e1 : vs[i]? = some vs[i] := List.getElem?_eq_getElem hl2
  obtain ⟨v', ev, ru⟩ := rv.get e1
  rw [hi] at ev
  injection ev with ev
  subst ev
  obtain ⟨d, ed, rd⟩ := DpAll_getV ra e1
  obtain ⟨as, r⟩ := Dp.reads I d _ _ (Dp_mono sg rd) ru
  exact ⟨vs[i], d, as, ru, rd, r, ed, e1⟩
theorem lay_of_mem {d : D} : ∀ {xs : List D}, PyData.canLayAll0 xs = true → d ∈ xs → d.canLay0 = true
  | x :: xs, h, hm => by
    simp only [PyData.canLayAll0, Bool.and_eq_true] at h
    rcases List.mem_cons.mp hm with e | hm
    · rw [e]; exact h.1
    · exact lay_of_mem h.2 hm
theorem dp_lay {K : PySem.W.Frag} {G : Hp} {v : V} {d : D} (h : Dp K G v d) : True := trivial
/-- min, max of a list or a tuple of data -/
def rBest (K : PySem.W.Frag) (f : D → List D → D) : List V → Hp → VK → Prop := fun vs H Q => ∃ v d x xs G, vs = [v] ∧ Same G H ∧ Dp K G v d ∧ (d = .list (x :: xs) ∨ d = .tuple (x :: xs)) ∧ alkB (x :: xs) = true ∧ PyData.canLayAll0 (x :: xs) = true ∧ PyData.depthAll (x :: xs) ≤ 60 ∧ ∀ u, Dp K G u (f x xs) → Q u H
theorem cMinD (hc : X.calm = true) (hu : X.A.units + 65 < cLine) : CallR X (.builtin "min") (rBest X.K PySem.W.minD) := by
  intro pins s σ H vs us Q I r ⟨v, d, x, xs, G, e, sg, rd, hd, ha, hl, hz, q⟩
  subst e
  have fin : ∀ (its : List Value) (ws : List V), DpAll X.K G ws (x :: xs) → Vals ws its → ∀ (i : Nat) v h' tk bs, its.toArray[i]? = some v → Reads h' v (PySem.W.minD x xs) bs → (∀ b o, s.heap.get? b = some o → h'.get? b = some o) → EP X pins σ Q v { s with heap := h', toks := tk } := fun its ws ra rv i v h' tk bs hi rr hk => by
    obtain ⟨u, d, as, ru, rd, r0, ed, _⟩ := item_of I sg ra rv (by simpa using hi)
    have e := unread (lay_of_mem hl (List.mem_of_getElem? ed)) (PyProof.Rows.Reads.keeps hk r0) rr
    rw [e] at rd
    exact ⟨u, H, I.kept hk, ru, q u rd⟩
  rcases hd with rfl | rfl
  · cases rd with
    | lst qa ra =>
      obtain ⟨its, rv, p, _⟩ := I.list (sg.seq qa)
      rw [Vals.ref1 r]
      obtain ⟨as, rr⟩ := Dp.readsAll I _ _ _ (DpAll_mono sg ra) rv
      exact PySem.W.min_list_data (I.ok.hd hc) p.isList (by simpa using rr) (alkB_of ha) (by omega) (fin its _ ra rv)
  · cases rd with
    | tup qa ra =>
      obtain ⟨its, rv, p, _⟩ := I.tuple (Same.seqT sg qa)
      rw [Vals.ref1 r]
      obtain ⟨as, rr⟩ := Dp.readsAll I _ _ _ (DpAll_mono sg ra) rv
      exact PySem.W.min_tuple_data (I.ok.hd hc) (show s.heap.IsTuple _ its.toArray from p) (by simpa using rr) (alkB_of ha) (by omega) (fin its _ ra rv)
theorem cMaxD (hc : X.calm = true) (hu : X.A.units + 65 < cLine) : CallR X (.builtin "max") (rBest X.K PySem.W.maxD) := by
  intro pins s σ H vs us Q I r ⟨v, d, x, xs, G, e, sg, rd, hd, ha, hl, hz, q⟩
  subst e
  have fin : ∀ (its : List Value) (ws : List V), DpAll X.K G ws (x :: xs) → Vals ws its → ∀ (i : Nat) v h' tk bs, its.toArray[i]? = some v → Reads h' v (PySem.W.maxD x xs) bs → (∀ b o, s.heap.get? b = some o → h'.get? b = some o) → EP X pins σ Q v { s with heap := h', toks := tk } := fun its ws ra rv i v h' tk bs hi rr hk => by
    obtain ⟨u, d, as, ru, rd, r0, ed, _⟩ := item_of I sg ra rv (by simpa using hi)
    have e := unread (lay_of_mem hl (List.mem_of_getElem? ed)) (PyProof.Rows.Reads.keeps hk r0) rr
    rw [e] at rd
    exact ⟨u, H, I.kept hk, ru, q u rd⟩
  rcases hd with rfl | rfl
  · cases rd with
    | lst qa ra =>
      obtain ⟨its, rv, p, _⟩ := I.list (sg.seq qa)
      rw [Vals.ref1 r]
      obtain ⟨as, rr⟩ := Dp.readsAll I _ _ _ (DpAll_mono sg ra) rv
      exact PySem.W.max_list_data (I.ok.hd hc) p.isList (by simpa using rr) (alkB_of ha) (by omega) (fin its _ ra rv)
  · cases rd with
    | tup qa ra =>
      obtain ⟨its, rv, p, _⟩ := I.tuple (Same.seqT sg qa)
      rw [Vals.ref1 r]
      obtain ⟨as, rr⟩ := Dp.readsAll I _ _ _ (DpAll_mono sg ra) rv
      exact PySem.W.max_tuple_data (I.ok.hd hc) (show s.heap.IsTuple _ its.toArray from p) (by simpa using rr) (alkB_of ha) (by omega) (fin its _ ra rv)
/-! ### sorted -/
theorem srtB_of {xs : List D} (h : srtB xs = true) : PySem.W.Sortable xs := by
  unfold srtB at h
  rw [Bool.or_eq_true, List.all_eq_true, List.all_eq_true] at h
  rcases h with h | h
  · refine .inl fun d hd => ?_
    have := h d hd
    cases d <;> first | (cases this; done) | skip
    rename_i ys
    cases ys with
    | nil => cases this
    | cons y ys => exact ⟨y, ys, rfl⟩
  · refine .inr fun d hd => ⟨fun e => ?_, fun ys e => ?_⟩
    · have := h d hd
      subst e
      cases this
    · have := h d hd
      subst e
      cases this
theorem each_of {pins s σ G H} (I : Inv X pins σ H s) (sg : Same G H) : ∀ {vs : List V} {ds : List D} {its : List Value}, DpAll X.K G vs ds → Vals vs its → PySem.W.EachIs (fun v (b : V × D) => RelV b.1 v ∧ Dp X.K G b.1 b.2) its (vs.zip ds) ∧ PySem.W.EachIs (fun v (b : V × D) => ∃ as, Reads s.heap v b.2 as) its (vs.zip ds)
  | _, _, _, .nil, .nil => ⟨.nil, .nil⟩
  | _, _, _, .cons a b, .cons r t => by
    obtain ⟨i1, i2⟩ := each_of I sg b t
    exact ⟨.cons ⟨r, a⟩ i1, .cons (Dp.reads I _ _ _ (Dp_mono sg a) r) i2⟩
theorem each_out {H : Hp} {K : PySem.W.Frag} : ∀ {out : List Value} {bs : List (V × D)}, PySem.W.EachIs (fun v (b : V × D) => RelV b.1 v ∧ Dp K H b.1 b.2) out bs → Vals (bs.map (·.1)) out ∧ DpAll K H (bs.map (·.1)) (bs.map (·.2))
  | _, _, .nil => ⟨.nil, .nil⟩
  | _, _, .cons h t => ⟨.cons h.1 (each_out t).1, .cons h.2 (each_out t).2⟩
def rSrtD (K : PySem.W.Frag) : List V → Hp → VK → Prop := fun vs H Q => ∃ v ds G, vs = [v] ∧ Same G H ∧ Dp K G v (.list ds) ∧ PySem.W.AllAlike ds ∧ PySem.W.Sortable ds ∧ PyData.depthAll ds ≤ 60 ∧ ∀ (p : Addr) (ws : List V), H p = none → DpAll K G ws (ds.mergeSort fun a b => !PySem.W.dataLt b a) → Q (.ref p) (upd H p (.lst ws))
theorem depth_mem {d : D} : ∀ {xs : List D}, d ∈ xs → d.depth ≤ PyData.depthAll xs
  | x :: xs, h => by
    simp only [PyData.depthAll]
    rcases List.mem_cons.mp h with e | h
    · rw [e]; omega
    · have := depth_mem h; omega
theorem cSrtD (hu : X.A.units + 65 < cLine) : CallR X (.builtin "sorted") (rSrtD X.K) := by
  intro pins s σ H vs us Q I r ⟨v, ds, G, e, sg, rd, ha, hk, hz, q⟩
  subst e
  cases rd with
  | lst qa ra =>
    rename_i a ws
    obtain ⟨its, rv, p, hlen⟩ := I.list (sg.seq qa)
    rw [Vals.ref1 r]
    have hl := DpAll_len ra
    have hsnd : (ws.zip ds).map (·.2) = ds := by rw [List.map_snd_zip (by omega)]
    obtain ⟨e1, e2⟩ := each_of I sg ra rv
    refine PySem.W.sorted_data (enc := fun b : V × D => b.2) p.isList e1 e2 (by rw [hsnd]; exact ha) (by rw [hsnd]; exact hk) (by rw [List.length_zip]; omega) (fun b hb => ?_) fun out ho er => ?_
    · have := depth_mem (show b.2 ∈ ds from (List.of_mem_zip (show (b.1, b.2) ∈ ws.zip ds from hb)).2)
      omega
    · obtain ⟨v1, d1⟩ := each_out er
      have em : ((ws.zip ds).mergeSort (PySem.W.dataLe false fun b : V × D => b.2)).map (·.2) = ds.mergeSort fun a b => !PySem.W.dataLt b a := by
        have := List.map_mergeSort (r := PySem.W.dataLe false fun b : V × D => b.2) (s := fun a b : D => !PySem.W.dataLt b a) (f := fun b : V × D => b.2) (l := ws.zip ds) fun a _ b _ => by rw [PySem.W.dataLe_eq]; rfl
        rw [this, hsnd]
      rw [em] at d1
      obtain ⟨ep, he'⟩ := PyProof.Rows.sortedAll_at s.heap its out.toArray
      refine ⟨.ref _, _, I.laid (t' := s.toks) (o := .lst _) (fun _ _ => PyProof.Rows.sortedAll_old) (Nat.le_succ _) ⟨?_, out, ep, v1, he'⟩, rfl, q _ _ (I.hok.fresh (Nat.le_succ _)) d1⟩
      rw [← v1.length.symm, ho, List.length_zip]
      omega
end
end Rf
set_option Elab.async false
set_option linter.all false
set_option maxRecDepth 100000
set_option maxHeartbeats 2000000
namespace Rf
open PySem PySem.Spec PyProof.Rows L2
section
variable {X : Cx}
theorem bl_of {d : D} {x : V} {K : PySem.W.Frag} {G : Hp} (h : Dp K G x d) {b : Bool} (e : asB d = .ok b) : x = .bl b := by
  cases h <;> first | cases e; done | skip
  injection e with e
  subst e; rfl
theorem int_of {d : D} {x : V} {K : PySem.W.Frag} {G : Hp} (h : Dp K G x d) {b : Int} (e : asI d = .ok b) : x = .int b := by
  cases h <;> first | cases e; done | skip
  injection e with e
  subst e; rfl
theorem grd_okI {α : Type} {b : Bool} {x : Rs α} {a : α} (h : grd b x = .ok a) : b = true ∧ x = .ok a := by
  cases b with
  | true => exact ⟨rfl, h⟩
  | false => cases h
theorem oLt (hu : X.A.units + 65 < cLine) : OpR X (compareOp .Lt) (rOB X.K ltD) := by
  intro pins s σ H x y v u Q I rx ry ⟨d, e, G, sg, hd, he, p⟩
  obtain ⟨b, eb, q⟩ := PoQ.bl sg p
  have hd' := Dp_mono sg hd
  have he' := Dp_mono sg he
  cases hd <;> cases he <;> first | (cases (show (Rs.no : Rs Bool) = .ok b from eb); done) | skip
  · injection eb with eb
    subst eb
    exact op_lt pins s σ H _ _ v u Q I rx ry ⟨_, _, rfl, rfl, q⟩
  · injection eb with eb
    subst eb
    exact op_lt_str pins s σ H _ _ v u Q I rx ry ⟨_, _, rfl, rfl, q⟩
  · obtain ⟨g, eb⟩ := grd_okI (show grd _ _ = Rs.ok b from eb)
    injection eb with eb
    subst eb
    rw [Bool.and_eq_true, Nat.ble_eq] at g
    exact opLtT hu I rx ry hd' he' g.1 (fun e => by cases e) g.2 q
  · obtain ⟨g, eb⟩ := grd_okI (show grd _ _ = Rs.ok b from eb)
    injection eb with eb
    subst eb
    rw [Bool.and_eq_true, Nat.ble_eq] at g
    exact opLtT hu I rx ry hd' he' g.1 (fun e => by cases e) g.2 q
theorem oIn (hu : X.A.units + 65 < cLine) : OpR X (compareOp .In) (rOB X.K inD) := by
  intro pins s σ H x y v u Q I rx ry ⟨d, e, G, sg, hd, he, p⟩
  obtain ⟨b, eb, q⟩ := PoQ.bl sg p
  have hd' := Dp_mono sg hd
  have he' := Dp_mono sg he
  cases e with
  | list ds =>
    have eb : grd (SeqAt.shaped d && SeqAt.shaped (.list ds)) (.ok (ds.any fun z => PyData.eqv z d)) = Rs.ok b := by cases d <;> exact eb
    by_cases g : (SeqAt.shaped d && SeqAt.shaped (.list ds)) = true
    · rw [g] at eb
      injection eb with eb
      subst eb
      simp only [Bool.and_eq_true] at g
      exact op_inD hu pins s σ H _ _ v u Q I rx ry ⟨d, ds, hd', he', g.1, g.2, q⟩
    · rw [Bool.eq_false_iff.mpr g] at eb; cases eb
  | tuple ds =>
    have eb : grd (SeqAt.shaped d && SeqAt.shaped (.tuple ds)) (.ok (ds.any fun z => PyData.eqv z d)) = Rs.ok b := by cases d <;> exact eb
    by_cases g : (SeqAt.shaped d && SeqAt.shaped (.tuple ds)) = true
    · rw [g] at eb
      injection eb with eb
      subst eb
      simp only [Bool.and_eq_true] at g
      exact oInT hu I rx ry hd' he' g.1 g.2 q
    · rw [Bool.eq_false_iff.mpr g] at eb; cases eb
  | none => cases d <;> cases eb
  | bool => cases d <;> cases eb
  | int => cases d <;> cases eb
  | str => cases d <;> cases eb
  | dict => cases he
theorem oNotIn (hu : X.A.units + 65 < cLine) : OpR X (compareOp .NotIn) (rOB X.K fun d e => (inD d e).map not) := by
  intro pins s σ H x y v u Q I rx ry ⟨d, e, G, sg, hd, he, p⟩
  obtain ⟨b, eb, q⟩ := PoQ.bl sg p
  have hd' := Dp_mono sg hd
  have he' := Dp_mono sg he
  cases e with
  | list ds =>
    have eb : (grd (SeqAt.shaped d && SeqAt.shaped (.list ds)) (.ok (ds.any fun z => PyData.eqv z d))).map not = Rs.ok b := by cases d <;> exact eb
    by_cases g : (SeqAt.shaped d && SeqAt.shaped (.list ds)) = true
    · rw [g] at eb
      injection eb with eb
      subst eb
      simp only [Bool.and_eq_true] at g
      exact op_notInD hu pins s σ H _ _ v u Q I rx ry ⟨d, ds, hd', he', g.1, g.2, q⟩
    · rw [Bool.eq_false_iff.mpr g] at eb; cases eb
  | tuple ds =>
    have eb : (grd (SeqAt.shaped d && SeqAt.shaped (.tuple ds)) (.ok (ds.any fun z => PyData.eqv z d))).map not = Rs.ok b := by cases d <;> exact eb
    by_cases g : (SeqAt.shaped d && SeqAt.shaped (.tuple ds)) = true
    · rw [g] at eb
      injection eb with eb
      subst eb
      simp only [Bool.and_eq_true] at g
      exact oNotInT hu I rx ry hd' he' g.1 g.2 q
    · rw [Bool.eq_false_iff.mpr g] at eb; cases eb
  | none => cases d <;> cases eb
  | bool => cases d <;> cases eb
  | int => cases d <;> cases eb
  | str => cases d <;> cases eb
  | dict => cases he
theorem oCmp (hu : X.A.units + 65 < cLine) (o : CmpOp) : OpR X (compareOp o) (rO2 X.K (cmpD o)) := by
  cases o
  · exact oEq hu
  · exact oNe hu
  · exact oLt hu
  · exact oLe hu
  · exact oGt
  · exact oGe
  · exact oIs
  · exact oIsNot
  · exact oIn hu
  · exact oNotIn hu
/-! ### items, slices -/
def rIxD (K : PySem.W.Frag) : R2 := rO2 K idxD
theorem iIdx : IxR X (rO2 X.K idxD) := by
  intro value slice pins s σ H x y v u Q I rx ry ⟨d, e, G, sg, hd, he, p⟩ hsx
  cases he with
  | int i =>
    cases hd with
    | lst qa ra =>
      rename_i a xs ds
      cases ea : atI ds i with
      | none => simp only [idxD, ea] at p; exact p.elim
      | some z =>
        simp only [idxD, ea] at p
        obtain ⟨w', ew, rw'⟩ := DpAll_atI ra ea
        exact ix_list value slice pins s σ H _ _ v u Q I rx ry ⟨a, xs, i, w', rfl, rfl, sg.seq qa, ew, p _ G H (Stp.refl sg) rw'⟩ hsx
    | tup qa ra =>
      rename_i a xs ds
      cases ea : atI ds i with
      | none => simp only [idxD, ea] at p; exact p.elim
      | some z =>
        simp only [idxD, ea] at p
        obtain ⟨w', ew, rw'⟩ := DpAll_atI ra ea
        exact ix_tup value slice pins s σ H _ _ v u Q I rx ry ⟨a, xs, i, w', rfl, rfl, Same.seqT sg qa, ew, p _ G H (Stp.refl sg) rw'⟩ hsx
    | str z =>
      obtain ⟨g, p⟩ := PoQ.grd p
      cases ea : atI z.cps.toList i with
      | none => simp only [ea] at p; exact p.elim
      | some c =>
        simp only [ea] at p
        exact ix_str value slice pins s σ H _ _ v u Q I rx ry ⟨z, i, c, rfl, rfl, few_le g, ea, p _ G H (Stp.refl sg) (.str _)⟩ hsx
    | non => exact (show False from p).elim
    | bl => exact (show False from p).elim
    | int => exact (show False from p).elim
  | non => cases hd <;> exact (show False from p).elim
  | bl => cases hd <;> exact (show False from p).elim
  | str => cases hd <;> exact (show False from p).elim
  | lst => cases hd <;> exact (show False from p).elim
  | tup => cases hd <;> exact (show False from p).elim
def rSlD (K : PySem.W.Frag) : V → Option Int → Option Int → Hp → VK → Prop := fun x lo hi H Q => ∃ d G, Same G H ∧ Dp K G x d ∧ PoQ K G H (sliD d lo hi) Q
theorem sSli : L2.SlR X (rSlD X.K) := by
  intro pins s σ H x v vl vu lo hi sl Q I rx hs pl pu ⟨d, G, sg, hd, p⟩
  cases hd with
  | lst qa ra =>
    rename_i a xs ds
    refine sl_list pins s σ H _ v vl vu lo hi sl Q I rx hs pl pu ⟨a, xs, rfl, sg.seq qa, fun q hq => ?_⟩
    have st := Stp.new (o := .lst (cutV xs lo hi)) sg hq
    exact p _ _ _ st (.lst (SqL.of upd_same) (DpAll_mono st.gg (DpAll_cut ra lo hi)))
  | tup qa ra =>
    rename_i a xs ds
    refine sl_tupA pins s σ H _ v vl vu lo hi sl Q I rx hs pl pu ⟨a, xs, rfl, Same.seqT sg qa, fun e => ?_, fun _ q hq => ?_⟩
    · refine p _ G H (Stp.refl sg) (.tup qa ?_)
      have e2 : cutD ds lo hi = ds := by
        unfold cutD
        rw [DpAll_len ra] at e
        rw [e.1, e.2, List.drop_zero, Nat.sub_zero, List.take_length]
      rw [e2]; exact ra
    · have st := Stp.new (o := .tup (cutV xs lo hi)) sg hq
      exact p _ _ _ st (.tup (SqT.of upd_same) (DpAll_mono st.gg (DpAll_cut ra lo hi)))
  | non => exact (show False from p).elim
  | bl => exact (show False from p).elim
  | int => exact (show False from p).elim
  | str => exact (show False from p).elim
/-! ### built-in functions -/
def rB (K : PySem.W.Frag) (f : List D → Rs D) : List V → Hp → VK → Prop := fun vs H Q => ∃ ds G, Same G H ∧ DpAll K G vs ds ∧ PoQ K G H (f ds) Q
theorem one_of {K : PySem.W.Frag} {G : Hp} {vs : List V} {d : D} (h : DpAll K G vs [d]) : ∃ v, vs = [v] ∧ Dp K G v d := by
  cases h with
  | cons a b => cases b; exact ⟨_, rfl, a⟩
theorem two_of {K : PySem.W.Frag} {G : Hp} {vs : List V} {d e : D} (h : DpAll K G vs [d, e]) : ∃ v u, vs = [v, u] ∧ Dp K G v d ∧ Dp K G u e := by
  cases h with
  | cons a b => cases b with | cons a' b' => cases b'; exact ⟨_, _, rfl, a, a'⟩
theorem three_of {K : PySem.W.Frag} {G : Hp} {vs : List V} {d e f : D} (h : DpAll K G vs [d, e, f]) : ∃ v u w, vs = [v, u, w] ∧ Dp K G v d ∧ Dp K G u e ∧ Dp K G w f := by
  cases h with
  | cons a b => cases b with | cons a' b' => cases b' with | cons a2 b2 => cases b2; exact ⟨_, _, _, rfl, a, a', a2⟩
theorem PoQ.mapI {K : PySem.W.Frag} {G H : Hp} {α : Type} {x : Rs α} {f : α → D} {Q : VK} (p : PoQ K G H (x.map f) Q) : ∃ a, x = .ok a ∧ PoQ K G H (.ok (f a)) Q := by
  cases x with
  | ok a => exact ⟨a, rfl, p⟩
  | ex e => exact p.elim
  | no => exact p.elim
theorem cLen : CallR X (.builtin "len") (rB X.K lenD) := by
  intro pins s σ H xs us Q I r ⟨ds, G, sg, hd, p⟩
  unfold lenD at p
  split at p
  · obtain ⟨v, rfl, h⟩ := one_of hd
    cases h with | lst qa ra =>
    refine call_len_seq pins s σ H _ us Q I r ⟨_, _, rfl, .inl (sg.seq qa), ?_⟩
    rw [DpAll_len ra]
    exact p _ G H (Stp.refl sg) (.int _)
  · obtain ⟨v, rfl, h⟩ := one_of hd
    cases h with | tup qa ra =>
    refine call_len_seq pins s σ H _ us Q I r ⟨_, _, rfl, .inr (Same.seqT sg qa), ?_⟩
    rw [DpAll_len ra]
    exact p _ G H (Stp.refl sg) (.int _)
  · obtain ⟨v, rfl, h⟩ := one_of hd
    cases h with | str z =>
    obtain ⟨g, p⟩ := PoQ.grd p
    exact call_len_str pins s σ H _ us Q I r ⟨_, rfl, few_le g, p _ G H (Stp.refl sg) (.int _)⟩
  · exact p.elim
theorem cSum (hc : X.calm = true) : CallR X (.builtin "sum") (rB X.K sumD) := by
  intro pins s σ H xs us Q I r ⟨ds, G, sg, hd, p⟩
  unfold sumD at p
  split at p
  · obtain ⟨v, rfl, h⟩ := one_of hd
    cases h with | lst qa ra =>
    obtain ⟨ns, e, p⟩ := PoQ.mapI p
    have q := DpAll_ints ra e
    subst q
    exact cr_sum hc pins s σ H _ us Q I r ⟨_, ns, rfl, sg.seq qa, p _ G H (Stp.refl sg) (.int _)⟩
  · obtain ⟨v, rfl, h⟩ := one_of hd
    cases h with | tup qa ra =>
    obtain ⟨ns, e, p⟩ := PoQ.mapI p
    have q := DpAll_ints ra e
    subst q
    obtain ⟨its, rv, hl, _⟩ := I.tuple (Same.seqT sg qa)
    rw [Vals.ref1 r]
    obtain ⟨xs, ei⟩ := rv.ints.allInts.items
    have hn : numsOf (intItems xs).toList = ns := by rw [← ei]; exact rv.ints.numsOf
    rw [nums_intItems] at hn
    rw [ei] at hl
    refine PySem.W.ktm_sumG (I.ok.hd hc) (show s.heap.IsTuple _ (intItems xs) from hl) fun h' tk t' hk => ?_
    rw [preSum_eq, List.take_of_length_le (by simp), hn]
    exact ⟨.int _, H, I.kept hk, ⟨_, rfl⟩, p _ G H (Stp.refl sg) (.int _)⟩
  · exact p.elim
theorem cAll (hc : X.calm = true) : CallR X (.builtin "all") (rB X.K allD) := by
  intro pins s σ H xs us Q I r ⟨ds, G, sg, hd, p⟩
  unfold allD at p
  split at p
  · obtain ⟨v, rfl, h⟩ := one_of hd
    cases h with | lst qa ra =>
    obtain ⟨ns, e, p⟩ := PoQ.mapI p
    have q := DpAll_bools ra e
    subst q
    exact cr_all hc pins s σ H _ us Q I r ⟨_, ns, rfl, sg.seq qa, p _ G H (Stp.refl sg) (.bl _)⟩
  · exact p.elim
theorem cAny (hc : X.calm = true) : CallR X (.builtin "any") (rB X.K anyD) := by
  intro pins s σ H xs us Q I r ⟨ds, G, sg, hd, p⟩
  unfold anyD at p
  split at p
  · obtain ⟨v, rfl, h⟩ := one_of hd
    cases h with | lst qa ra =>
    obtain ⟨ns, e, p⟩ := PoQ.mapI p
    have q := DpAll_bools ra e
    subst q
    exact cr_any hc pins s σ H _ us Q I r ⟨_, ns, rfl, sg.seq qa, p _ G H (Stp.refl sg) (.bl _)⟩
  · exact p.elim
theorem cAbs : CallR X (.builtin "abs") (rB X.K absD) := by
  intro pins s σ H xs us Q I r ⟨ds, G, sg, hd, p⟩
  unfold absD at p
  split at p
  · obtain ⟨v, rfl, h⟩ := one_of hd
    cases h
    exact call_abs pins s σ H _ us Q I r ⟨_, rfl, p _ G H (Stp.refl sg) (.int _)⟩
  · exact p.elim
theorem cMax (hc : X.calm = true) (hu : X.A.units + 65 < cLine) : CallR X (.builtin "max") (rB X.K maxD) := by
  intro pins s σ H xs us Q I r ⟨ds, G, sg, hd, p⟩
  unfold maxD at p
  split at p
  · obtain ⟨v, u, rfl, h, h2⟩ := two_of hd
    cases h; cases h2
    exact call_max2 hc pins s σ H _ us Q I r ⟨_, _, rfl, p _ G H (Stp.refl sg) (.int _)⟩
  · rename_i ds
    obtain ⟨v, rfl, h⟩ := one_of hd
    cases ds with
    | nil => exact p.elim
    | cons z zs =>
      obtain ⟨g, p⟩ := PoQ.grd p
      rw [Bool.and_eq_true, Bool.and_eq_true, Nat.ble_eq] at g
      exact cMaxD hc hu pins s σ H _ us Q I r ⟨v, _, z, zs, G, rfl, sg, h, .inl rfl, g.1, g.2.1, g.2.2, fun u q => p u G H (Stp.refl sg) q⟩
  · rename_i ds
    obtain ⟨v, rfl, h⟩ := one_of hd
    cases ds with
    | nil => exact p.elim
    | cons z zs =>
      obtain ⟨g, p⟩ := PoQ.grd p
      rw [Bool.and_eq_true, Bool.and_eq_true, Nat.ble_eq] at g
      exact cMaxD hc hu pins s σ H _ us Q I r ⟨v, _, z, zs, G, rfl, sg, h, .inr rfl, g.1, g.2.1, g.2.2, fun u q => p u G H (Stp.refl sg) q⟩
  · exact p.elim
theorem cMin (hc : X.calm = true) (hu : X.A.units + 65 < cLine) : CallR X (.builtin "min") (rB X.K minD) := by
  intro pins s σ H xs us Q I r ⟨ds, G, sg, hd, p⟩
  unfold minD at p
  split at p
  · obtain ⟨v, u, rfl, h, h2⟩ := two_of hd
    cases h; cases h2
    exact call_min2 hc pins s σ H _ us Q I r ⟨_, _, rfl, p _ G H (Stp.refl sg) (.int _)⟩
  · rename_i ds
    obtain ⟨v, rfl, h⟩ := one_of hd
    cases ds with
    | nil => exact p.elim
    | cons z zs =>
      obtain ⟨g, p⟩ := PoQ.grd p
      rw [Bool.and_eq_true, Bool.and_eq_true, Nat.ble_eq] at g
      exact cMinD hc hu pins s σ H _ us Q I r ⟨v, _, z, zs, G, rfl, sg, h, .inl rfl, g.1, g.2.1, g.2.2, fun u q => p u G H (Stp.refl sg) q⟩
  · rename_i ds
    obtain ⟨v, rfl, h⟩ := one_of hd
    cases ds with
    | nil => exact p.elim
    | cons z zs =>
      obtain ⟨g, p⟩ := PoQ.grd p
      rw [Bool.and_eq_true, Bool.and_eq_true, Nat.ble_eq] at g
      exact cMinD hc hu pins s σ H _ us Q I r ⟨v, _, z, zs, G, rfl, sg, h, .inr rfl, g.1, g.2.1, g.2.2, fun u q => p u G H (Stp.refl sg) q⟩
  · exact p.elim
theorem cSorted (hu : X.A.units + 65 < cLine) : CallR X (.builtin "sorted") (rB X.K sortD) := by
  intro pins s σ H xs us Q I r ⟨ds, G, sg, hd, p⟩
  unfold sortD at p
  split at p
  · rename_i ds
    obtain ⟨v, rfl, h⟩ := one_of hd
    obtain ⟨g, p⟩ := PoQ.grd p
    rw [Bool.and_eq_true, Bool.and_eq_true, Nat.ble_eq] at g
    refine cSrtD hu pins s σ H _ us Q I r ⟨v, ds, G, rfl, sg, h, (alkB_of g.1).1, srtB_of g.2.1, g.2.2, fun q ws hq hw => ?_⟩
    exact p _ _ _ (Stp.new sg hq) (.lst (SqL.of upd_same) (DpAll_mono (Same.upd (sg.free hq)) hw))
  · exact p.elim
theorem cTuple : CallR X (.type "tuple") (rB X.K tupleD) := by
  intro pins s σ H xs us Q I r ⟨ds, G, sg, hd, p⟩
  unfold tupleD at p
  split at p
  · obtain ⟨v, rfl, h⟩ := one_of hd
    cases h with | lst qa ra =>
    refine call_tuple_of pins s σ H _ us Q I r ⟨_, _, rfl, .inl ⟨sg.seq qa, fun q hq => ?_⟩⟩
    exact p _ _ _ (Stp.new sg hq) (.tup (SqT.of upd_same) (DpAll_mono (Same.upd (sg.free hq)) ra))
  · obtain ⟨v, rfl, h⟩ := one_of hd
    cases h with | tup qa ra =>
    exact call_tuple_of pins s σ H _ us Q I r ⟨_, _, rfl, .inr ⟨Same.seqT sg qa, p _ G H (Stp.refl sg) (.tup qa ra)⟩⟩
  · exact p.elim
theorem cList : CallR X (.type "list") (rB X.K listD) := by
  intro pins s σ H xs us Q I r ⟨ds, G, sg, hd, p⟩
  unfold listD at p
  split at p
  · obtain ⟨v, rfl, h⟩ := one_of hd
    cases h with | lst qa ra =>
    refine call_list_of pins s σ H _ us Q I r ⟨_, _, rfl, .inl (sg.seq qa), fun q hq => ?_⟩
    exact p _ _ _ (Stp.new sg hq) (.lst (SqL.of upd_same) (DpAll_mono (Same.upd (sg.free hq)) ra))
  · obtain ⟨v, rfl, h⟩ := one_of hd
    cases h with | tup qa ra =>
    refine call_list_of pins s σ H _ us Q I r ⟨_, _, rfl, .inr (Same.seqT sg qa), fun q hq => ?_⟩
    exact p _ _ _ (Stp.new sg hq) (.lst (SqL.of upd_same) (DpAll_mono (Same.upd (sg.free hq)) ra))
  · exact p.elim
theorem cInt : CallR X (.type "int") (rB X.K toIntD) := by
  intro pins s σ H xs us Q I r ⟨ds, G, sg, hd, p⟩
  unfold toIntD at p
  split at p
  · obtain ⟨v, rfl, h⟩ := one_of hd
    cases h
    exact call_int1 pins s σ H _ us Q I r (.inl ⟨_, rfl, p _ G H (Stp.refl sg) (.int _)⟩)
  · obtain ⟨v, rfl, h⟩ := one_of hd
    cases h
    exact call_int1 pins s σ H _ us Q I r (.inr ⟨_, rfl, p _ G H (Stp.refl sg) (.int _)⟩)
  · exact p.elim
/-! ### isinstance of built-in classes -/
def tyNm : D → String
  | .none => "NoneType" | .bool _ => "bool" | .int _ => "int" | .str _ => "str" | .list _ => "list" | .tuple _ => "tuple" | .dict _ => "dict"
theorem tyx_of {K : PySem.W.Frag} {G : Hp} {x : V} {d : D} (h : Dp K G x d) : TyX K G x (.type (tyNm d)) := by
  cases h with
  | non => exact .base .non
  | bl => exact .base (.bl _)
  | int => exact .base (.int _)
  | str => exact .base (.str _)
  | lst qa ra =>
    rcases qa with (q | ⟨o, q⟩) | ⟨o, its, n, q, c, _⟩
    · exact .base (.lst q)
    · exact .base (.frz q)
    · exact .kList q c
  | tup qa ra =>
    rcases qa with (q | ⟨o, q⟩) | ⟨o, its, n, q, c, _⟩
    · exact .base (.tup q)
    · exact .fTuple q
    · exact .kTuple q c
theorem cIsi (t : String) (ht : t ∈ ["int", "bool", "str", "list", "tuple"]) : CallR X (.builtin "isinstance") (fun vs H Q => ∃ x d G, vs = [x, .ty t] ∧ Same G H ∧ Dp X.K G x d ∧ PoQ X.K G H ((isiD t d).map .bool) Q) := by
  intro pins s σ H xs us Q I r h
  obtain ⟨x, d, G, rfl, sg, hd, p⟩ := h
  obtain ⟨b, eb, q⟩ := PoQ.bl sg p
  have hd' := Dp_mono sg hd
  have ty := tyx_of hd'
  refine call_isi pins s σ H _ us Q I r ⟨x, .ty t, _, .type t, b, rfl, .ty t, ty, ?_, q⟩
  clear q p r ty hd' hd
  simp only [List.mem_cons, List.not_mem_nil, or_false] at ht
  cases d <;> first | cases eb; done | skip
  all_goals (simp only [isiD] at eb; injection eb with eb; subst eb; rcases ht with rfl | rfl | rfl | rfl | rfl <;> exact kit_ty (by simp only [tyNm]; decide +kernel))
end
end Rf
set_option Elab.async false
set_option linter.all false
set_option maxRecDepth 100000
set_option maxHeartbeats 2000000
namespace Rf
open PySem PySem.Spec PyProof.Rows L2
/-! ### what is walked -/
structure WkD (K : PySem.W.Frag) (G : Hp) (J : L2.It) (its : List D) : Prop where
  go : ∀ i H, i < its.length → Same G H → J.go i H
  stop : ∀ H, Same G H → J.stop its.length H
  yld : ∀ (i : Nat) H x H' G1, i < its.length → Same G G1 → Same G1 H → J.yld i H x H' → ∃ d G2, its[i]? = some d ∧ Stp G1 H G2 H' ∧ Dp K G2 x d
abbrev tI (c : Cw) (r : Env → Rs (List D)) : TI := tG (WkD c.K) c r
theorem Rs.bind_assoc {α β γ : Type} (x : Rs α) (f : α → Rs β) (g : β → Rs γ) : (x.bind f).bind g = x.bind fun a => (f a).bind g := by cases x <;> rfl
section
variable {K : PySem.W.Frag} {G : Hp} {a b : Addr} {vs ws : List V} {ds es : List D}
theorem wk_list (q : SqL K G a vs) (r : DpAll K G vs ds) : WkD K G (Itl K a) ds := by
  have hl := DpAll_len r
  refine ⟨fun i H hi s => ?_, fun H s => ⟨vs, s.seq q, by omega⟩, fun i H x H' G1 hi s1 s2 y => ?_⟩
  · have h : i < vs.length := by omega
    exact ⟨vs, vs[i], s.seq q, List.getElem?_eq_getElem h⟩
  · obtain ⟨e, y⟩ := y
    subst e
    obtain ⟨d, e, rd⟩ := DpAll_getV r (y vs (s2.seq (s1.seq q)))
    exact ⟨d, G1, e, Stp.refl s2, Dp_mono s1 rd⟩
theorem wk_tup (q : SqT K G a vs) (r : DpAll K G vs ds) : WkD K G (Itt K a) ds := by
  have hl := DpAll_len r
  refine ⟨fun i H hi s => ?_, fun H s => ⟨vs, Same.seqT s q, by omega⟩, fun i H x H' G1 hi s1 s2 y => ?_⟩
  · have h : i < vs.length := by omega
    exact ⟨vs, vs[i], Same.seqT s q, List.getElem?_eq_getElem h⟩
  · obtain ⟨e, y⟩ := y
    subst e
    obtain ⟨d, e, rd⟩ := DpAll_getV r (y vs (Same.seqT s2 (Same.seqT s1 q)))
    exact ⟨d, G1, e, Stp.refl s2, Dp_mono s1 rd⟩
theorem wk_rng (lo : Int) (n : Nat) : WkD K G (Itr lo n) ((List.range n).map fun (k : Nat) => PyData.int (lo + (k : Int))) := by
  have hl : ((List.range n).map fun (k : Nat) => PyData.int (lo + (k : Int))).length = n := by simp
  refine ⟨fun i H hi s => by rw [hl] at hi; exact hi, fun H s => by rw [hl]; exact Nat.le_refl _, fun i H x H' G1 hi s1 s2 y => ?_⟩
  obtain ⟨e, y⟩ := y
  subst e
  subst y
  rw [hl] at hi
  exact ⟨_, G1, by rw [List.getElem?_map, List.getElem?_range hi]; rfl, Stp.refl s2, .int _⟩
theorem wk_rngC (lo k : Int) (n : Nat) : WkD K G (Itc lo k n) (rngC lo k n) := by
  have hl : (rngC lo k n).length = n := by simp [rngC]
  refine ⟨fun i H hi s => by rw [hl] at hi; exact hi, fun H s => by rw [hl]; exact Nat.le_refl _, fun i H x H' G1 hi s1 s2 y => ?_⟩
  obtain ⟨e, y⟩ := y
  subst e
  subst y
  rw [hl] at hi
  refine ⟨.int (lo + (i : Nat) * k), G1, ?_, Stp.refl s2, .int _⟩
  unfold rngC
  rw [List.getElem?_map, List.getElem?_range hi]; rfl
end
section
variable {X : Cx} {tg : Expr}
/-- a list or a tuple -/
theorem pi_sq {l : Expr} {tl : TE} (hl : PE X l tl) : PI X tg l (fun σ H R => tl σ H fun x H1 => ∃ a, x = .ref a ∧ ((∃ xs, SqL X.K H1 a xs ∧ R (Itl X.K a) H1) ∨ ∃ xs, SqT X.K H1 a xs ∧ R (Itt X.K a) H1)) := by
  constructor
  intro pins s σ H R I h
  refine thn (hl.run pins s σ H _ I h) fun v s1 ⟨x, H1, I1, r1, q1⟩ => ?_
  obtain ⟨a, e, q1⟩ := q1
  subst e
  cases r1
  have fp : ∀ b ∈ [s1.heap.objs.size], FpOk X pins H1 b := fun b hb => by
    have e : b = s1.heap.objs.size := by simpa using hb
    subst e
    exact I1.fpOk (Nat.le_refl _) (I1.hok.fresh (Nat.le_refl _))
  rcases q1 with ⟨xs, hq, q⟩ | ⟨xs, hq, q⟩
  · obtain ⟨its, rv, p, hz⟩ := I1.list hq
    exact wpAny_pyIter_list p.isList ⟨s1.heap.objs.size, [s1.heap.objs.size], _, _, H1, rfl, I1.kept (t' := s1.toks) fun b o e => Heap.get?_push_of_some _ e, turn_list a _, ⟨_, Heap.get?_push_size _ rfl, rfl, rfl⟩, fp, q⟩
  · obtain ⟨its, rv, p, hz⟩ := I1.tuple hq
    exact wpAny_pyIter_tuple (show s1.heap.IsTuple a its.toArray from p) ⟨s1.heap.objs.size, [s1.heap.objs.size], _, _, H1, rfl, I1.kept (t' := s1.toks) fun b o e => Heap.get?_push_of_some _ e, turn_tuple a _, ⟨_, Heap.get?_push_size _ rfl, rfl, rfl⟩, fp, q⟩
/-- a list, a tuple, or a text -/
theorem pi_any {l : Expr} {tl : TE} (hl : PE X l tl) : PI X tg l (fun σ H R => tl σ H fun x H1 => (∃ a, x = .ref a ∧ ((∃ xs, SqL X.K H1 a xs ∧ R (Itl X.K a) H1) ∨ ∃ xs, SqT X.K H1 a xs ∧ R (Itt X.K a) H1)) ∨ ∃ z, x = .str z ∧ R (Its z) H1) := by
  constructor
  intro pins s σ H R I h
  refine thn (hl.run pins s σ H _ I h) fun v s1 ⟨x, H1, I1, r1, q1⟩ => ?_
  have fp : ∀ b ∈ [s1.heap.objs.size], FpOk X pins H1 b := fun b hb => by
    have e : b = s1.heap.objs.size := by simpa using hb
    subst e
    exact I1.fpOk (Nat.le_refl _) (I1.hok.fresh (Nat.le_refl _))
  rcases q1 with ⟨a, e, q1⟩ | ⟨z, e, q1⟩
  · subst e
    cases r1
    rcases q1 with ⟨xs, hq, q⟩ | ⟨xs, hq, q⟩
    · obtain ⟨its, rv, p, hz⟩ := I1.list hq
      exact wpAny_pyIter_list p.isList ⟨s1.heap.objs.size, [s1.heap.objs.size], _, _, H1, rfl, I1.kept (t' := s1.toks) fun b o e => Heap.get?_push_of_some _ e, turn_list a _, ⟨_, Heap.get?_push_size _ rfl, rfl, rfl⟩, fp, q⟩
    · obtain ⟨its, rv, p, hz⟩ := I1.tuple hq
      exact wpAny_pyIter_tuple (show s1.heap.IsTuple a its.toArray from p) ⟨s1.heap.objs.size, [s1.heap.objs.size], _, _, H1, rfl, I1.kept (t' := s1.toks) fun b o e => Heap.get?_push_of_some _ e, turn_tuple a _, ⟨_, Heap.get?_push_size _ rfl, rfl, rfl⟩, fp, q⟩
  · subst e
    obtain ⟨t, rfl⟩ := r1
    cases ha : z.cps.all (· < 128)
    · exact wpAny_pyIter_wide ha ⟨s1.heap.objs.size, [s1.heap.objs.size], _, _, H1, rfl, I1.kept (t' := s1.toks) fun b o e => Heap.get?_push_of_some _ e, turn_str _ z t "str_iterator" (.inr rfl), ⟨_, Heap.get?_push_size _ rfl, rfl, rfl⟩, fp, q1⟩
    · exact wpAny_pyIter_ascii ha ⟨s1.heap.objs.size, [s1.heap.objs.size], _, _, H1, rfl, I1.kept (t' := s1.toks) fun b o e => Heap.get?_push_of_some _ e, turn_str _ z t "str_ascii_iterator" (.inl rfl), ⟨_, Heap.get?_push_size _ rfl, rfl, rfl⟩, fp, q1⟩
theorem wk_str {K : PySem.W.Frag} {G : Hp} (z : Str) : WkD K G (Its z) (z.cps.toList.map fun c => PyData.str ⟨#[c]⟩) := by
  have hl : (z.cps.toList.map fun c => PyData.str ⟨#[c]⟩).length = z.cps.size := by simp
  refine ⟨fun i H hi s => by rw [hl] at hi; exact hi, fun H s => by rw [hl]; exact Nat.le_refl _, fun i H x H' G1 hi s1 s2 y => ?_⟩
  obtain ⟨e, k, hk, ev⟩ := y
  subst e
  subst ev
  exact ⟨.str ⟨#[k]⟩, G1, by rw [List.getElem?_map]; simp [hk], Stp.refl s2, .str _⟩
theorem PI.mono {l : Expr} {w w' : TI} (h : PI X tg l w) (i : ∀ σ H R, w' σ H R → w σ H R) : PI X tg l w' := ⟨fun pins s σ H R I q => h.run pins s σ H R I (i _ _ _ q)⟩
variable {c : Cw} (hK : c.K = X.K)
include hK
theorem pI_seq {l : Expr} {r : Env → Rs D} (hl : PE X l (tE c r)) : PI X tg l (tI c fun ρ => (r ρ).bind fun d => (itsD d).quiet) := by
  refine PI.mono (pi_any hl) fun σ H R ⟨ρ, G, sg, e, p⟩ => tG.first sg e p fun d u G1 H1 s1 e1 st rd p1 => ?_
  rw [hK] at rd p1
  cases rd with
  | lst q r => exact .inl ⟨_, rfl, .inl ⟨_, s1.seq q, p1 _ G1 H1 (Stp.refl s1) (wk_list q r)⟩⟩
  | tup q r => exact .inl ⟨_, rfl, .inr ⟨_, Same.seqT s1 q, p1 _ G1 H1 (Stp.refl s1) (wk_tup q r)⟩⟩
  | str z =>
    have p1 : PoG (WkD X.K) c σ G1 H1 (grd (few z.length) (Rs.ok (z.cps.toList.map fun c => PyData.str ⟨#[c]⟩))).quiet R := p1
    cases g : few z.length with
    | false => rw [g] at p1; exact p1.elim
    | true => rw [g] at p1; exact .inr ⟨z, rfl, p1 _ G1 H1 (Stp.refl s1) (wk_str z)⟩
  | non => exact p1.elim
  | bl => exact p1.elim
  | int => exact p1.elim
theorem pI_rng1 {a : Expr} {r : Env → Rs (List D)} {p pos : Pos} (hg : Gl X "range") (hm : X.mg "range" = none) (ha : PA X [a] (tL c r)) (hs : starEach [a] X.env = [(false, eval a X.env)]) (h1 : ∀ ρ ds, r ρ = .ok ds → ds.length = 1) :
    PI X tg (.Call (.Name "range" p) [a] [] pos) (tI c fun ρ => (r ρ).bind fun ds => (itD .rng ds).quiet) := by
  refine PI.mono (pi_range1 hg hm ha hs) fun σ H R ⟨ρ, G, sg, e, p⟩ => ⟨ρ, G, sg, e, p.seq fun ds us G1 H1 ed st rd p1 => ?_⟩
  have hl := h1 ρ ds ed
  match ds, hl, rd, p1 with
  | [d], _, rd, p1 =>
    obtain ⟨v, rfl, h⟩ := one_of rd
    cases h with
    | int j =>
      have p1 : PoG (WkD c.K) c σ G1 H1 (grd (inRng j && few j.toNat) (.ok (rngD 0 j))).quiet R := p1
      by_cases g : (inRng j && few j.toNat) = true
      · rw [g] at p1
        simp only [inRng_iff, few_iff, Bool.and_eq_true, decide_eq_true_eq] at g
        refine ⟨j, rfl, by omega, by omega, p1 _ G1 H1 (Stp.refl st.gh) ?_⟩
        have := wk_rng (K := c.K) (G := G1) 0 j.toNat
        unfold rngD
        rw [show (j - 0).toNat = j.toNat by omega]
        exact this
      · rw [Bool.eq_false_iff.mpr g] at p1; exact p1.elim
    | non => exact (show False from p1).elim
    | bl => exact (show False from p1).elim
    | str => exact (show False from p1).elim
    | lst => exact (show False from p1).elim
    | tup => exact (show False from p1).elim
theorem pI_rng2 {a b : Expr} {r : Env → Rs (List D)} {p pos : Pos} (hg : Gl X "range") (hm : X.mg "range" = none) (ha : PA X [a, b] (tL c r)) (hs : starEach [a, b] X.env = [(false, eval a X.env), (false, eval b X.env)]) (hs2 : starEach [b] X.env = [(false, eval b X.env)]) (h1 : ∀ ρ ds, r ρ = .ok ds → ds.length = 2) :
    PI X tg (.Call (.Name "range" p) [a, b] [] pos) (tI c fun ρ => (r ρ).bind fun ds => (itD .rng ds).quiet) := by
  refine PI.mono (pi_range2 hg hm ha hs hs2) fun σ H R ⟨ρ, G, sg, e, p⟩ => ⟨ρ, G, sg, e, p.seq fun ds us G1 H1 ed st rd p1 => ?_⟩
  have hl := h1 ρ ds ed
  match ds, hl, rd, p1 with
  | [d, d2], _, rd, p1 =>
    obtain ⟨v, v2, rfl, h, h2⟩ := two_of rd
    obtain ⟨i, rfl⟩ : ∃ i, d = .int i := by cases h <;> first | exact ⟨_, rfl⟩ | exact (show False from p1).elim
    obtain ⟨j, rfl⟩ : ∃ i, d2 = .int i := by cases h2 <;> first | exact ⟨_, rfl⟩ | exact (show False from p1).elim
    cases h
    cases h2
    have p1 : PoG (WkD c.K) c σ G1 H1 (grd (inRng i && inRng j && few (j - i).toNat) (.ok (rngD i j))).quiet R := p1
    by_cases g : (inRng i && inRng j && few (j - i).toNat) = true
    · rw [g] at p1
      simp only [inRng_iff, few_iff, Bool.and_eq_true, decide_eq_true_eq] at g
      refine ⟨i, j, rfl, ⟨by omega, by omega, by omega, by omega⟩, p1 _ G1 H1 (Stp.refl st.gh) ?_⟩
      exact wk_rng (K := c.K) (G := G1) i (j - i).toNat
    · rw [Bool.eq_false_iff.mpr g] at p1; exact p1.elim
theorem pI_rng3 {a b d : Expr} {r : Env → Rs (List D)} {p pos : Pos} (hg : Gl X "range") (hm : X.mg "range" = none) (ha : PA X [a, b, d] (tL c r)) (hs : starEach [a, b, d] X.env = (false, eval a X.env) :: starEach [b, d] X.env) (hpl : (backTo pos (starEach [b, d] X.env)).any (·.1) = false) (h1 : ∀ ρ ds, r ρ = .ok ds → ds.length = 3) :
    PI X tg (.Call (.Name "range" p) [a, b, d] [] pos) (tI c fun ρ => (r ρ).bind fun ds => (itD .rng ds).quiet) := by
  refine PI.mono (pi_range3 hg hm ha hs hpl) fun σ H R ⟨ρ, G, sg, e, p⟩ => ⟨ρ, G, sg, e, p.seq fun ds us G1 H1 ed st rd p1 => ?_⟩
  have hl := h1 ρ ds ed
  match ds, hl, rd, p1 with
  | [d, d2, d3], _, rd, p1 =>
    obtain ⟨v, v2, v3, rfl, h, h2, h3⟩ := three_of rd
    obtain ⟨i, rfl⟩ : ∃ i, d = .int i := by cases h <;> first | exact ⟨_, rfl⟩ | exact (show False from p1).elim
    obtain ⟨j, rfl⟩ : ∃ i, d2 = .int i := by cases h2 <;> first | exact ⟨_, rfl⟩ | exact (show False from p1).elim
    obtain ⟨k, rfl⟩ : ∃ i, d3 = .int i := by cases h3 <;> first | exact ⟨_, rfl⟩ | exact (show False from p1).elim
    cases h
    cases h2
    cases h3
    have p2 : PoG (WkD c.K) c σ G1 H1 (if k = -1 then grd (inRng i && inRng j && few (i - j).toNat) (.ok (rngC i (-1) (i - j).toNat)) else grd (rg3 i j k) (.ok (rngC i k (Builtin.Range.rangeSize i j k).toNat))).quiet R := p1
    by_cases g5 : k = -1
    · rw [if_pos g5] at p2
      by_cases g : (inRng i && inRng j && few (i - j).toNat) = true
      · rw [g] at p2
        simp only [inRng_iff, few_iff, Bool.and_eq_true] at g
        obtain ⟨⟨⟨g1, g2⟩, g3, g4⟩, g6⟩ := g
        subst g5
        exact ⟨i, j, -1, (i - j).toNat, rfl, RgC.neg (by omega) (by omega) (by omega) (by omega), p2 _ G1 H1 (Stp.refl st.gh) (wk_rngC _ _ _)⟩
      · rw [Bool.eq_false_iff.mpr g] at p2; exact p2.elim
    · rw [if_neg g5] at p2
      by_cases g : rg3 i j k = true
      · rw [g] at p2
        unfold rg3 at g
        rw [Bool.and_eq_true, Bool.and_eq_true, Bool.and_eq_true, Bool.not_eq_true', decide_eq_false_iff_not, Nat.ble_eq] at g
        obtain ⟨g1, g2, g3, g4⟩ := g
        refine ⟨i, j, k, (Builtin.Range.rangeSize i j k).toNat, rfl, ⟨g1, by omega, g3, ?_⟩, p2 _ G1 H1 (Stp.refl st.gh) (wk_rngC _ _ _)⟩
        cases z : Builtin.Range.rangeSize i j k with
        | ofNat n => rfl
        | negSucc n => rw [z] at g4; cases g4
      · rw [Bool.eq_false_iff.mpr g] at p2; exact p2.elim
end
/-! ### targets -/
def setAllV (σ : L2.St) : List (Nat × V) → L2.St
  | [] => σ
  | b :: bs => setAllV (σ.set b.1 (some b.2)) bs
inductive Bnd (K : PySem.W.Frag) (G : Hp) : List (Nat × D) → List (Nat × V) → Prop where
  | nil : Bnd K G [] []
  | cons {i : Nat} {d : D} {v : V} {ds : List (Nat × D)} {vs : List (Nat × V)} : Dp K G v d → Bnd K G ds vs → Bnd K G ((i, d) :: ds) ((i, v) :: vs)
theorem Bnd.app {K : PySem.W.Frag} {G : Hp} : ∀ {a c : List (Nat × D)} {b d : List (Nat × V)}, Bnd K G a b → Bnd K G c d → Bnd K G (a ++ c) (b ++ d)
  | _, _, _, _, .nil, h => h
  | _, _, _, _, .cons x y, h => .cons x (Bnd.app y h)
theorem setAllV_app (σ : L2.St) : ∀ (a b : List (Nat × V)), setAllV σ (a ++ b) = setAllV (setAllV σ a) b
  | [], _ => rfl
  | x :: a, b => setAllV_app (σ.set x.1 (some x.2)) a b
theorem EnvR.all {K : Kx} {G H : Hp} : ∀ {bs : List (Nat × D)} {vs : List (Nat × V)} {ρ : Env} {σ : L2.St}, EnvR K G H ρ σ → Bnd K.1 G bs vs → EnvR K G H (setAllE ρ bs) (setAllV σ vs)
  | _, _, _, _, e, .nil => e
  | (i, d) :: bs, (_, v) :: vs, ρ, σ, e, .cons a b => EnvR.all (ρ := ρ.set i (.fz d)) (σ := σ.set i (some v)) (e.setU a) b
/-- what a target asks -/
def tT (c : Cw) (t : Tg) : TG := fun v σ H Q => ∃ G d, Same G H ∧ Dp c.K G v d ∧ match bindTg t d with | .ok bs => ∀ vs, Bnd c.K G bs vs → Q (setAllV σ vs) H | _ => False
section
variable {X : Cx} {c : Cw}
theorem PG.mono {e : Expr} {t t' : TG} (h : PG X e t) (i : ∀ v σ H Q, t' v σ H Q → t v σ H Q) : PG X e t' := by
  obtain ⟨h1⟩ := h
  exact ⟨fun pins s σ H v u Q I r q => h1 pins s σ H v u Q I r (i _ _ _ _ q)⟩

theorem pG_nm (hK : c.K = X.K) {i : Nat} {x : Str} {pos : Pos} (hN : X.N.Nodup) (hi : X.N[i]? = some x) (hx : Loc X.env.scope x) (hf : X.fn x = true ∨ X.env.scope.names.lookup x = some .local) : PG X (.Name x pos) (tT c (.nm i)) :=
  PG.mono (pg_name hN hi hx hf) fun v σ H Q ⟨G, d, sg, h, p⟩ => p [(i, v)] (.cons h .nil)
def plT : Expr → Bool
  | .Starred .. => false
  | _ => true
theorem asg_cons {e : Expr} {es : List Expr} {env : PySem.Env} (h : plT e = true) : assignEach (e :: es) env = (false, assign e env) :: assignEach es env := by
  cases e <;> first | rfl | cases h
theorem pG_t2 (hK : c.K = X.K) {a b : Tg} {e f : Expr} {k : Nat} {pos : Pos} (hc : X.calm = true) (pe : plT e = true) (pf : plT f = true) (ha : PG X e (tT c a)) (hb : PG X f (tT c b)) : PG X (.Tuple [e, f] k pos) (tT c (.t2 a b)) := by
  refine PG.mono (pg_tup (n := 2) hc (pgs_cons ha (pgs_cons hb pgs_nil (by rw [asg_cons pf]; rfl)) (by rw [asg_cons pe]; rfl)) (by rw [asg_cons pe, asg_cons pf]; rfl) (by rw [asg_cons pe, asg_cons pf]; rfl)) fun v σ H Q ⟨G, d, sg, h, p⟩ => ?_
  rw [hK] at h
  match d, h, p with
  | .tuple [x, y], .tup q r, p =>
    obtain ⟨v1, v2, rfl, h1, h2⟩ := two_of r
    refine ⟨_, _, rfl, Same.seqT sg q, rfl, v1, [v2], rfl, ⟨G, x, sg, by rw [hK]; exact h1, ?_⟩⟩
    have p : match (bindTg a x).bind fun l => (bindTg b y).map fun r => l ++ r with | .ok bs => ∀ vs, Bnd c.K G bs vs → Q (setAllV σ vs) H | _ => False := p
    cases ea : bindTg a x with
    | ok l =>
      rw [ea] at p
      cases eb : bindTg b y with
      | ok r =>
        rw [eb] at p
        exact fun vs bv => ⟨v2, [], rfl, ⟨G, y, sg, by rw [hK]; exact h2, by rw [eb]; exact fun ws bw => ⟨rfl, by rw [← setAllV_app]; exact p _ (bv.app bw)⟩⟩⟩
      | ex e => rw [eb] at p; exact p.elim
      | no => rw [eb] at p; exact p.elim
    | ex e => rw [ea] at p; exact p.elim
    | no => rw [ea] at p; exact p.elim
theorem pG_t3 (hK : c.K = X.K) {a b b3 : Tg} {e f g : Expr} {k : Nat} {pos : Pos} (hc : X.calm = true) (pe : plT e = true) (pf : plT f = true) (pg : plT g = true) (ha : PG X e (tT c a)) (hb : PG X f (tT c b)) (h3 : PG X g (tT c b3)) : PG X (.Tuple [e, f, g] k pos) (tT c (.t3 a b b3)) := by
  refine PG.mono (pg_tup (n := 3) hc (pgs_cons ha (pgs_cons hb (pgs_cons h3 pgs_nil (by rw [asg_cons pg]; rfl)) (by rw [asg_cons pf]; rfl)) (by rw [asg_cons pe]; rfl)) (by rw [asg_cons pe, asg_cons pf, asg_cons pg]; rfl) (by rw [asg_cons pe, asg_cons pf, asg_cons pg]; rfl)) fun v σ H Q ⟨G, d, sg, h, p⟩ => ?_
  rw [hK] at h
  match d, h, p with
  | .tuple [x, y, z], .tup q r, p =>
    obtain ⟨v1, v2, v3, rfl, h1, h2, h4⟩ := three_of r
    refine ⟨_, _, rfl, Same.seqT sg q, rfl, v1, [v2, v3], rfl, ⟨G, x, sg, by rw [hK]; exact h1, ?_⟩⟩
    have p : match (bindTg a x).bind fun l => (bindTg b y).bind fun r => (bindTg b3 z).map fun q => l ++ (r ++ q) with | .ok bs => ∀ vs, Bnd c.K G bs vs → Q (setAllV σ vs) H | _ => False := p
    cases ea : bindTg a x with
    | ok l =>
      rw [ea] at p
      cases eb : bindTg b y with
      | ok r =>
        rw [eb] at p
        cases ec : bindTg b3 z with
        | ok q' =>
          rw [ec] at p
          exact fun vs bv => ⟨v2, [v3], rfl, ⟨G, y, sg, by rw [hK]; exact h2, by rw [eb]; exact fun ws bw => ⟨v3, [], rfl, ⟨G, z, sg, by rw [hK]; exact h4, by rw [ec]; exact fun us bu => ⟨rfl, by rw [← setAllV_app, ← setAllV_app]; exact p _ (bv.app (bw.app bu))⟩⟩⟩⟩⟩
        | ex e => rw [ec] at p; exact p.elim
        | no => rw [ec] at p; exact p.elim
      | ex e => rw [eb] at p; exact p.elim
      | no => rw [eb] at p; exact p.elim
    | ex e => rw [ea] at p; exact p.elim
    | no => rw [ea] at p; exact p.elim
end
/-! ### comprehensions -/
theorem gather_nx {f : D → Rs (Option D)} : ∀ (its : List D) (e : Xn), gather f its ≠ .ex e
  | [], e, h => by cases h
  | d :: ds, e, h => by
    unfold gather at h
    cases q : f d with
    | ok o =>
      rw [q] at h
      cases r : gather f ds with
      | ok l => rw [r] at h; cases h
      | ex e' => exact gather_nx ds e' r
      | no => rw [r] at h; cases h
    | ex e' => rw [q] at h; cases h
    | no => rw [q] at h; cases h
theorem gather_app {f : D → Rs (Option D)} : ∀ (as bs : List D) (ds : List D), gather f (as ++ bs) = .ok ds → ∃ p q, gather f as = .ok p ∧ gather f bs = .ok q ∧ ds = p ++ q
  | [], bs, ds, h => ⟨[], ds, rfl, h, rfl⟩
  | a :: as, bs, ds, h => by
    rw [List.cons_append, gather_cons] at h
    cases q : f a with
    | ok o =>
      rw [q, Rs.quiet_ok, Rs.bind_ok] at h
      cases r : gather f (as ++ bs) with
      | ok l =>
        obtain ⟨p, q', e1, e2, e3⟩ := gather_app as bs l r
        rw [r] at h
        injection (show Rs.ok (o.toList ++ l) = Rs.ok ds from h) with h
        refine ⟨o.toList ++ p, q', by rw [gather_cons, q, e1]; rfl, e2, ?_⟩
        rw [← h, e3, List.append_assoc]
      | ex e' => rw [r] at h; exact nomatch (show (Rs.ex e' : Rs (List D)) = Rs.ok ds from h)
      | no => rw [r] at h; exact nomatch (show (Rs.no : Rs (List D)) = Rs.ok ds from h)
    | ex e' => rw [q] at h; exact nomatch (show (Rs.no : Rs (List D)) = Rs.ok ds from h)
    | no => rw [q] at h; exact nomatch (show (Rs.no : Rs (List D)) = Rs.ok ds from h)
theorem gather_one {f : D → Rs (Option D)} {d : D} {q : List D} (h : gather f [d] = .ok q) : ∃ o, f d = .ok o ∧ q = o.toList := by
  rw [gather_cons] at h
  cases e : f d with
  | ok o =>
    rw [e] at h
    injection (show Rs.ok (o.toList ++ []) = Rs.ok q from h) with h
    exact ⟨o, rfl, by rw [← h, List.append_nil]⟩
  | ex e' => rw [e] at h; exact nomatch (show (Rs.no : Rs (List D)) = Rs.ok q from h)
  | no => rw [e] at h; exact nomatch (show (Rs.no : Rs (List D)) = Rs.ok q from h)
theorem gather_len {f : D → Rs (Option D)} : ∀ (its ds : List D), gather f its = .ok ds → ds.length ≤ its.length
  | [], ds, h => by cases h; exact Nat.le_refl _
  | a :: as, ds, h => by
    obtain ⟨p, q, e1, e2, e3⟩ := gather_app [a] as ds h
    obtain ⟨o, _, e4⟩ := gather_one e1
    have := gather_len as q e2
    subst e3; subst e4
    rw [List.length_append, List.length_cons]
    cases o <;> simp <;> omega
end Rf
set_option Elab.async false
set_option linter.all false
set_option maxRecDepth 100000
set_option maxHeartbeats 4000000
namespace Rf
open PySem PySem.Spec PyProof.Rows L2
/-! ### what an iterator stands over: a list, a tuple, a text -/
inductive Src where
  | lst (a : Addr) | tup (a : Addr) | txt (x : Str) (t : Tok)
def Src.val : Src → Value
  | .lst a => .ref a
  | .tup a => .ref a
  | .txt x t => .str x t
def Src.obj : Src → Obj
  | .lst a => { cls := .type "list_iterator", data := .fields #[.ref a, .int 0 0] }
  | .tup a => { cls := .type "tuple_iterator", data := .fields #[.ref a, .int 0 0] }
  | .txt x t => { cls := .type (strIterType x), data := .fields #[.str x t, .int 0 0] }
def Src.at_ : Src → Heap → Addr → Nat → Prop
  | .lst a, h, it, i => h.IsListIter it a i
  | .tup a, h, it, i => h.IsTupleIter it a i
  | .txt x t, h, it, i => h.IsStrIter it (strIterType x) x t i
def Src.cells : Src → List Addr
  | .lst a => [a]
  | .tup a => [a]
  | .txt _ _ => []
def signs (x : Str) : List V := x.cps.toList.map fun c => .str ⟨#[c]⟩
def Src.Is (K : PySem.W.Frag) (H : Hp) (vs : List V) : Src → Prop
  | .lst a => SqL K H a vs
  | .tup a => SqT K H a vs
  | .txt x _ => vs = signs x
theorem Src.at0 {S : Src} {h : Heap} {it : Addr} (e : h.get? it = some S.obj) : S.at_ h it 0 := by
  cases S with
  | lst a => exact ⟨_, e, rfl, rfl⟩
  | tup a => exact ⟨_, e, rfl, rfl⟩
  | txt x t => exact ⟨_, e, rfl, rfl⟩
theorem Src.keep {S : Src} {h h' : Heap} {it : Addr} {i : Nat} (st : S.at_ h it i) (k : ∀ o, h.get? it = some o → h'.get? it = some o) : S.at_ h' it i := by
  cases S with
  | lst a => exact Heap.IsListIter.at st k
  | tup a => exact Heap.IsTupleIter.at st k
  | txt x t => obtain ⟨o, ho, r⟩ := st; exact ⟨o, k o ho, r⟩
theorem Src.live {S : Src} {h : Heap} {it : Addr} {i : Nat} (st : S.at_ h it i) : ∃ o, h.get? it = some o ∧ ∀ v, o.data ≠ .cell v := by
  cases S with
  | lst a => obtain ⟨o, e, _, d⟩ := st; exact ⟨o, e, fun v q => by rw [d] at q; cases q⟩
  | tup a => obtain ⟨o, e, _, d⟩ := st; exact ⟨o, e, fun v q => by rw [d] at q; cases q⟩
  | txt x t => obtain ⟨o, e, _, d⟩ := st; exact ⟨o, e, fun v q => by rw [d] at q; cases q⟩
/-- what is known of a source in a state -/
structure SrcW (P : Program) (w : World) (A : Around) (h : Heap) (S : Src) (vs : List V) (Hd : Heap → Prop) : Prop where
  bg : Begins S.val S.obj Hd
  hd : Hd h
  lt : ∀ b ∈ S.cells, b < h.objs.size
  dr : ∀ it, it ∉ S.cells → Draws P w A it (it :: S.cells) vs.length (fun i v => ∃ x, vs[i]? = some x ∧ RelV x v) fun i h => S.at_ h it i ∧ Hd h
section
variable {X : Cx} {pins : List (Addr × Obj)} {σ : L2.St} {H : Hp} {s : Shared}
theorem drMono {P : Program} {w : World} {A : Around} {it : Addr} {fp : List Addr} {n : Nat} {P1 P2 : Nat → Value → Prop} {St : Nat → Heap → Prop} (D : Draws P w A it fp n P1 St) (h : ∀ i v, P1 i v → P2 i v) : Draws P w A it fp n P2 St :=
  ⟨D.live, D.frame, fun i s Q E hi st hQ => D.item i s Q E hi st fun x h' tk p => hQ x h' tk (h i x p), D.done⟩
theorem Src.get (I : Inv X pins σ H s) (hc : X.calm = true) {S : Src} {vs : List V} (h : S.Is X.K H vs) : ∃ Hd, SrcW X.prog X.w X.A.in1 s.heap S vs Hd := by
  cases S with
  | lst a =>
    obtain ⟨its, rv, p, hz⟩ := I.list h
    refine ⟨_, begins_list a its.toArray, p.isList, fun b hb => ?_, fun it hn => ?_⟩
    · rw [List.mem_singleton.mp hb]; exact p.lt
    · have D := Draws.list (prog := X.prog) (w := X.w) (A := X.A.in1) (I.ok.hd hc) it a (fun e => hn (by rw [← e]; exact List.mem_singleton.mpr rfl)) its.toArray
      have hl : its.toArray.size = vs.length := by rw [List.size_toArray]; exact rv.length.symm
      rw [hl] at D
      refine drMono D fun i v e => ?_
      have e : its[i]? = some v := by simpa using e
      obtain ⟨hi, _⟩ := List.getElem?_eq_some_iff.mp e
      have hi2 : i < vs.length := by rw [rv.length]; exact hi
      obtain ⟨u, eu, ru⟩ := rv.get (List.getElem?_eq_getElem hi2)
      rw [e] at eu
      injection eu with eu
      subst eu
      exact ⟨_, List.getElem?_eq_getElem hi2, ru⟩
  | tup a =>
    obtain ⟨its, rv, p, hz⟩ := I.tuple h
    have p : s.heap.IsTuple a its.toArray := p
    refine ⟨_, begins_tuple a its.toArray, p, fun b hb => ?_, fun it hn => ?_⟩
    · rw [List.mem_singleton.mp hb]; obtain ⟨o, e, _⟩ := p; exact Heap.lt_size e
    · have D := Draws.tuple (prog := X.prog) (w := X.w) (A := X.A.in1) (I.ok.hd hc) it a (fun e => hn (by rw [← e]; exact List.mem_singleton.mpr rfl)) its.toArray
      have hl : its.toArray.size = vs.length := by rw [List.size_toArray]; exact rv.length.symm
      rw [hl] at D
      refine drMono D fun i v e => ?_
      have e : its[i]? = some v := by simpa using e
      obtain ⟨hi, _⟩ := List.getElem?_eq_some_iff.mp e
      have hi2 : i < vs.length := by rw [rv.length]; exact hi
      obtain ⟨u, eu, ru⟩ := rv.get (List.getElem?_eq_getElem hi2)
      rw [e] at eu
      injection eu with eu
      subst eu
      exact ⟨_, List.getElem?_eq_getElem hi2, ru⟩
  | txt x t =>
    have h : vs = signs x := h
    subst h
    refine ⟨_, begins_text x t, trivial, fun b hb => (by cases hb), fun it hn => ?_⟩
    have D := Draws.text (prog := X.prog) (w := X.w) (A := X.A.in1) (I.ok.hd hc) it x t
    have hl : x.cps.size = (signs x).length := by unfold signs; simp
    rw [hl] at D
    have D2 := drMono (P2 := fun i v => ∃ y, (signs x)[i]? = some y ∧ RelV y v) D fun i v ⟨c, u, e, ev⟩ => ⟨.str ⟨#[c]⟩, by unfold signs; rw [List.getElem?_map]; simp [e], u, ev⟩
    exact ⟨fun i h st => D2.live i h st.1, fun i h h' st k => ⟨D2.frame i h h' st.1 k, trivial⟩, fun i s Q E hi st hQ => D2.item i s Q E hi st.1 fun x h' tk p q => hQ x h' tk p ⟨q, trivial⟩, fun s Q E st hE => D2.done s Q E st.1 hE⟩
end
/-! ### enumerate -/
def ItE (K : PySem.W.Frag) (S : Src) (vs : List V) : L2.It :=
  ⟨fun i H => i < vs.length ∧ S.Is K H vs, fun i H x H' => ∃ T v, x = .ref T ∧ H T = none ∧ H' = upd H T (.tup [.int (i : Nat), v]) ∧ vs[i]? = some v, fun i H => i = vs.length ∧ S.Is K H vs⟩
theorem turn_en {P : Program} {w : World} {K : PySem.W.Frag} {elts : List Expr} {kk : Nat} {tpos : Pos} {S : Src} {vs : List V} {N : Nat} (hlt : ∀ b ∈ S.cells, b < N) :
    Turn P w K (.Tuple elts kk tpos) (ItE K S vs) [N + 1, N] (N + 1) (fun i h => (∃ old, IsEnum h (N + 1) N (i : Nat) old) ∧ S.at_ h N i) where
  mem := by simp
  obj := fun i h ⟨⟨old, he⟩, st⟩ b hb => by
    have e' : b = N + 1 ∨ b = N := by simpa using hb
    rcases e' with z | z
    · rw [z]; exact ⟨_, he, fun v q => nomatch q⟩
    · rw [z]; exact Src.live st
  keep := fun i h h' ⟨⟨old, he⟩, st⟩ k => ⟨⟨old, k (N + 1) (by simp) _ he⟩, Src.keep st fun o q => k N (by simp) o q⟩
  item := by
    intro X hP hw hK hc i pins s σ H E I hf st hg
    subst hP hw hK
    obtain ⟨⟨old, he⟩, st⟩ := st
    obtain ⟨hi, hS⟩ := hg
    obtain ⟨Hd, W⟩ := Src.get I hc hS
    have hN : N ∉ S.cells := fun q => absurd (hlt N q) (Nat.lt_irrefl _)
    have hN1 : N + 1 ∉ N :: S.cells := fun q => by
      rcases List.mem_cons.mp q with q | q
      · exact absurd q (Nat.succ_ne_self N)
      · exact absurd (hlt _ q) (Nat.not_lt.mpr (Nat.le_add_right _ _))
    have hel : N + 1 < s.heap.objs.size := Heap.lt_size he
    have hil : N < s.heap.objs.size := by obtain ⟨o, q, _⟩ := Src.live st; exact Heap.lt_size q
    refine wpAny_pyNext_enum_itemD (W.dr N hN) he ⟨st, W.hd⟩ hi (Nat.succ_ne_self N) hN1 fun u h' tk hx ho hit' hT hsz hk => ?_
    obtain ⟨x, hx, ru⟩ := hx
    refine ⟨_, rfl, wpAny_letOwnedTupleGo_enum (s := { s with heap := h', toks := tk + 1 }) ho fun h'' he' sb => ?_⟩
    have hT2 : h''.get? s.heap.objs.size = some { cls := .type "tuple", data := .seq #[.int i tk, u] } := (sb.2 _ (Nat.ne_of_gt hel)).trans hT
    have new : ObjOk X.prog X.w (upd H s.heap.objs.size (.tup [.int (i : Nat), x])) h'' s.heap.objs.size (.tup [.int (i : Nat), x]) :=
      ⟨by show 2 ≤ sizeLine; decide, [.int i tk, u], .cons ⟨_, rfl⟩ (.cons ru .nil), ⟨_, hT2, rfl, _, rfl⟩⟩
    have I1 : Inv X pins σ (upd H s.heap.objs.size (.tup [.int (i : Nat), x])) { s with heap := h'', toks := tk + 1 } :=
      I.turnedNew (ch := [N + 1, N]) (fun b ob hb q => (sb.2 b (fun z => hb (by simp [z]))).trans (hk b ob (fun z => hb (by simp [z])) (fun z => hb (by simp [z])) q)) hf (Nat.le_refl _) new
    refine ⟨.ref s.heap.objs.size, _, I1, rfl, ⟨_, x, rfl, I.hok.fresh (Nat.le_refl _), rfl, hx⟩, ⟨⟨u, ?_⟩, Src.keep hit'.1 fun o q => (sb.2 N (fun z => Nat.succ_ne_self N z.symm)).trans q⟩, fun b hb => ?_⟩
    · have e1 : ((i + 1 : Nat) : Int) = (i : Int) + 1 := by omega
      rw [e1]; exact he'
    · have hb' : b < s.heap.objs.size := by
        have e' : b = N + 1 ∨ b = N := by simpa using hb
        rcases e' with z | z
        · rw [z]; exact hel
        · rw [z]; exact hil
      rw [upd_ne (Nat.ne_of_lt hb')]
      exact (hf b hb).1
  done := by
    intro X hP hw hK hc i pins s σ H E I hf st hg
    subst hP hw hK
    obtain ⟨⟨old, he⟩, st⟩ := st
    obtain ⟨hi, hS⟩ := hg
    subst hi
    obtain ⟨Hd, W⟩ := Src.get I hc hS
    have hN : N ∉ S.cells := fun q => absurd (hlt N q) (Nat.lt_irrefl _)
    obtain ⟨f0, f1, f2, f3, f4, f5⟩ := hf N (by simp)
    exact wpAny_pyNext_enum_endD (W.dr N hN) he ⟨st, W.hd⟩ fun h' eb => ⟨rfl, I.turned (t' := s.toks) (fun b o hb q => eb b o hb q) f0 f1 f3 f4 f5⟩
  self := fun A i s Q E st h => let ⟨⟨_, he⟩, _⟩ := st; wpAny_pyIter_enum he h
theorem fpNew {X : Cx} {pins : List (Addr × Obj)} {σ : L2.St} {H : Hp} {s : Shared} (I : Inv X pins σ H s) {b : Addr} (h : s.heap.objs.size ≤ b) : FpOk X pins H b := I.fpOk h (I.hok.fresh h)
set_option maxHeartbeats 4000000 in
theorem enumNew {v : Value} {o : Obj} {H : Heap → Prop} (B : Begins v o H) :
    Meets (Builtin.«enumerate.__new__» ⟨[.type "enumerate", v], []⟩) (fun _ R s => H s.heap ∧
      R (.ok (.ret (.ref (s.heap.push o).objs.size))) { s with heap := (s.heap.push o).push { cls := .type "enumerate", data := .fields #[.none, .bool false, .ref s.heap.objs.size, rawInt 0, .none, .none] } }) :=
  .of_wp fun prog w A R s h => by
    obtain ⟨hp, g, d, tk, os⟩ := s
    obtain ⟨hH, hR⟩ := h
    have hsub := sub_enumerate
    have q1 : ∀ {A' : Around} {E : Value → Shared → Prop} {Q : Value → Shared → Prop}, Q (.ref hp.objs.size) ⟨hp.push o, g, d, tk, os⟩ → wpAny (model prog w) A' (pyIter v) Q E ⟨hp, g, d, tk, os⟩ :=
      fun q => B.iter prog w _ _ ⟨hp, g, d, tk, os⟩ _ hH q
    wp_walk using q1
    refine wpAny_stack_any fun st => wpAny_pure ?_
    split
    · rename_i c _ _ _ _ _
      cases (c == Value.type "enumerate")
      · wp_walk using q1
        exact ⟨_, rfl, hR⟩
      · wp_walk using q1
        exact ⟨_, rfl, hR⟩
    · wp_walk using q1
      exact ⟨_, rfl, hR⟩
theorem callEnum {prog : Program} {w : World} {A : Around} {E : Value → Shared → Prop} {s : Shared} {v : Value} {o : Obj} {H : Heap → Prop} {Q : Value → Shared → Prop} (B : Begins v o H) (h1 : H s.heap)
    (h : ∀ h', IsEnum h' (s.heap.objs.size + 1) s.heap.objs.size 0 .none → h'.get? s.heap.objs.size = some o → (∀ b o, s.heap.get? b = some o → h'.get? b = some o) → Q (.ref (s.heap.objs.size + 1)) { s with heap := h' }) :
    wpAny (model prog w) A (call (.type "enumerate") [v]) Q E s := by
  refine callType_new F.called_enumerate (by decide) (F.typeCall_enumerate_1 _) (F.newCall_enumerate_1 _) (fun obj => F.args_object_init_2 obj _) F.entry_enumerate_new (enumNew B) ⟨h1, ?_⟩
  have hz : (s.heap.push o).objs.size = s.heap.objs.size + 1 := Heap.size_push ..
  show _ ∧ _
  rw [hz]
  have he : IsEnum ((s.heap.push o).push { cls := .type "enumerate", data := .fields #[.none, .bool false, .ref s.heap.objs.size, rawInt 0, .none, .none] }) (s.heap.objs.size + 1) s.heap.objs.size 0 .none := by
    have q := Heap.get?_push_size (s.heap.push o) (o := { cls := .type "enumerate", data := .fields #[.none, .bool false, .ref s.heap.objs.size, rawInt 0, .none, .none] }) rfl
    rw [hz] at q; exact q
  exact ⟨⟨_, he, rfl⟩, h _ he (Heap.get?_push_of_some _ (Heap.get?_push_size _ B.free)) fun b ob x => Heap.get?_push_of_some _ (Heap.get?_push_of_some _ x)⟩
def iEn (K : PySem.W.Frag) (ta : TA) : TI := fun σ H R => ta σ H fun vs H1 => ∃ x, vs = [x] ∧ ∀ u, RelV x u → ∃ S ws, S.val = u ∧ Src.Is K H1 ws S ∧ R (ItE K S ws) H1
theorem pi_en {X : Cx} {e : Expr} {ta : TA} {p pos tpos : Pos} {elts : List Expr} {kk : Nat} (hc : X.calm = true) (hg : Gl X "enumerate") (hm : X.mg "enumerate" = none) (ha : PA X [e] ta) (hs : starEach [e] X.env = [(false, eval e X.env)]) :
    PI X (.Tuple elts kk tpos) (.Call (.Name "enumerate" p) [e] [] pos) (iEn X.K ta) := by
  refine ⟨fun pins s σ H R I h => ?_⟩
  refine Call_ (ld_blt I hg hm boot_enumerate (PyProof.Rows.callWith_type1 (thn (ha.run pos pins s σ H _ I h) fun us s1 ⟨vs, H1, I1, r1, q1⟩ => ?_) hs rfl))
  obtain ⟨x, ex, q⟩ := q1
  subst ex
  cases r1 with
  | cons r rr =>
    cases rr
    obtain ⟨S, ws, ev, hS, q⟩ := q _ r
    subst ev
    obtain ⟨Hd, W⟩ := Src.get I1 hc hS
    refine callEnum W.bg W.hd fun h' he hit hk => wpAny_pyIter_enum he ?_
    have I2 : Inv X pins σ H1 { s1 with heap := h' } := I1.kept (t' := s1.toks) hk
    refine ⟨s1.heap.objs.size + 1, [s1.heap.objs.size + 1, s1.heap.objs.size], _, _, H1, rfl, I2, turn_en W.lt, ⟨⟨.none, he⟩, Src.at0 hit⟩, fun b hb => ?_, q⟩
    have e' : b = s1.heap.objs.size + 1 ∨ b = s1.heap.objs.size := by simpa using hb
    rcases e' with z | z
    · rw [z]; exact fpNew I1 (Nat.le_succ _)
    · rw [z]; exact fpNew I1 (Nat.le_refl _)
/-! ### zip of two -/
def ItZ (K : PySem.W.Frag) (S S2 : Src) (vs ws : List V) : L2.It :=
  ⟨fun i H => i < vs.length ∧ i < ws.length ∧ S.Is K H vs ∧ S2.Is K H ws, fun i H x H' => ∃ T v u, x = .ref T ∧ H T = none ∧ H' = upd H T (.tup [v, u]) ∧ vs[i]? = some v ∧ ws[i]? = some u,
    fun i H => i ≤ vs.length ∧ i ≤ ws.length ∧ (i = vs.length ∨ i = ws.length) ∧ S.Is K H vs ∧ S2.Is K H ws⟩
theorem turn_z2 {P : Program} {w : World} {K : PySem.W.Frag} {elts : List Expr} {kk : Nat} {tpos : Pos} {S S2 : Src} {vs ws : List V} {N : Nat} (h1 : ∀ b ∈ S.cells, b < N) (h2 : ∀ b ∈ S2.cells, b < N) :
    Turn P w K (.Tuple elts kk tpos) (ItZ K S S2 vs ws) [N + 4, N + 2, N + 3, N, N + 1] (N + 4) (fun i h => IsZip h (N + 4) (N + 2) (N + 3) .none ∧ IsTupOf2 h (N + 2) (.ref N) (.ref (N + 1)) ∧ (∃ x y, IsTupOf2 h (N + 3) x y) ∧ S.at_ h N i ∧ S2.at_ h (N + 1) i) where
  mem := by simp
  obj := fun i h ⟨hz, hTI, ⟨x, y, hTO⟩, s1, s2⟩ c hc => by
    have e' : c = N + 4 ∨ c = N + 2 ∨ c = N + 3 ∨ c = N ∨ c = N + 1 := by simpa using hc
    rcases e' with q | q | q | q | q
    · rw [q]; exact ⟨_, hz, fun v q => nomatch q⟩
    · rw [q]; exact ⟨_, hTI, fun v q => nomatch q⟩
    · rw [q]; exact ⟨_, hTO, fun v q => nomatch q⟩
    · rw [q]; exact Src.live s1
    · rw [q]; exact Src.live s2
  keep := fun i h h' ⟨hz, hTI, ⟨x, y, hTO⟩, s1, s2⟩ k =>
    ⟨k (N + 4) (by simp) _ hz, k (N + 2) (by simp) _ hTI, ⟨x, y, k (N + 3) (by simp) _ hTO⟩, Src.keep s1 fun o q => k N (by simp) o q, Src.keep s2 fun o q => k (N + 1) (by simp) o q⟩
  item := by
    intro X hP hw hK hc i pins s σ H E I hf st hg
    subst hP hw hK
    obtain ⟨hz, hTI, ⟨x0, y0, hTO⟩, s1, s2⟩ := st
    obtain ⟨hi1, hi2, hS1, hS2⟩ := hg
    obtain ⟨Hd1, W1⟩ := Src.get I hc hS1
    obtain ⟨Hd2, W2⟩ := Src.get I hc hS2
    have hN1 : N ∉ S.cells := fun q => absurd (h1 N q) (Nat.lt_irrefl _)
    have hN2 : N + 1 ∉ S2.cells := fun q => absurd (h2 _ q) (Nat.not_lt.mpr (Nat.le_add_right _ _))
    have sep := zip_sep2 h1 h2
    have hzl : N + 4 < s.heap.objs.size := Heap.lt_size hz
    refine wpAny_pyNext_zipD2_item sep (W1.dr N hN1) (W2.dr (N + 1) hN2) hz hTI hTO ⟨s1, W1.hd⟩ ⟨s2, W2.hd⟩ hi1 hi2 fun u u2 h' tk hx hy z' TO' t1 t2 hT hsz hk => ?_
    obtain ⟨x, hx, ru⟩ := hx
    obtain ⟨y, hy, ru2⟩ := hy
    refine ⟨_, rfl, wpAny_letOwnedTupleGo_zip (s := { s with heap := h', toks := tk }) z' fun h'' z'' sb => ?_⟩
    have hT2 : h''.get? s.heap.objs.size = some { cls := .type "tuple", data := .seq #[u, u2] } := (sb.2 _ (Nat.ne_of_gt hzl)).trans hT
    have new : ObjOk X.prog X.w (upd H s.heap.objs.size (.tup [x, y])) h'' s.heap.objs.size (.tup [x, y]) :=
      ⟨by show 2 ≤ sizeLine; decide, [u, u2], .cons ru (.cons ru2 .nil), ⟨_, hT2, rfl, _, rfl⟩⟩
    have I1 : Inv X pins σ (upd H s.heap.objs.size (.tup [x, y])) { s with heap := h'', toks := tk } :=
      I.turnedNew (ch := [N + 4, N + 2, N + 3, N, N + 1]) (fun c o hb q => (sb.2 c (fun q' => hb (by simp [q']))).trans (hk c o (fun q' => hb (by simp [q'])) (fun q' => hb (by simp [q'])) (fun q' => hb (by simp [q'])) (fun q' => hb (by simp [q'])) q)) hf (Nat.le_refl _) new
    refine ⟨.ref s.heap.objs.size, _, I1, rfl, ⟨_, x, y, rfl, I.hok.fresh (Nat.le_refl _), rfl, hx, hy⟩, ⟨z'', (sb.2 _ sep.TIz).trans (hk _ _ sep.TIz sep.TITO sep.TIi1 sep.TIi2 hTI), ⟨u, u2, (sb.2 _ sep.TOz).trans TO'⟩,
      Src.keep t1.1 fun o q => (sb.2 _ sep.zi1.symm).trans q, Src.keep t2.1 fun o q => (sb.2 _ sep.zi2.symm).trans q⟩, fun c hcm => ?_⟩
    have hlt : c < s.heap.objs.size := by
      have e' : c = N + 4 ∨ c = N + 2 ∨ c = N + 3 ∨ c = N ∨ c = N + 1 := by simpa using hcm
      refine Nat.lt_of_le_of_lt ?_ hzl
      rcases e' with z | z | z | z | z <;> rw [z] <;> first | exact Nat.le_refl _ | exact Nat.add_le_add_left (by decide) _ | exact Nat.le_add_right _ _
    rw [upd_ne (Nat.ne_of_lt hlt)]
    exact (hf c hcm).1
  done := by
    intro X hP hw hK hc i pins s σ H E I hf st hg
    subst hP hw hK
    obtain ⟨hz, hTI, ⟨x0, y0, hTO⟩, s1, s2⟩ := st
    obtain ⟨hi1, hi2, hend, hS1, hS2⟩ := hg
    obtain ⟨Hd1, W1⟩ := Src.get I hc hS1
    obtain ⟨Hd2, W2⟩ := Src.get I hc hS2
    have hN1 : N ∉ S.cells := fun q => absurd (h1 N q) (Nat.lt_irrefl _)
    have hN2 : N + 1 ∉ S2.cells := fun q => absurd (h2 _ q) (Nat.not_lt.mpr (Nat.le_add_right _ _))
    refine wpAny_pyNext_zipD2_end (zip_sep2 h1 h2) (W1.dr N hN1) (W2.dr (N + 1) hN2) hz hTI hTO ⟨s1, W1.hd⟩ ⟨s2, W2.hd⟩ hi1 hi2 hend fun h' tk hk => ⟨rfl, I.turnedL (ch := [N + 4, N + 2, N + 3, N, N + 1]) (fun c o hb q => ?_) hf⟩
    exact hk c o (fun q' => hb (by simp [q'])) (fun q' => hb (by simp [q'])) (fun q' => hb (by simp [q'])) (fun q' => hb (by simp [q'])) q
  self := fun A i s Q E st h => wpAny_pyIter_zip st.1 h
def iZ2 (K : PySem.W.Frag) (ta : TA) : TI := fun σ H R => ta σ H fun vs H1 => ∃ x y, vs = [x, y] ∧ ∀ u u2, RelV x u → RelV y u2 → ∃ S S2 ws ws2, S.val = u ∧ S2.val = u2 ∧ Src.Is K H1 ws S ∧ Src.Is K H1 ws2 S2 ∧ R (ItZ K S S2 ws ws2) H1
theorem pi_z2 {X : Cx} {e e2 : Expr} {ta : TA} {p pos tpos : Pos} {elts : List Expr} {kk : Nat} (hc : X.calm = true) (hg : Gl X "zip") (hm : X.mg "zip" = none) (ha : PA X [e, e2] ta)
    (hs : starEach [e, e2] X.env = (false, eval e X.env) :: starEach [e2] X.env) (hpl : (backTo pos (starEach [e2] X.env)).any (·.1) = false) :
    PI X (.Tuple elts kk tpos) (.Call (.Name "zip" p) [e, e2] [] pos) (iZ2 X.K ta) := by
  refine ⟨fun pins s σ H R I h => ?_⟩
  refine Call_ (ld_blt I hg hm PyProof.Rows.boot_zip (PyProof.Rows.callWith_type1 (thn (ha.run pos pins s σ H _ I h) fun us s1 ⟨vs, H1, I1, r1, q1⟩ => ?_) hs hpl))
  obtain ⟨x, y, ex, q⟩ := q1
  subst ex
  cases r1 with
  | cons r rr =>
    cases rr with
    | cons r2 rr =>
      cases rr
      obtain ⟨S, S2, ws, ws2, ev, ev2, hS, hS2, q⟩ := q _ _ r r2
      subst ev ev2
      obtain ⟨Hd, W⟩ := Src.get I1 hc hS
      obtain ⟨Hd2, W2⟩ := Src.get I1 hc hS2
      refine zip_begins2 W.bg W2.bg W.hd W2.hd fun h' hz hTI hTO g1 g2 hsz hk => wpAny_pyIter_zip hz ?_
      have I2 : Inv X pins σ H1 { s1 with heap := h' } := I1.kept (t' := s1.toks) hk
      refine ⟨s1.heap.objs.size + 4, [s1.heap.objs.size + 4, s1.heap.objs.size + 2, s1.heap.objs.size + 3, s1.heap.objs.size, s1.heap.objs.size + 1], _, _, H1, rfl, I2, turn_z2 W.lt W2.lt, ⟨hz, hTI, ⟨_, _, hTO⟩, Src.at0 g1, Src.at0 g2⟩, fun c hcm => fpNew I1 ?_, q⟩
      have e' : c = s1.heap.objs.size + 4 ∨ c = s1.heap.objs.size + 2 ∨ c = s1.heap.objs.size + 3 ∨ c = s1.heap.objs.size ∨ c = s1.heap.objs.size + 1 := by simpa using hcm
      rcases e' with z | z | z | z | z <;> (rw [z]; first | exact Nat.le_add_right _ _ | exact Nat.le_refl _)
/-! ### zip of three -/
def ItZ3 (K : PySem.W.Frag) (S S2 S3 : Src) (vs ws us : List V) : L2.It :=
  ⟨fun i H => i < vs.length ∧ i < ws.length ∧ i < us.length ∧ S.Is K H vs ∧ S2.Is K H ws ∧ S3.Is K H us, fun i H x H' => ∃ T v u t, x = .ref T ∧ H T = none ∧ H' = upd H T (.tup [v, u, t]) ∧ vs[i]? = some v ∧ ws[i]? = some u ∧ us[i]? = some t,
    fun i H => i ≤ vs.length ∧ i ≤ ws.length ∧ i ≤ us.length ∧ (i = vs.length ∨ i = ws.length ∨ i = us.length) ∧ S.Is K H vs ∧ S2.Is K H ws ∧ S3.Is K H us⟩
theorem turn_z3 {P : Program} {w : World} {K : PySem.W.Frag} {elts : List Expr} {kk : Nat} {tpos : Pos} {S S2 S3 : Src} {vs ws us : List V} {N : Nat} (h1 : ∀ b ∈ S.cells, b < N) (h2 : ∀ b ∈ S2.cells, b < N) (h3 : ∀ b ∈ S3.cells, b < N) :
    Turn P w K (.Tuple elts kk tpos) (ItZ3 K S S2 S3 vs ws us) [N + 5, N + 3, N + 4, N, N + 1, N + 2] (N + 5) (fun i h => IsZip h (N + 5) (N + 3) (N + 4) .none ∧ IsTupOf3 h (N + 3) (.ref N) (.ref (N + 1)) (.ref (N + 2)) ∧ (∃ x y z, IsTupOf3 h (N + 4) x y z) ∧ S.at_ h N i ∧ S2.at_ h (N + 1) i ∧ S3.at_ h (N + 2) i) where
  mem := by simp
  obj := fun i h ⟨hz, hTI, ⟨x, y, z, hTO⟩, s1, s2, s3⟩ c hc => by
    have e' : c = N + 5 ∨ c = N + 3 ∨ c = N + 4 ∨ c = N ∨ c = N + 1 ∨ c = N + 2 := by simpa using hc
    rcases e' with q | q | q | q | q | q
    · rw [q]; exact ⟨_, hz, fun v q => nomatch q⟩
    · rw [q]; exact ⟨_, hTI, fun v q => nomatch q⟩
    · rw [q]; exact ⟨_, hTO, fun v q => nomatch q⟩
    · rw [q]; exact Src.live s1
    · rw [q]; exact Src.live s2
    · rw [q]; exact Src.live s3
  keep := fun i h h' ⟨hz, hTI, ⟨x, y, z, hTO⟩, s1, s2, s3⟩ k =>
    ⟨k (N + 5) (by simp) _ hz, k (N + 3) (by simp) _ hTI, ⟨x, y, z, k (N + 4) (by simp) _ hTO⟩, Src.keep s1 fun o q => k N (by simp) o q, Src.keep s2 fun o q => k (N + 1) (by simp) o q, Src.keep s3 fun o q => k (N + 2) (by simp) o q⟩
  item := by
    intro X hP hw hK hc i pins s σ H E I hf st hg
    subst hP hw hK
    obtain ⟨hz, hTI, ⟨x0, y0, z0, hTO⟩, s1, s2, s3⟩ := st
    obtain ⟨hi1, hi2, hi3, hS1, hS2, hS3⟩ := hg
    obtain ⟨Hd1, W1⟩ := Src.get I hc hS1
    obtain ⟨Hd2, W2⟩ := Src.get I hc hS2
    obtain ⟨Hd3, W3⟩ := Src.get I hc hS3
    have hN1 : N ∉ S.cells := fun q => absurd (h1 N q) (Nat.lt_irrefl _)
    have hN2 : N + 1 ∉ S2.cells := fun q => absurd (h2 _ q) (Nat.not_lt.mpr (Nat.le_add_right _ _))
    have hN3 : N + 2 ∉ S3.cells := fun q => absurd (h3 _ q) (Nat.not_lt.mpr (Nat.le_add_right _ _))
    have sep := zip_sep3 h1 h2 h3
    have hzl : N + 5 < s.heap.objs.size := Heap.lt_size hz
    refine wpAny_pyNext_zipD3_item sep (W1.dr N hN1) (W2.dr (N + 1) hN2) (W3.dr (N + 2) hN3) hz hTI hTO ⟨s1, W1.hd⟩ ⟨s2, W2.hd⟩ ⟨s3, W3.hd⟩ hi1 hi2 hi3 fun u u2 u3 h' tk hx hy hw z' TO' t1 t2 t3 hT hsz hk => ?_
    obtain ⟨x, hx, ru⟩ := hx
    obtain ⟨y, hy, ru2⟩ := hy
    obtain ⟨z, hw, ru3⟩ := hw
    refine ⟨_, rfl, wpAny_letOwnedTupleGo_zip (s := { s with heap := h', toks := tk }) z' fun h'' z'' sb => ?_⟩
    have hT2 : h''.get? s.heap.objs.size = some { cls := .type "tuple", data := .seq #[u, u2, u3] } := (sb.2 _ (Nat.ne_of_gt hzl)).trans hT
    have new : ObjOk X.prog X.w (upd H s.heap.objs.size (.tup [x, y, z])) h'' s.heap.objs.size (.tup [x, y, z]) :=
      ⟨by show 3 ≤ sizeLine; decide, [u, u2, u3], .cons ru (.cons ru2 (.cons ru3 .nil)), ⟨_, hT2, rfl, _, rfl⟩⟩
    have I1 : Inv X pins σ (upd H s.heap.objs.size (.tup [x, y, z])) { s with heap := h'', toks := tk } :=
      I.turnedNew (ch := [N + 5, N + 3, N + 4, N, N + 1, N + 2]) (fun c o hb q => (sb.2 c (fun q' => hb (by simp [q']))).trans (hk c o (fun q' => hb (by simp [q'])) (fun q' => hb (by simp [q'])) (fun q' => hb (by simp [q'])) (fun q' => hb (by simp [q'])) (fun q' => hb (by simp [q'])) q)) hf (Nat.le_refl _) new
    refine ⟨.ref s.heap.objs.size, _, I1, rfl, ⟨_, x, y, z, rfl, I.hok.fresh (Nat.le_refl _), rfl, hx, hy, hw⟩, ⟨z'', (sb.2 _ sep.TIz).trans (hk _ _ sep.TIz sep.TITO sep.TIi1 sep.TIi2 sep.TIi3 hTI), ⟨u, u2, u3, (sb.2 _ sep.TOz).trans TO'⟩,
      Src.keep t1.1 fun o q => (sb.2 _ sep.zi1.symm).trans q, Src.keep t2.1 fun o q => (sb.2 _ sep.zi2.symm).trans q, Src.keep t3.1 fun o q => (sb.2 _ sep.zi3.symm).trans q⟩, fun c hcm => ?_⟩
    have hlt : c < s.heap.objs.size := by
      have e' : c = N + 5 ∨ c = N + 3 ∨ c = N + 4 ∨ c = N ∨ c = N + 1 ∨ c = N + 2 := by simpa using hcm
      refine Nat.lt_of_le_of_lt ?_ hzl
      rcases e' with z | z | z | z | z | z <;> rw [z] <;> first | exact Nat.le_refl _ | exact Nat.add_le_add_left (by decide) _ | exact Nat.le_add_right _ _
    rw [upd_ne (Nat.ne_of_lt hlt)]
    exact (hf c hcm).1
  done := by
    intro X hP hw hK hc i pins s σ H E I hf st hg
    subst hP hw hK
    obtain ⟨hz, hTI, ⟨x0, y0, z0, hTO⟩, s1, s2, s3⟩ := st
    obtain ⟨hi1, hi2, hi3, hend, hS1, hS2, hS3⟩ := hg
    obtain ⟨Hd1, W1⟩ := Src.get I hc hS1
    obtain ⟨Hd2, W2⟩ := Src.get I hc hS2
    obtain ⟨Hd3, W3⟩ := Src.get I hc hS3
    have hN1 : N ∉ S.cells := fun q => absurd (h1 N q) (Nat.lt_irrefl _)
    have hN2 : N + 1 ∉ S2.cells := fun q => absurd (h2 _ q) (Nat.not_lt.mpr (Nat.le_add_right _ _))
    have hN3 : N + 2 ∉ S3.cells := fun q => absurd (h3 _ q) (Nat.not_lt.mpr (Nat.le_add_right _ _))
    refine wpAny_pyNext_zipD3_end (zip_sep3 h1 h2 h3) (W1.dr N hN1) (W2.dr (N + 1) hN2) (W3.dr (N + 2) hN3) hz hTI hTO ⟨s1, W1.hd⟩ ⟨s2, W2.hd⟩ ⟨s3, W3.hd⟩ hi1 hi2 hi3 hend fun h' tk hk => ⟨rfl, I.turnedL (ch := [N + 5, N + 3, N + 4, N, N + 1, N + 2]) (fun c o hb q => ?_) hf⟩
    exact hk c o (fun q' => hb (by simp [q'])) (fun q' => hb (by simp [q'])) (fun q' => hb (by simp [q'])) (fun q' => hb (by simp [q'])) (fun q' => hb (by simp [q'])) q
  self := fun A i s Q E st h => wpAny_pyIter_zip st.1 h
def iZ3 (K : PySem.W.Frag) (ta : TA) : TI := fun σ H R => ta σ H fun vs H1 => ∃ x y z, vs = [x, y, z] ∧ ∀ u u2 u3, RelV x u → RelV y u2 → RelV z u3 → ∃ S S2 S3 ws ws2 ws3, S.val = u ∧ S2.val = u2 ∧ S3.val = u3 ∧ Src.Is K H1 ws S ∧ Src.Is K H1 ws2 S2 ∧ Src.Is K H1 ws3 S3 ∧ R (ItZ3 K S S2 S3 ws ws2 ws3) H1
theorem pi_z3 {X : Cx} {e e2 e3 : Expr} {ta : TA} {p pos tpos : Pos} {elts : List Expr} {kk : Nat} (hc : X.calm = true) (hg : Gl X "zip") (hm : X.mg "zip" = none) (ha : PA X [e, e2, e3] ta)
    (hs : starEach [e, e2, e3] X.env = (false, eval e X.env) :: starEach [e2, e3] X.env) (hpl : (backTo pos (starEach [e2, e3] X.env)).any (·.1) = false) :
    PI X (.Tuple elts kk tpos) (.Call (.Name "zip" p) [e, e2, e3] [] pos) (iZ3 X.K ta) := by
  refine ⟨fun pins s σ H R I h => ?_⟩
  refine Call_ (ld_blt I hg hm PyProof.Rows.boot_zip (PyProof.Rows.callWith_type1 (thn (ha.run pos pins s σ H _ I h) fun us s1 ⟨vs, H1, I1, r1, q1⟩ => ?_) hs hpl))
  obtain ⟨x, y, z, ex, q⟩ := q1
  subst ex
  cases r1 with
  | cons r rr =>
    cases rr with
    | cons r2 rr =>
      cases rr with
      | cons r3 rr =>
        cases rr
        obtain ⟨S, S2, S3, ws, ws2, ws3, ev, ev2, ev3, hS, hS2, hS3, q⟩ := q _ _ _ r r2 r3
        subst ev ev2 ev3
        obtain ⟨Hd, W⟩ := Src.get I1 hc hS
        obtain ⟨Hd2, W2⟩ := Src.get I1 hc hS2
        obtain ⟨Hd3, W3⟩ := Src.get I1 hc hS3
        refine zip_begins3 W.bg W2.bg W3.bg W.hd W2.hd W3.hd fun h' hz hTI hTO g1 g2 g3 hsz hk => wpAny_pyIter_zip hz ?_
        have I2 : Inv X pins σ H1 { s1 with heap := h' } := I1.kept (t' := s1.toks) hk
        refine ⟨s1.heap.objs.size + 5, [s1.heap.objs.size + 5, s1.heap.objs.size + 3, s1.heap.objs.size + 4, s1.heap.objs.size, s1.heap.objs.size + 1, s1.heap.objs.size + 2], _, _, H1, rfl, I2, turn_z3 W.lt W2.lt W3.lt, ⟨hz, hTI, ⟨_, _, _, hTO⟩, Src.at0 g1, Src.at0 g2, Src.at0 g3⟩, fun c hcm => fpNew I1 ?_, q⟩
        have e' : c = s1.heap.objs.size + 5 ∨ c = s1.heap.objs.size + 3 ∨ c = s1.heap.objs.size + 4 ∨ c = s1.heap.objs.size ∨ c = s1.heap.objs.size + 1 ∨ c = s1.heap.objs.size + 2 := by simpa using hcm
        rcases e' with z | z | z | z | z | z <;> (rw [z]; first | exact Nat.le_add_right _ _ | exact Nat.le_refl _)
/-! ### over data -/
theorem signs_dp {K : PySem.W.Frag} {G : Hp} (x : Str) : DpAll K G (signs x) (x.cps.toList.map fun c => PyData.str ⟨#[c]⟩) := by
  unfold signs
  generalize x.cps.toList = l
  induction l with
  | nil => exact .nil
  | cons a l ih => exact .cons (.str _) ih
/-- a source of data -/
theorem srcD {K : PySem.W.Frag} {G H : Hp} {v : V} {d : D} {ds : List D} (sg : Same G H) (h : Dp K G v d) (e : itsD d = .ok ds) : ∀ u, RelV v u → ∃ S ws, S.val = u ∧ Src.Is K G ws S ∧ DpAll K G ws ds := by
  intro u r
  cases h with
  | lst q ra => cases r; injection e with e; subst e; exact ⟨.lst _, _, rfl, q, ra⟩
  | tup q ra => cases r; injection e with e; subst e; exact ⟨.tup _, _, rfl, q, ra⟩
  | str x =>
    obtain ⟨t, rfl⟩ := r
    have e : grd (few x.length) (Rs.ok (x.cps.toList.map fun c => PyData.str ⟨#[c]⟩)) = .ok ds := e
    cases g : few x.length with
    | false => rw [g] at e; cases e
    | true => rw [g] at e; injection e with e; subst e; exact ⟨.txt x t, _, rfl, rfl, signs_dp x⟩
  | non => cases e
  | bl => cases e
  | int => cases e
theorem Src.up {K : PySem.W.Frag} {G H : Hp} {S : Src} {ws : List V} (sg : Same G H) (h : S.Is K G ws) : S.Is K H ws := by
  cases S with
  | lst a => exact sg.seq h
  | tup a => exact Same.seqT sg h
  | txt x t => exact h
theorem enumD_get : ∀ {ds : List D} {n i : Nat}, (enumD n ds)[i]? = ds[i]?.map fun d => .tuple [.int ((n + i : Nat) : Int), d]
  | [], n, i => by simp [enumD]
  | d :: ds, n, 0 => by simp [enumD]
  | d :: ds, n, i + 1 => by
    unfold enumD
    rw [List.getElem?_cons_succ, List.getElem?_cons_succ, enumD_get, show n + 1 + i = n + (i + 1) by omega]
theorem enumD_len : ∀ {ds : List D} {n : Nat}, (enumD n ds).length = ds.length
  | [], _ => rfl
  | d :: ds, n => by unfold enumD; rw [List.length_cons, List.length_cons, enumD_len]
theorem zip2_get : ∀ {ds es : List D} {i : Nat} {d e : D}, ds[i]? = some d → es[i]? = some e → (zip2 ds es)[i]? = some (.tuple [d, e])
  | [], _, i, _, _, h, _ => by simp at h
  | _ :: _, [], i, _, _, _, h => by simp at h
  | d :: ds, e :: es, 0, _, _, h, h2 => by simp at h h2; subst h h2; rfl
  | d :: ds, e :: es, i + 1, _, _, h, h2 => by unfold zip2; exact zip2_get (by simpa using h) (by simpa using h2)
theorem zip2_len : ∀ {ds es : List D}, (zip2 ds es).length = min ds.length es.length
  | [], _ => by simp [zip2]
  | _ :: _, [] => by simp [zip2]
  | d :: ds, e :: es => by unfold zip2; rw [List.length_cons, zip2_len, List.length_cons, List.length_cons]; omega
theorem zip3_get : ∀ {ds es fs : List D} {i : Nat} {d e f : D}, ds[i]? = some d → es[i]? = some e → fs[i]? = some f → (zip3 ds es fs)[i]? = some (.tuple [d, e, f])
  | [], _, _, i, _, _, _, h, _, _ => by simp at h
  | _ :: _, [], _, i, _, _, _, _, h, _ => by simp at h
  | _ :: _, _ :: _, [], i, _, _, _, _, _, h => by simp at h
  | d :: ds, e :: es, f :: fs, 0, _, _, _, h, h2, h3 => by simp at h h2 h3; subst h h2 h3; rfl
  | d :: ds, e :: es, f :: fs, i + 1, _, _, _, h, h2, h3 => by unfold zip3; exact zip3_get (by simpa using h) (by simpa using h2) (by simpa using h3)
theorem zip3_len : ∀ {ds es fs : List D}, (zip3 ds es fs).length = min (min ds.length es.length) fs.length
  | [], _, _ => by simp [zip3]
  | _ :: _, [], _ => by simp [zip3]
  | _ :: _, _ :: _, [] => by simp [zip3]
  | d :: ds, e :: es, f :: fs => by unfold zip3; rw [List.length_cons, zip3_len, List.length_cons, List.length_cons, List.length_cons]; omega
section
variable {K : PySem.W.Frag} {G : Hp} {S S2 S3 : Src} {vs ws us : List V} {ds es fs : List D}
theorem wk_en (h : S.Is K G vs) (r : DpAll K G vs ds) : WkD K G (ItE K S vs) (enumD 0 ds) := by
  have hl := DpAll_len r
  refine ⟨fun i H hi s => ?_, fun H s => ?_, fun i H x H' G1 hi s1 s2 y => ?_⟩
  · rw [enumD_len] at hi; exact ⟨by omega, Src.up s h⟩
  · rw [enumD_len]; exact ⟨hl.symm, Src.up s h⟩
  · obtain ⟨T, v, rfl, hT, rfl, hv⟩ := y
    obtain ⟨d, e, rd⟩ := DpAll_getV r hv
    have st : Stp G1 H (upd G1 T (.tup [.int (i : Nat), v])) (upd H T (.tup [.int (i : Nat), v])) := Stp.new s2 hT
    refine ⟨.tuple [.int (i : Nat), d], _, by rw [enumD_get, e]; simp, st, .tup (SqT.of upd_same) (.cons (.int _) (.cons (Dp_mono (s1.trans st.gg) rd) .nil))⟩
theorem wk_z2 (h : S.Is K G vs) (h2 : S2.Is K G ws) (r : DpAll K G vs ds) (r2 : DpAll K G ws es) : WkD K G (ItZ K S S2 vs ws) (zip2 ds es) := by
  have hl := DpAll_len r
  have hl2 := DpAll_len r2
  refine ⟨fun i H hi s => ?_, fun H s => ?_, fun i H x H' G1 hi s1 s2 y => ?_⟩
  · rw [zip2_len] at hi; exact ⟨by omega, by omega, Src.up s h, Src.up s h2⟩
  · rw [zip2_len]; exact ⟨by omega, by omega, by omega, Src.up s h, Src.up s h2⟩
  · obtain ⟨T, v, u, rfl, hT, rfl, hv, hu⟩ := y
    obtain ⟨d, e, rd⟩ := DpAll_getV r hv
    obtain ⟨d2, e2, rd2⟩ := DpAll_getV r2 hu
    have st : Stp G1 H (upd G1 T (.tup [v, u])) (upd H T (.tup [v, u])) := Stp.new s2 hT
    exact ⟨_, _, zip2_get e e2, st, .tup (SqT.of upd_same) (.cons (Dp_mono (s1.trans st.gg) rd) (.cons (Dp_mono (s1.trans st.gg) rd2) .nil))⟩
theorem wk_z3 (h : S.Is K G vs) (h2 : S2.Is K G ws) (h3 : S3.Is K G us) (r : DpAll K G vs ds) (r2 : DpAll K G ws es) (r3 : DpAll K G us fs) : WkD K G (ItZ3 K S S2 S3 vs ws us) (zip3 ds es fs) := by
  have hl := DpAll_len r
  have hl2 := DpAll_len r2
  have hl3 := DpAll_len r3
  refine ⟨fun i H hi s => ?_, fun H s => ?_, fun i H x H' G1 hi s1 s2 y => ?_⟩
  · rw [zip3_len] at hi; exact ⟨by omega, by omega, by omega, Src.up s h, Src.up s h2, Src.up s h3⟩
  · rw [zip3_len]; exact ⟨by omega, by omega, by omega, by omega, Src.up s h, Src.up s h2, Src.up s h3⟩
  · obtain ⟨T, v, u, t, rfl, hT, rfl, hv, hu, ht⟩ := y
    obtain ⟨d, e, rd⟩ := DpAll_getV r hv
    obtain ⟨d2, e2, rd2⟩ := DpAll_getV r2 hu
    obtain ⟨d3, e3, rd3⟩ := DpAll_getV r3 ht
    have st : Stp G1 H (upd G1 T (.tup [v, u, t])) (upd H T (.tup [v, u, t])) := Stp.new s2 hT
    exact ⟨_, _, zip3_get e e2 e3, st, .tup (SqT.of upd_same) (.cons (Dp_mono (s1.trans st.gg) rd) (.cons (Dp_mono (s1.trans st.gg) rd2) (.cons (Dp_mono (s1.trans st.gg) rd3) .nil)))⟩
end
section
variable {X : Cx} {c : Cw} (hK : c.K = X.K)
include hK
theorem PoG.mapQ {α β γ : Type} {R : Hp → β → γ → Prop} {σ : L2.St} {G H : Hp} {x : Rs α} {f : α → γ} {Q : β → Hp → Prop} (p : PoG R c σ G H ((x.map f).quiet) Q) : ∃ a, x = .ok a ∧ PoG R c σ G H (.ok (f a)) Q := by
  cases x with
  | ok a => exact ⟨a, rfl, p⟩
  | ex e => exact p.elim
  | no => exact p.elim
theorem pI_en {a : Expr} {r : Env → Rs (List D)} {p pos tpos : Pos} {elts : List Expr} {kk : Nat} (hc : X.calm = true) (hg : Gl X "enumerate") (hm : X.mg "enumerate" = none) (ha : PA X [a] (tL c r)) (hs : starEach [a] X.env = [(false, eval a X.env)]) (h1 : ∀ ρ ds, r ρ = .ok ds → ds.length = 1) :
    PI X (.Tuple elts kk tpos) (.Call (.Name "enumerate" p) [a] [] pos) (tI c fun ρ => (r ρ).bind fun ds => (itD .enum ds).quiet) := by
  refine PI.mono (pi_en hc hg hm ha hs) fun σ H R ⟨ρ, G, sg, e, p⟩ => ⟨ρ, G, sg, e, p.seq fun ds us G1 H1 ed st rd p1 => ?_⟩
  have hl := h1 ρ ds ed
  match ds, hl, rd, p1 with
  | [d], _, rd, p1 =>
    obtain ⟨v, rfl, h⟩ := one_of rd
    obtain ⟨xs, ex, p2⟩ := PoG.mapQ hK (x := itsD d) (f := enumD 0) p1
    refine ⟨v, rfl, fun u ru => ?_⟩
    obtain ⟨S, ws, e1, e2, e3⟩ := srcD st.gh h ex u ru
    rw [hK] at e2 e3 p2
    exact ⟨S, ws, e1, Src.up st.gh e2, p2 _ G1 H1 (Stp.refl st.gh) (wk_en e2 e3)⟩
theorem pI_z2 {a b : Expr} {r : Env → Rs (List D)} {p pos tpos : Pos} {elts : List Expr} {kk : Nat} (hc : X.calm = true) (hg : Gl X "zip") (hm : X.mg "zip" = none) (ha : PA X [a, b] (tL c r))
    (hs : starEach [a, b] X.env = (false, eval a X.env) :: starEach [b] X.env) (hpl : (backTo pos (starEach [b] X.env)).any (·.1) = false) (h1 : ∀ ρ ds, r ρ = .ok ds → ds.length = 2) :
    PI X (.Tuple elts kk tpos) (.Call (.Name "zip" p) [a, b] [] pos) (tI c fun ρ => (r ρ).bind fun ds => (itD .zip ds).quiet) := by
  refine PI.mono (pi_z2 hc hg hm ha hs hpl) fun σ H R ⟨ρ, G, sg, e, p⟩ => ⟨ρ, G, sg, e, p.seq fun ds us G1 H1 ed st rd p1 => ?_⟩
  have hl := h1 ρ ds ed
  match ds, hl, rd, p1 with
  | [d, d2], _, rd, p1 =>
    obtain ⟨v, v2, rfl, h, h2⟩ := two_of rd
    have p1 : PoG (WkD c.K) c σ G1 H1 (((itsD d).bind fun xs => (itsD d2).map fun ys => zip2 xs ys).quiet) R := p1
    cases ex : itsD d with
    | ex z => rw [ex] at p1; exact p1.elim
    | no => rw [ex] at p1; exact p1.elim
    | ok xs =>
      rw [ex] at p1
      obtain ⟨ys, ey, p2⟩ := PoG.mapQ hK (x := itsD d2) (f := fun ys => zip2 xs ys) p1
      refine ⟨v, v2, rfl, fun u u2 ru ru2 => ?_⟩
      obtain ⟨S, ws, e1, e2, e3⟩ := srcD st.gh h ex u ru
      obtain ⟨S2, ws2, f1, f2, f3⟩ := srcD st.gh h2 ey u2 ru2
      rw [hK] at e2 e3 f2 f3 p2
      exact ⟨S, S2, ws, ws2, e1, f1, Src.up st.gh e2, Src.up st.gh f2, p2 _ G1 H1 (Stp.refl st.gh) (wk_z2 e2 f2 e3 f3)⟩
theorem pI_z3 {a b g : Expr} {r : Env → Rs (List D)} {p pos tpos : Pos} {elts : List Expr} {kk : Nat} (hc : X.calm = true) (hg : Gl X "zip") (hm : X.mg "zip" = none) (ha : PA X [a, b, g] (tL c r))
    (hs : starEach [a, b, g] X.env = (false, eval a X.env) :: starEach [b, g] X.env) (hpl : (backTo pos (starEach [b, g] X.env)).any (·.1) = false) (h1 : ∀ ρ ds, r ρ = .ok ds → ds.length = 3) :
    PI X (.Tuple elts kk tpos) (.Call (.Name "zip" p) [a, b, g] [] pos) (tI c fun ρ => (r ρ).bind fun ds => (itD .zip ds).quiet) := by
  refine PI.mono (pi_z3 hc hg hm ha hs hpl) fun σ H R ⟨ρ, G, sg, e, p⟩ => ⟨ρ, G, sg, e, p.seq fun ds us G1 H1 ed st rd p1 => ?_⟩
  have hl := h1 ρ ds ed
  match ds, hl, rd, p1 with
  | [d, d2, d3], _, rd, p1 =>
    obtain ⟨v, v2, v3, rfl, h, h2, h3⟩ := three_of rd
    have p1 : PoG (WkD c.K) c σ G1 H1 (((itsD d).bind fun xs => (itsD d2).bind fun ys => (itsD d3).map fun zs => zip3 xs ys zs).quiet) R := p1
    cases ex : itsD d with
    | ex z => rw [ex] at p1; exact p1.elim
    | no => rw [ex] at p1; exact p1.elim
    | ok xs =>
      rw [ex] at p1
      cases ey : itsD d2 with
      | ex z => rw [ey] at p1; exact p1.elim
      | no => rw [ey] at p1; exact p1.elim
      | ok ys =>
        rw [ey] at p1
        obtain ⟨zs, ez, p2⟩ := PoG.mapQ hK (x := itsD d3) (f := fun zs => zip3 xs ys zs) p1
        refine ⟨v, v2, v3, rfl, fun u u2 u3 ru ru2 ru3 => ?_⟩
        obtain ⟨S, ws, e1, e2, e3⟩ := srcD st.gh h ex u ru
        obtain ⟨S2, ws2, f1, f2, f3⟩ := srcD st.gh h2 ey u2 ru2
        obtain ⟨S3, ws3, g1, g2, g3⟩ := srcD st.gh h3 ez u3 ru3
        rw [hK] at e2 e3 f2 f3 g2 g3 p2
        exact ⟨S, S2, S3, ws, ws2, ws3, e1, f1, g1, Src.up st.gh e2, Src.up st.gh f2, Src.up st.gh g2, p2 _ G1 H1 (Stp.refl st.gh) (wk_z3 e2 f2 g2 e3 f3 g3)⟩
end
end Rf
set_option Elab.async false
set_option linter.all false
set_option maxRecDepth 100000
set_option maxHeartbeats 2000000
namespace Rf
open PySem PySem.Spec PyProof.Rows L2
/-- nothing is let out -/
def Cw.calm (c : Cw) : Cw := { c with W := fun _ _ _ _ => False }
theorem wipe_set (σ : L2.St) (i : Nat) (v : Option V) : ∀ vs : List Nat, i ∈ vs → wipe (σ.set i v) vs = wipe σ vs
  | [], h => by cases h
  | w :: vs, h => by
    unfold wipe
    by_cases e : i ∈ vs
    · rw [wipe_set σ i v vs e]
    · have e2 : i = w := by
        rcases List.mem_cons.mp h with q | q
        · exact q
        · exact absurd q e
      subst e2
      have z : ∀ (us : List Nat), i ∉ us → wipe (σ.set i v) us = (wipe σ us).set i v := by
        intro us
        induction us with
        | nil => intro _; rfl
        | cons u us ih =>
          intro hu
          simp only [List.mem_cons, not_or] at hu
          unfold wipe
          rw [ih hu.2, List.set_comm _ _ hu.1]
      rw [z vs e, List.set_set]
theorem wipe_setAll {K : PySem.W.Frag} {G : Hp} (own : List Nat) : ∀ {bs : List (Nat × D)} {vs : List (Nat × V)} (σ : L2.St), Bnd K G bs vs → (∀ b ∈ bs, b.1 ∈ own) → wipe (setAllV σ vs) own = wipe σ own
  | _, _, σ, .nil, _ => rfl
  | (i, d) :: bs, (_, v) :: vs, σ, .cons a b, h => by
    show wipe (setAllV (σ.set i (some v)) vs) own = wipe σ own
    rw [wipe_setAll own (σ.set i (some v)) b fun x hx => h x (List.mem_cons_of_mem _ hx), wipe_set σ i _ own (h (i, d) List.mem_cons_self)]
theorem wipe_twice (σ : L2.St) (own : List Nat) : wipe (wipe σ own) own = wipe σ own := by
  have : ∀ us : List Nat, (∀ u ∈ us, u ∈ own) → wipe (wipe σ us) own = wipe σ own := by
    intro us
    induction us with
    | nil => intro _; rfl
    | cons u us ih =>
      intro h
      show wipe ((wipe σ us).set u none) own = wipe σ own
      rw [wipe_set _ _ _ own (h u List.mem_cons_self)]
      exact ih fun x hx => h x (List.mem_cons_of_mem _ hx)
  exact this own fun _ h => h
theorem bind_slots : ∀ (t : Tg) (d : D) (bs : List (Nat × D)), bindTg t d = .ok bs → ∀ b ∈ bs, b.1 ∈ t.slots
  | .nm i, d, bs, h, b, hb => by
    injection h with h
    subst h
    rw [List.mem_singleton.mp hb]
    exact List.mem_singleton.mpr rfl
  | .t2 x y, d, bs, h, b, hb => by
    match d, h with
    | .tuple [u, v], h =>
      have h : (bindTg x u).bind (fun l => (bindTg y v).map fun r => l ++ r) = .ok bs := h
      cases e1 : bindTg x u with
      | ok l =>
        cases e2 : bindTg y v with
        | ok r =>
          rw [e1, e2] at h
          injection (show Rs.ok (l ++ r) = Rs.ok bs from h) with h
          subst h
          rcases List.mem_append.mp hb with q | q
          · exact List.mem_append_left _ (bind_slots x u l e1 b q)
          · exact List.mem_append_right _ (bind_slots y v r e2 b q)
        | ex e' => rw [e1, e2] at h; exact nomatch (show (Rs.ex e' : Rs (List (Nat × D))) = Rs.ok bs from h)
        | no => rw [e1, e2] at h; exact nomatch (show (Rs.no : Rs (List (Nat × D))) = Rs.ok bs from h)
      | ex e' => rw [e1] at h; exact nomatch (show (Rs.ex e' : Rs (List (Nat × D))) = Rs.ok bs from h)
      | no => rw [e1] at h; exact nomatch (show (Rs.no : Rs (List (Nat × D))) = Rs.ok bs from h)
  | .t3 x y z, d, bs, h, b, hb => by
    match d, h with
    | .tuple [u, v, w'], h =>
      have h : (bindTg x u).bind (fun l => (bindTg y v).bind fun r => (bindTg z w').map fun q => l ++ (r ++ q)) = .ok bs := h
      cases e1 : bindTg x u with
      | ok l =>
        cases e2 : bindTg y v with
        | ok r =>
          cases e3 : bindTg z w' with
          | ok q' =>
            rw [e1, e2, e3] at h
            injection (show Rs.ok (l ++ (r ++ q')) = Rs.ok bs from h) with h
            subst h
            rcases List.mem_append.mp hb with q | q
            · exact List.mem_append_left _ (bind_slots x u l e1 b q)
            · rcases List.mem_append.mp q with q | q
              · exact List.mem_append_right _ (List.mem_append_left _ (bind_slots y v r e2 b q))
              · exact List.mem_append_right _ (List.mem_append_right _ (bind_slots z w' q' e3 b q))
          | ex e' => rw [e1, e2, e3] at h; exact nomatch (show (Rs.ex e' : Rs (List (Nat × D))) = Rs.ok bs from h)
          | no => rw [e1, e2, e3] at h; exact nomatch (show (Rs.no : Rs (List (Nat × D))) = Rs.ok bs from h)
        | ex e' => rw [e1, e2] at h; exact nomatch (show (Rs.ex e' : Rs (List (Nat × D))) = Rs.ok bs from h)
        | no => rw [e1, e2] at h; exact nomatch (show (Rs.no : Rs (List (Nat × D))) = Rs.ok bs from h)
      | ex e' => rw [e1] at h; exact nomatch (show (Rs.ex e' : Rs (List (Nat × D))) = Rs.ok bs from h)
      | no => rw [e1] at h; exact nomatch (show (Rs.no : Rs (List (Nat × D))) = Rs.ok bs from h)
theorem bind_okI {α β : Type} {x : Rs α} {f : α → Rs β} {b : β} (h : x.bind f = .ok b) : ∃ a, x = .ok a ∧ f a = .ok b := by
  cases x with
  | ok a => exact ⟨a, rfl, h⟩
  | ex e => cases h
  | no => cases h
theorem map_okI {α β : Type} {x : Rs α} {f : α → β} {b : β} (h : x.map f = .ok b) : ∃ a, x = .ok a ∧ f a = b := by
  obtain ⟨a, e, h⟩ := bind_okI h
  injection h with h
  exact ⟨a, e, h⟩
abbrev tBo (c : Cw) (r : Env → Rs Bool) : TT := tG (fun _ b b' => b' = b) c r
section
variable {X : Cx} {c : Cw}
theorem lcRead (hK : c.K = X.K) {own : List (Str × Nat)} {t : Tg} {ri : Env → Rs (List D)} {rt : Env → Rs Bool} {re : Env → Rs D} (ht : ∀ i ∈ t.slots, i ∈ own.map (·.2)) :
    ∀ σ H Q, tE c (fun ρ => (ri ρ).bind fun its => grd (few its.length) ((gather (turnD t rt re (own.map (·.2)) ρ) its).map .list)) σ H Q → tLc (tI c ri) (tT c.calm t) (tBo c.calm rt) (tE c.calm re) (own.map (·.2)) σ H Q := by
  intro σ H Q ⟨ρ, G, sg, e, p⟩
  refine tG.first sg e p fun its J G1 H1 s1 e1 st wk p1 => ?_
  intro Da hD
  generalize hw : own.map (·.2) = vs at *
  generalize hf : turnD t rt re vs ρ = f at *
  by_cases g : few its.length = true
  · rw [g] at p1
    cases q : gather f its with
    | ex x => exact absurd q (gather_nx its x)
    | no => rw [q] at p1; exact p1.elim
    | ok ds =>
      rw [q] at p1
      have p2 : ∀ u G' H', Stp G1 H1 G' H' → Dp c.K G' u (.list ds) → Q u H' := p1
      refine ⟨fun i m H => m = its.length - i ∧ i ≤ its.length ∧ ∃ G' acc pre, Stp G1 H1 G' H ∧ G' Da = none ∧ H Da = some (.lst acc) ∧ DpAll c.K G' acc pre ∧ gather f (its.take i) = .ok pre,
        ⟨its.length, by simp, Nat.zero_le _, G1, [], [], Stp.beside s1 hD, s1.free hD, upd_same, .nil, rfl⟩, fun i m H2 hW => ?_⟩
      obtain ⟨hm, hi2, G', acc, pre, st2, hG, hA, hda, hpre⟩ := hW
      by_cases hlt : i < its.length
      · refine .inr ⟨wk.go i H2 hlt (st2.gg.trans st2.gh), fun H' => ∃ G' acc pre, Stp G1 H1 G' H' ∧ G' Da = none ∧ H' Da = some (.lst acc) ∧ DpAll c.K G' acc pre ∧ gather f (its.take (i + 1)) = .ok pre, fun H' hN' => ⟨its.length - (i + 1), by omega, rfl, by omega, hN'⟩, fun x H3 hy => ?_⟩
        obtain ⟨d, G3, ed, st3, hx⟩ := wk.yld i H2 x H3 G' hlt st2.gg st2.gh hy
        have hsplit : its = its.take i ++ ([d] ++ its.drop (i + 1)) := by
          have h1 : its[i] = d := by
            have := List.getElem?_eq_getElem hlt
            rw [this] at ed
            exact Option.some.inj ed
          rw [← h1, List.singleton_append, List.getElem_cons_drop, List.take_append_drop]
        obtain ⟨pa, qa, ea, eb, ec⟩ := gather_app (f := f) (its.take i) ([d] ++ its.drop (i + 1)) ds (by rw [← hsplit]; exact q)
        obtain ⟨pb, qb, ea2, eb2, ec2⟩ := gather_app (f := f) [d] (its.drop (i + 1)) qa eb
        obtain ⟨o, eo, eo2⟩ := gather_one ea2
        have hpa : pa = pre := by
          rw [hpre] at ea
          injection ea with ea
          exact ea.symm
        subst hpa
        have hnext : gather f (its.take (i + 1)) = .ok (pa ++ o.toList) := by
          have h1 : its.take (i + 1) = its.take i ++ [d] := by
            rw [List.take_add_one, ed]; rfl
          rw [h1]
          have : ∀ (as : List D) (l : List D), gather f as = .ok l → gather f (as ++ [d]) = .ok (l ++ o.toList) := by
            intro as
            induction as with
            | nil => intro l hl; cases hl; rw [List.nil_append, gather_cons, eo]; simp [Rs.map, gather]
            | cons a as ih =>
              intro l hl
              rw [List.cons_append, gather_cons]
              rw [gather_cons] at hl
              obtain ⟨o', h1, h2⟩ := bind_okI hl
              obtain ⟨l', h3, h4⟩ := map_okI h2
              rw [h1, Rs.bind_ok, ih l' h3]
              show Rs.ok (o'.toList ++ (l' ++ o.toList)) = _
              rw [← h4, List.append_assoc]
          exact this _ _ hpre
        have hd3 : H3 Da = some (.lst acc) := st3.hh Da _ hA
        have hG3 : G3 Da = none := by
          cases z : G3 Da with
          | none => rfl
          | some o' =>
            have := st3.nw Da o' z hG
            rw [hA] at this; cases this
        have st13 := st2.trans st3
        -- the turn
        have eo := eo
        rw [← hf] at eo
        unfold turnD at eo
        obtain ⟨ρ1, h1, h2⟩ := bind_okI eo
        obtain ⟨bs, h3, h4⟩ := map_okI h1
        obtain ⟨b, h5, h6⟩ := bind_okI h2
        have E3 : EnvR c.kx G3 H3 (wipeE ρ vs) (wipe σ vs) := (e1.step st13).wipe vs
        refine ⟨G3, d, st3.gh, hx, ?_⟩
        rw [h3]
        intro us hb
        have E4 : EnvR c.kx G3 H3 ρ1 (setAllV (wipe σ vs) us) := by
          rw [← h4]; exact E3.all hb
        refine ⟨by rw [wipe_setAll vs _ hb fun z hz => ht z.1 (bind_slots t d bs h3 z hz), wipe_twice], ⟨ρ1, G3, st3.gh, E4, ?_⟩⟩
        rw [h5]
        intro b' G4 H4 st4 eb'
        subst eb'
        have hd4 : H4 Da = some (.lst acc) := st4.hh Da _ hd3
        have hG4 : G4 Da = none := by
          cases z : G4 Da with
          | none => rfl
          | some o' =>
            have := st4.nw Da o' z hG3
            rw [hd3] at this; cases this
        cases b with
        | false =>
          rw [if_neg Bool.false_ne_true]
          rw [if_neg Bool.false_ne_true] at h6
          injection h6 with h6
          refine ⟨G4, acc, pa, st13.trans st4, hG4, hd4, DpAll_mono (st3.gg.trans st4.gg) hda, ?_⟩
          rw [hnext, ← h6]; simp
        | true =>
          rw [if_pos rfl]
          rw [if_pos rfl] at h6
          obtain ⟨y, h7, h8⟩ := map_okI h6
          refine ⟨ρ1, G4, st4.gh, E4.step st4, ?_⟩
          rw [h7]
          intro u G5 H5 st5 hu
          have hd5 : H5 Da = some (.lst acc) := st5.hh Da _ hd4
          have hG5 : G5 Da = none := by
            cases z : G5 Da with
            | none => rfl
            | some o' =>
              have := st5.nw Da o' z hG4
              rw [hd4] at this; cases this
          have st15 := (st13.trans st4).trans st5
          refine ⟨acc, hd5, ?_, ?_⟩
          · have := gather_len (its.take i) pa hpre
            rw [List.length_take] at this
            have hl := DpAll_len hda
            have := few_lt g
            omega
          · have sG : Same G5 (upd H5 Da (.lst (acc ++ [u]))) := fun a o' z => by
              have ne : a ≠ Da := fun e => by rw [e, hG5] at z; cases z
              rw [upd_ne ne]
              exact st15.gh a o' z
            refine ⟨G5, acc ++ [u], pa ++ [y], ⟨fun a o' z => ?_, st15.gg, sG, st15.nw⟩, hG5, upd_same, DpAll_app (DpAll_mono ((st3.gg.trans st4.gg).trans st5.gg) hda) (.cons hu .nil), ?_⟩
            · have ne : a ≠ Da := fun e => by rw [e, hD] at z; cases z
              rw [upd_ne ne]
              exact st15.hh a o' z
            · rw [hnext, ← h8]; rfl
      · have ei : i = its.length := by omega
        subst ei
        refine .inl ⟨wk.stop H2 (st2.gg.trans st2.gh), ?_⟩
        rw [List.take_length, q] at hpre
        injection hpre with hpre
        subst hpre
        refine p2 (.ref Da) (upd G' Da (.lst acc)) H2 ⟨st2.hh, st2.gg.trans (Same.upd hG), fun a o' z => ?_, fun a o' z n => ?_⟩ (.lst (SqL.of upd_same) (DpAll_mono (Same.upd hG) hda))
        · by_cases ne : a = Da
          · subst ne; rw [upd_same] at z; rw [← z]; exact hA
          · rw [upd_ne ne] at z; exact st2.gh a o' z
        · by_cases ne : a = Da
          · subst ne; exact hD
          · rw [upd_ne ne] at z; exact st2.nw a o' z n
  · rw [Bool.eq_false_iff.mpr g] at p1; exact p1.elim
theorem gath2_nx {f : D → Rs (List D)} : ∀ (its : List D) (e : Xn), gath2 f its ≠ .ex e
  | [], e, h => by cases h
  | d :: ds, e, h => by
    rw [gath2_cons] at h
    cases q : f d with
    | ok o =>
      rw [q] at h
      cases r : gath2 f ds with
      | ok l => rw [r] at h; cases h
      | ex e' => exact gath2_nx ds e' r
      | no => rw [r] at h; cases h
    | ex e' => rw [q] at h; cases h
    | no => rw [q] at h; cases h
theorem quiet_okE {α : Type} {x : Rs α} {a : α} (h : x.quiet = .ok a) : x = .ok a := by
  cases x with
  | ok b => exact h
  | ex e => cases h
  | no => cases h
theorem gath2_app {f : D → Rs (List D)} : ∀ (as bs : List D) (ds : List D), gath2 f (as ++ bs) = .ok ds → ∃ p q, gath2 f as = .ok p ∧ gath2 f bs = .ok q ∧ ds = p ++ q
  | [], bs, ds, h => ⟨[], ds, rfl, h, rfl⟩
  | a :: as, bs, ds, h => by
    rw [List.cons_append, gath2_cons] at h
    obtain ⟨l, h1, h2⟩ := bind_okI h
    obtain ⟨r, h3, h4⟩ := map_okI h2
    obtain ⟨p, q, e1, e2, e3⟩ := gath2_app as bs r h3
    refine ⟨l ++ p, q, by rw [gath2_cons, h1, e1]; rfl, e2, ?_⟩
    rw [← h4, e3, List.append_assoc]
theorem gath2_snoc {f : D → Rs (List D)} {d : D} {l : List D} (e : f d = .ok l) : ∀ (as p : List D), gath2 f as = .ok p → gath2 f (as ++ [d]) = .ok (p ++ l)
  | [], p, h => by cases h; rw [List.nil_append, gath2_cons, e]; simp [Rs.map, gath2]
  | a :: as, p, h => by
    rw [gath2_cons] at h
    obtain ⟨o, h1, h2⟩ := bind_okI h
    obtain ⟨r, h3, h4⟩ := map_okI h2
    rw [List.cons_append, gath2_cons, h1, Rs.bind_ok, gath2_snoc e as r h3]
    show Rs.ok (o ++ (r ++ l)) = _
    rw [← h4, List.append_assoc]
theorem gather_snoc {f : D → Rs (Option D)} {d : D} {o : Option D} (e : f d = .ok o) : ∀ (as p : List D), gather f as = .ok p → gather f (as ++ [d]) = .ok (p ++ o.toList)
  | [], p, h => by cases h; rw [List.nil_append, gather_cons, e]; simp [Rs.map, gather]
  | a :: as, p, h => by
    rw [gather_cons] at h
    obtain ⟨o', h1, h2⟩ := bind_okI h
    obtain ⟨r, h3, h4⟩ := map_okI h2
    rw [List.cons_append, gather_cons, h1, Rs.bind_ok, gather_snoc e as r h3]
    show Rs.ok (o'.toList ++ (r ++ o.toList)) = _
    rw [← h4, List.append_assoc]
theorem take_split {its : List D} {i : Nat} {d : D} (h : its[i]? = some d) : its = its.take i ++ ([d] ++ its.drop (i + 1)) ∧ its.take (i + 1) = its.take i ++ [d] := by
  obtain ⟨hl, e⟩ := List.getElem?_eq_some_iff.mp h
  refine ⟨?_, by rw [List.take_add_one, h]; rfl⟩
  rw [← e, List.singleton_append, List.getElem_cons_drop, List.take_append_drop]
/-- the list that grows beside what is frozen -/
structure Grow (K : PySem.W.Frag) (G1 H1 : Hp) (Da : Addr) (ds : List D) (G' H' : Hp) : Prop where
  st : Stp G1 H1 G' H'
  g : G' Da = none
  h : ∃ acc, H' Da = some (.lst acc) ∧ DpAll K G' acc ds
theorem Grow.step {K : PySem.W.Frag} {G1 H1 : Hp} {Da : Addr} {ds : List D} {G2 H2 G3 H3 : Hp} (w : Grow K G1 H1 Da ds G2 H2) (s : Stp G2 H2 G3 H3) : Grow K G1 H1 Da ds G3 H3 := by
  obtain ⟨acc, hA, hd⟩ := w.h
  refine ⟨w.st.trans s, ?_, acc, s.hh Da _ hA, DpAll_mono s.gg hd⟩
  cases z : G3 Da with
  | none => rfl
  | some o' =>
    have := s.nw Da o' z w.g
    rw [hA] at this; cases this
theorem Grow.push {K : PySem.W.Frag} {G1 H1 : Hp} {Da : Addr} {ds : List D} {G2 H2 : Hp} {u : V} {d : D} (w : Grow K G1 H1 Da ds G2 H2) (hD : H1 Da = none) (hu : Dp K G2 u d) {acc : List V} (hA : H2 Da = some (.lst acc)) : Grow K G1 H1 Da (ds ++ [d]) G2 (upd H2 Da (.lst (acc ++ [u]))) := by
  obtain ⟨acc', hA', hd⟩ := w.h
  rw [hA] at hA'
  injection hA' with e
  injection e with e
  subst e
  have ng : ∀ a o', G2 a = some o' → a ≠ Da := fun a o' z e => by rw [e, w.g] at z; cases z
  refine ⟨⟨fun a o' z => ?_, w.st.gg, fun a o' z => by rw [upd_ne (ng a o' z)]; exact w.st.gh a o' z, w.st.nw⟩, w.g, acc ++ [u], upd_same, DpAll_app hd (.cons hu .nil)⟩
  have ne : a ≠ Da := fun e => by rw [e, hD] at z; cases z
  rw [upd_ne ne]
  exact w.st.hh a o' z
theorem Bnd_mono {K : PySem.W.Frag} {G H : Hp} (s : Same G H) : ∀ {bs : List (Nat × D)} {vs : List (Nat × V)}, Bnd K G bs vs → Bnd K H bs vs
  | _, _, .nil => .nil
  | _, _, .cons a b => .cons (Dp_mono s a) (Bnd_mono s b)
theorem lcRead2 (hK : c.K = X.K) {own : List (Str × Nat)} {own1 : List Nat} {t t1 : Tg} {ri ri1 : Env → Rs (List D)} {re : Env → Rs D} (ht : ∀ i ∈ t.slots, i ∈ own.map (·.2)) (ht1 : ∀ i ∈ t1.slots, i ∈ own1) :
    ∀ σ H Q, tE c (fun ρ => (ri ρ).bind fun its => (gath2 (turn2 t ri1 t1 re (own.map (·.2)) own1 ρ) its).bind fun r => grd (few r.length) (.ok (.list r))) σ H Q →
      tLc2 (tI c ri) (tT c.calm t) (tBo c.calm fun _ => .ok true) (tI c.calm ri1) (tT c.calm t1) (tBo c.calm fun _ => .ok true) (tE c.calm re) (own.map (·.2)) own1 σ H Q := by
  intro σ H Q ⟨ρ, G, sg, e, p⟩
  refine tG.first sg e p fun its J G1 H1 s1 e1 st wk p1 => ?_
  intro Da hD
  generalize hw : own.map (·.2) = vs at *
  generalize hf : turn2 t ri1 t1 re vs own1 ρ = f at *
  cases q : gath2 f its with
  | ex x => exact absurd q (gath2_nx its x)
  | no => rw [q] at p1; exact p1.elim
  | ok ds =>
    rw [q] at p1
    have p1 : PoG (Dp c.K) c σ G1 H1 (grd (few ds.length) (.ok (.list ds))) Q := p1
    by_cases g : few ds.length = true
    · rw [g] at p1
      have p2 : ∀ u G' H', Stp G1 H1 G' H' → Dp c.K G' u (.list ds) → Q u H' := p1
      have hl := few_lt g
      refine ⟨fun i m H => m = its.length - i ∧ i ≤ its.length ∧ ∃ G' pre, gath2 f (its.take i) = .ok pre ∧ Grow c.K G1 H1 Da pre G' H,
        ⟨its.length, by simp, Nat.zero_le _, G1, [], rfl, Stp.beside s1 hD, s1.free hD, [], upd_same, .nil⟩, fun i m H2 hW => ?_⟩
      obtain ⟨hm, hi2, G', pre, hpre, gw⟩ := hW
      by_cases hlt : i < its.length
      · refine .inr ⟨wk.go i H2 hlt (gw.st.gg.trans gw.st.gh), fun H' => ∃ G' pre, gath2 f (its.take (i + 1)) = .ok pre ∧ Grow c.K G1 H1 Da pre G' H', fun H' hN' => ⟨its.length - (i + 1), by omega, rfl, by omega, hN'⟩, fun x H3 hy => ?_⟩
        obtain ⟨d, G3, ed, st3, hx⟩ := wk.yld i H2 x H3 G' hlt gw.st.gg gw.st.gh hy
        obtain ⟨sp1, sp2⟩ := take_split ed
        obtain ⟨pa, qa, ea, eb, ec⟩ := gath2_app (f := f) (its.take i) ([d] ++ its.drop (i + 1)) ds (by rw [← sp1]; exact q)
        obtain ⟨pb, qb, ea2, eb2, ec2⟩ := gath2_app (f := f) [d] (its.drop (i + 1)) qa eb
        rw [gath2_cons] at ea2
        obtain ⟨l, fl, ea3⟩ := bind_okI ea2
        have fl := quiet_okE fl
        obtain ⟨l2, ea4, ea5⟩ := map_okI ea3
        have ea4 : Rs.ok [] = .ok l2 := ea4
        injection ea4 with ea4
        subst ea4
        rw [List.append_nil] at ea5
        subst ea5
        rw [hpre] at ea
        injection ea with ea
        subst ea
        have hnext : gath2 f (its.take (i + 1)) = .ok (pre ++ l) := by rw [sp2]; exact gath2_snoc fl _ _ hpre
        have gw3 := gw.step st3
        have fl2 := fl
        rw [← hf] at fl2
        unfold turn2 at fl2
        obtain ⟨ρ1, h1, h2⟩ := bind_okI fl2
        obtain ⟨bs, h3, h4⟩ := map_okI h1
        obtain ⟨its1, h5, h6⟩ := bind_okI h2
        generalize hf1 : turnD t1 (fun _ => Rs.ok true) re own1 ρ1 = f1 at h6
        have E3 : EnvR c.kx G3 H3 (wipeE ρ vs) (wipe σ vs) := (e1.step gw3.st).wipe vs
        refine ⟨G3, d, st3.gh, hx, ?_⟩
        rw [h3]
        intro us hb
        have E4 : EnvR c.kx G3 H3 ρ1 (setAllV (wipe σ vs) us) := by
          rw [← h4]; exact E3.all hb
        refine ⟨by rw [wipe_setAll vs _ hb fun z hz => ht z.1 (bind_slots t d bs h3 z hz), wipe_twice], ⟨ρ1, G3, st3.gh, E4, ?_⟩⟩
        intro b' G4 H4 st4 eb'
        subst eb'
        rw [if_pos rfl]
        refine ⟨ρ1, G4, st4.gh, E4.step st4, ?_⟩
        rw [h5]
        intro J1 G5 H5 st5 wk1
        have gw5 := (gw3.step st4).step st5
        have E5 := (E4.step st4).step st5
        refine ⟨fun j k H => k = its1.length - j ∧ j ≤ its1.length ∧ ∃ G' pre1, gather f1 (its1.take j) = .ok pre1 ∧ Same G5 G' ∧ Grow c.K G1 H1 Da (pre ++ pre1) G' H, ⟨its1.length, by simp, Nat.zero_le _, G5, [], rfl, Same.refl _, by rw [List.append_nil]; exact gw5⟩, fun j k H6 hW1 => ?_⟩
        obtain ⟨hk, hj, G', pre1, hp1, sG, gw6⟩ := hW1
        by_cases hlt1 : j < its1.length
        · refine .inr ⟨wk1.go j H6 hlt1 (sG.trans gw6.st.gh), fun H' => ∃ G' pre1, gather f1 (its1.take (j + 1)) = .ok pre1 ∧ Same G5 G' ∧ Grow c.K G1 H1 Da (pre ++ pre1) G' H', fun H' hN => ⟨its1.length - (j + 1), by omega, rfl, by omega, hN⟩, fun x H7 hy1 => ?_⟩
          obtain ⟨d1, G7, ed1, st7, hx1⟩ := wk1.yld j H6 x H7 G' hlt1 sG gw6.st.gh hy1
          obtain ⟨tp1, tp2⟩ := take_split ed1
          obtain ⟨pa1, qa1, fa, fb, fc⟩ := gather_app (f := f1) (its1.take j) ([d1] ++ its1.drop (j + 1)) l (by rw [← tp1]; exact h6)
          obtain ⟨pb1, qb1, fa2, fb2, fc2⟩ := gather_app (f := f1) [d1] (its1.drop (j + 1)) qa1 fb
          obtain ⟨o, eo, eo2⟩ := gather_one fa2
          rw [hp1] at fa
          injection fa with fa
          subst fa
          have hn1 : gather f1 (its1.take (j + 1)) = .ok (pre1 ++ o.toList) := by rw [tp2]; exact gather_snoc eo _ _ hp1
          rw [← hf1] at eo
          unfold turnD at eo
          obtain ⟨ρ2, h7, h10⟩ := bind_okI eo
          obtain ⟨bs1, h8, h9⟩ := map_okI h7
          have h10 : (re ρ2).map some = .ok o := h10
          obtain ⟨y, h11, h12⟩ := map_okI h10
          subst h12
          have gw7 := gw6.step st7
          have sG7 : Same G3 G7 := (st4.gg.trans st5.gg).trans (sG.trans st7.gg)
          have E7 : EnvR c.kx G7 H7 ρ1 (setAllV (wipe σ vs) us) := by
            rw [← h4]
            exact ((e1.step gw7.st).wipe vs).all (Bnd_mono sG7 hb)
          refine ⟨G7, d1, st7.gh, hx1, ?_⟩
          rw [h8]
          intro us1 hb1
          have E9 : EnvR c.kx G7 H7 ρ2 (setAllV (wipe (setAllV (wipe σ vs) us) own1) us1) := by
            rw [← h9]
            exact (E7.wipe own1).all hb1
          refine ⟨by rw [wipe_setAll own1 _ hb1 fun z hz => ht1 z.1 (bind_slots t1 d1 bs1 h8 z hz), wipe_twice], ⟨ρ2, G7, st7.gh, E9, ?_⟩⟩
          intro b' G8 H8 st8 eb'
          subst eb'
          rw [if_pos rfl]
          refine ⟨ρ2, G8, st8.gh, E9.step st8, ?_⟩
          rw [h11]
          intro u G9 H9 st9 hu
          have gw9 := (gw7.step st8).step st9
          obtain ⟨acc, hA, hda⟩ := gw9.h
          refine ⟨acc, hA, ?_, G9, pre1 ++ [y], hn1, sG.trans ((st7.gg.trans st8.gg).trans st9.gg), by rw [← List.append_assoc]; exact gw9.push hD hu hA⟩
          have hlen := DpAll_len hda
          have : ds.length = pre.length + (pre1.length + (1 + qb1.length) + qb.length) := by
            rw [ec, ec2, fc, fc2, eo2]
            simp only [List.length_append, Option.toList, List.length_cons, List.length_nil]
          rw [List.length_append] at hlen
          omega
        · have ej : j = its1.length := by omega
          subst ej
          refine .inl ⟨wk1.stop H6 (sG.trans gw6.st.gh), G', pre ++ l, hnext, ?_⟩
          rw [List.take_length, h6] at hp1
          injection hp1 with hp1
          subst hp1
          exact gw6
      · have ei : i = its.length := by omega
        subst ei
        refine .inl ⟨wk.stop H2 (gw.st.gg.trans gw.st.gh), ?_⟩
        rw [List.take_length, q] at hpre
        injection hpre with hpre
        subst hpre
        obtain ⟨acc, hA, hda⟩ := gw.h
        have hG := gw.g
        refine p2 (.ref Da) (upd G' Da (.lst acc)) H2 ⟨gw.st.hh, gw.st.gg.trans (Same.upd hG), fun a o' z => ?_, fun a o' z n => ?_⟩ (.lst (SqL.of upd_same) (DpAll_mono (Same.upd hG) hda))
        · by_cases ne : a = Da
          · subst ne; rw [upd_same] at z; rw [← z]; exact hA
          · rw [upd_ne ne] at z; exact gw.st.gh a o' z
        · by_cases ne : a = Da
          · subst ne; exact hD
          · rw [upd_ne ne] at z; exact gw.st.nw a o' z n
    · rw [Bool.eq_false_iff.mpr g] at p1; exact p1.elim
end
end Rf
set_option Elab.async false
set_option linter.all false
set_option maxRecDepth 100000
set_option maxHeartbeats 4000000
namespace Rf
open PySem PySem.Spec PyProof.Rows L2
/-! ### what a def keeps -/
def spF (K : PySem.W.Frag) (ca : Nat → Addr) (f : Fn) : Sp := fun vs H Q E => ∃ ds G, ds.length = f.ar ∧ Same G H ∧ DpAll K G vs ds ∧ PoG (Dp K) ⟨K, ca, fun cls d _ H => E cls d H, none⟩ [] G H (f.m ds) Q
structure Wd where
  P : Program
  w : World
  K : PySem.W.Frag
  mg : Str → Option Value
  base : Heap
  ca : Nat → Addr
/-- the def stands and keeps its promise -/
def Fok (Z : Wd) (k : Nat) (f : Fn) : Prop := ∃ fa fd ps, FnOk Z.P Z.w Z.K Z.mg Z.base (L2.CX Z.P Z.w) k fa fd ps (spF Z.K Z.ca f) ∧ ps.length = f.ar ∧ Z.mg f.name = some (.ref fa) ∧ PySem.W.keepIn Z.K (.ref fa) = true ∧ L2.Binds Z.K fd ps []
/-- a call with keywords -/
def Sok (Z : Wd) (k : Nat) (f : Fn) (s : Nat × Nat × List Str × (List D → List D → List D)) : Prop := ∃ fa fd ps g gV, FnOk Z.P Z.w Z.K Z.mg Z.base (L2.CX Z.P Z.w) k fa fd ps (spF Z.K Z.ca f) ∧ ps.length = f.ar ∧ Z.mg f.name = some (.ref fa) ∧ PySem.W.keepIn Z.K (.ref fa) = true ∧
  KBn Z.K fd ps s.2.1 s.2.2.1 g gV ∧ ∀ G vs ds zs es, DpAll Z.K G vs ds → DpAll Z.K G zs es → ds.length = s.2.1 → es.length = s.2.2.1.length → DpAll Z.K G (gV vs zs) (s.2.2.2 ds es) ∧ (s.2.2.2 ds es).length = f.ar
def bnames : List Str := ["len", "sum", "all", "any", "abs", "max", "min", "tuple", "list", "int", "bool", "str", "isinstance", "range", "enumerate", "zip", "sorted", "set", "ValueError"]
/-- a class of refusals of the program's own, below ValueError -/
structure Xok (Z : Wd) (C : Addr) (x : Str) : Prop where
  mg : Z.mg x = some (.ref C)
  xi : PySem.W.excIn Z.K C [.type "ValueError", .type "Exception", .type "BaseException", .type "object"] "ValueError.__new__" = true
  kp : PySem.W.keepIn Z.K (.ref C) = true
  sb : PySem.W.subIn Z.K (.ref C) (.type "BaseException") = some true
  ty : PySem.W.typeIn Z.K (.ref C) = some (.type "type")
  ve : PySem.W.kitOne Z.K (.ref C) (.type "ValueError") = some true
  ec : ExcC Z.K C
structure Tok (T : Tb) (Z : Wd) (k : Nat) : Prop where
  cls : ∀ (i : Nat) x, T.cls[i]? = some x → Xok Z (Z.ca i) x
  isa : ∀ i j, i < T.cls.length → j < T.cls.length → PySem.W.kitOne Z.K (.ref (Z.ca i)) (.ref (Z.ca j)) = some (T.isa i j) ∧ PySem.W.exmOne Z.K (.ref (Z.ca i)) (.ref (Z.ca j)) = some (T.isa i j)
  fns : ∀ (i : Nat) f, T.fns[i]? = some f → f.pl = true → Fok Z k f
  shs : ∀ (i : Nat) s f, T.shs[i]? = some s → T.fns[s.1]? = some f → Sok Z k f s
  gls : ∀ (i : Nat) p, T.gls[i]? = some p → ∃ v u, Z.mg p.1 = some u ∧ RelV v u ∧ ∀ G, Dp Z.K G v p.2
  blt : ∀ f ∈ bnames, Z.mg f = none
theorem Fok.mono {Z : Wd} {j k : Nat} {f : Fn} (h : Fok Z j f) (hk : j ≤ k) : Fok Z k f := by
  obtain ⟨fa, fd, ps, F, r⟩ := h
  exact ⟨fa, fd, ps, F.mono hk, r⟩
theorem Sok.mono {Z : Wd} {j k : Nat} {f : Fn} {s} (h : Sok Z j f s) (hk : j ≤ k) : Sok Z k f s := by
  obtain ⟨fa, fd, ps, g, gV, F, r⟩ := h
  exact ⟨fa, fd, ps, g, gV, F.mono hk, r⟩
abbrev zOf (c : Cw) (X : Cx) : Wd := ⟨X.prog, X.w, X.K, X.mg, X.base, c.ca⟩
structure Okx (T : Tb) (c : Cw) (k : Nat) (hot : Bool) (X : Cx) : Prop where
  hK : c.K = X.K
  nd : X.N.Nodup
  tk : Takes X c.W
  rm : hot = false → Room k X.A
  cm : hot = false → X.calm = true
  hu : X.A.units + 65 < cLine
  isE : ∀ a e, c.xa = some (a, e) → hot = true → e.1 < T.cls.length → CallR X (.builtin "isinstance") (rIsE X.K (c.ca e.1) a)
  tb : Tok T (zOf c X) k
/-! ### own syntax against the row's -/
def ndb (x : Str) : Bool := !(x == ("__debug__" : Str)) && !(x == ("__classdict__" : Str))
def visB (sc : Scope) (x : Str) : Bool := match sc.names.lookup x with | some .local => true | some .cell => true | some .free => true | _ => false
def locB (sc : Scope) (x : Str) : Bool := match sc.names.lookup x with | some .local => true | _ => false
def glB (sc : Scope) (x : Str) : Bool := match sc.names.lookup x with | some .globalImplicit => true | _ => false
def plE : Expr → Bool
  | .Starred .. => false
  | .Set .. => false
  | .Slice .. => false
  | _ => true
def abE : Expr → Bool
  | .Call (.Name _ _) [] [] _ => false
  | _ => true
def cstB : D → Const → Bool
  | .none, .none => true
  | .bool b, .bool c => decide (b = c)
  | .int i, .int j => decide (i = j)
  | .str x, .str y => decide (x = y)
  | _, _ => false
def opB : Operator → Operator → Bool
  | .Add, .Add => true | .Sub, .Sub => true | .Mult, .Mult => true | .FloorDiv, .FloorDiv => true | .Mod, .Mod => true | .Pow, .Pow => true
  | _, _ => false
def coB : CmpOp → CmpOp → Bool
  | .Eq, .Eq => true | .NotEq, .NotEq => true | .Lt, .Lt => true | .LtE, .LtE => true | .Gt, .Gt => true | .GtE, .GtE => true
  | .Is, .Is => true | .IsNot, .IsNot => true | .In, .In => true | .NotIn, .NotIn => true
  | _, _ => false
theorem opB_eq {a b : Operator} (h : opB a b = true) : a = b := by cases a <;> cases b <;> first | rfl | cases h
theorem coB_eq {a b : CmpOp} (h : coB a b = true) : a = b := by cases a <;> cases b <;> first | rfl | cases h
def tupB : Expr → Bool
  | .Tuple .. => true
  | _ => false
def lcB (sc : Scope) (fn : Str → Bool) (x : Str) : Bool := match sc.names.lookup x with | some .local => true | some .cell => fn x | _ => false
def Tg.chk (N : List Str) (sc : Scope) (fn : Str → Bool) : Tg → Expr → Bool
  | .nm i, x => match x with | .Name x _ => decide (N[i]? = some x) && lcB sc fn x | _ => false
  | .t2 a b, x => match x with | .Tuple [e, f] _ _ => plT e && plT f && a.chk N sc fn e && b.chk N sc fn f | _ => false
  | .t3 a b c, x => match x with | .Tuple [e, f, g] _ _ => plT e && plT f && plT g && a.chk N sc fn e && b.chk N sc fn f && c.chk N sc fn g | _ => false
def ownP (N : List Str) (own : List Nat) : List (Str × Nat) := own.map fun i => (N.getD i default, i)
def Es.len : Es → Nat
  | .nil => 0
  | .cons _ es => es.len + 1
def tyB (t : String) : Bool := ["int", "bool", "str", "list", "tuple"].contains t
def coolB : Bf → Bool
  | .len => true | .abs => true | .tuple => true | .list => true | .int => true
  | _ => false
/-- what a loop walks, by its form: the parts that are asked -/
def itForm (k : It) (tg : Expr) (sc : Scope) (iter : Expr) : Option (List Expr) := match k with
  | .seq => some [iter]
  | .rng => (match iter with | .Call (.Name y _) (l :: ls) [] _ => if (decide (y = ("range" : Str)) && glB sc y && decide ((l :: ls).length ≤ 3)) = true then some (l :: ls) else none | _ => none)
  | .enum => (match iter with | .Call (.Name y _) [l] [] _ => if (decide (y = ("enumerate" : Str)) && glB sc y && tupB tg) = true then some [l] else none | _ => none)
  | .zip => (match iter with | .Call (.Name y _) (l :: ls) [] _ => if (decide (y = ("zip" : Str)) && glB sc y && tupB tg && decide (2 ≤ (l :: ls).length ∧ (l :: ls).length ≤ 3)) = true then some (l :: ls) else none | _ => none)
  | .str => none
mutual
def E.chk (T : Tb) (hot : Bool) : E → List Str → Scope → Expr → Bool
  | .var i, N, sc, x => match x with | .Name x _ => decide (N[i]? = some x) && visB sc x && ndb x | _ => false
  | .cst d, _, _, x => match x with | .Constant c _ _ => cstB d c | _ => false
  | .glb i, _, sc, x => match x with | .Name x _ => glB sc x && ndb x && decide (T.gls[i]?.map (·.1) = some x) | _ => false
  | .bin o a b, N, sc, x => match x with | .BinOp l p r _ => opB o p && a.chk T hot N sc l && b.chk T hot N sc r | _ => false
  | .neg a, N, sc, x => match x with | .UnaryOp .USub l _ => a.chk T hot N sc l | _ => false
  | .nt a, N, sc, x => match x with | .UnaryOp .Not l _ => a.chk T hot N sc l | _ => false
  | .and a b, N, sc, x => match x with | .BoolOp .And (l :: r :: rs) pos => a.chk T hot N sc l && b.chk T hot N sc (match rs with | [] => r | _ => .BoolOp .And (r :: rs) pos) | _ => false
  | .or a b, N, sc, x => match x with | .BoolOp .Or (l :: r :: rs) pos => a.chk T hot N sc l && b.chk T hot N sc (match rs with | [] => r | _ => .BoolOp .Or (r :: rs) pos) | _ => false
  | .cmp o a b, N, sc, x => match x with | .Compare l [p] [r] _ => coB o p && plE r && a.chk T hot N sc l && b.chk T hot N sc r | _ => false
  | .chn o o2 a b c, N, sc, x => match x with | .Compare l [p, p2] [r, r2] _ => coB o p && coB o2 p2 && plE r2 && a.chk T hot N sc l && b.chk T hot N sc r && c.chk T hot N sc r2 | _ => false
  | .ite c a b, N, sc, x => match x with | .IfExp t l r _ => c.chk T hot N sc t && a.chk T hot N sc l && b.chk T hot N sc r | _ => false
  | .tup es, N, sc, x => match x with | .Tuple l _ _ => es.chk T hot N sc l && decide (es.len ≤ 1000) | _ => false
  | .lst es, N, sc, x => match x with | .List l _ => es.chk T hot N sc l && decide (es.len ≤ 1000) | _ => false
  | .idx a i, N, sc, x => match x with | .Subscript l r _ => plE r && a.chk T hot N sc l && i.chk T hot N sc r | _ => false
  | .vdx v i, N, sc, x => match x with | .Subscript (.Name x _) r _ => plE r && decide (N[v]? = some x) && visB sc x && ndb x && i.chk T hot N sc r | _ => false
  | .vln v, N, sc, x => match x with | .Call (.Name f _) [.Name x _] [] _ => decide (f = ("len" : Str)) && glB sc f && decide (N[v]? = some x) && visB sc x && ndb x | _ => false
  | .sl01 a h, N, sc, x => match x with | .Subscript l (.Slice none (some y) none _) _ => a.chk T hot N sc l && h.chk T hot N sc y | _ => false
  | .sl10 a h, N, sc, x => match x with | .Subscript l (.Slice (some y) none none _) _ => a.chk T hot N sc l && h.chk T hot N sc y | _ => false
  | .sl11 a h i, N, sc, x => match x with | .Subscript l (.Slice (some y) (some z) none _) _ => a.chk T hot N sc l && h.chk T hot N sc y && i.chk T hot N sc z | _ => false
  | .rev a, N, sc, x => match x with | .Subscript l (.Slice none none (some (.UnaryOp .USub (.Constant (.int 1) _ _) _)) _) _ => a.chk T hot N sc l | _ => false
  | .lrg1 tp a, N, sc, x => match x with | .Call (.Name y _) [.Call (.Name z _) [l] [] _] [] _ => !hot && decide (y = (if tp = true then ("tuple" : Str) else "list")) && glB sc y && decide (z = ("range" : Str)) && glB sc z && plE l && a.chk T hot N sc l | _ => false
  | .lrg2 tp a b, N, sc, x => match x with | .Call (.Name y _) [.Call (.Name z _) [l, r] [] _] [] _ => !hot && decide (y = (if tp = true then ("tuple" : Str) else "list")) && glB sc y && decide (z = ("range" : Str)) && glB sc z && plE l && plE r && a.chk T hot N sc l && b.chk T hot N sc r | _ => false
  | .bcl f es, N, sc, x => match x with | .Call (.Name y _) (l :: ls) [] _ => (!hot || coolB f) && decide (y = Str.ofString f.nm) && glB sc y && es.chk T hot N sc (l :: ls) | _ => false
  | .fcl i es, N, sc, x => match x with | .Call (.Name y _) (l :: ls) [] _ => !hot && decide (T.fns[i]?.map (fun f => (f.name, f.ar, f.pl)) = some (y, es.len, true)) && glB sc y && ndb y && es.chk T hot N sc (l :: ls) | _ => false
  | .kcl i sh es ks, N, sc, x => match x with | .Call (.Name y _) (l :: ls) kw _ => !hot && decide (T.fns[i]?.map (·.name) = some y) && decide (T.shs[sh]?.map (fun s => (s.1, s.2.1, s.2.2.1)) = some (i, es.len, kw.filterMap (·.arg))) && kw.all (fun q => q.arg.isSome) && decide (ks.len = (kw.filterMap (·.arg)).length) && glB sc y && ndb y && es.chk T hot N sc (l :: ls) && ks.chk T hot N sc (kw.map (·.value)) | _ => false
  | .met m a es, N, sc, x => match x with | .Call (.Attribute l y ap) (r :: rs) [] cp => decide (y = Str.ofString m.nm) && (ap.endLine == cp.line) && abE l && decide (es.len < 20) && a.chk T hot N sc l && es.chk T hot N sc (r :: rs) | _ => false
  | .isi a t, N, sc, x => match x with | .Call (.Name y _) [l, .Name z _] [] _ => decide (y = ("isinstance" : Str)) && glB sc y && decide (z = Str.ofString t) && glB sc z && tyB t && plE l && a.chk T hot N sc l | _ => false
  | .isx v cl, N, sc, x => match x with | .Call (.Name y _) [.Name e _, .Name z _] [] _ => hot && decide (y = ("isinstance" : Str)) && glB sc y && decide (N[v]? = some e) && visB sc e && ndb e && decide (T.cls[cl]? = some z) && glB sc z && ndb z | _ => false
  | .isv v, N, sc, x => match x with | .Call (.Name y _) [.Name e _, .Name z _] [] _ => hot && decide (y = ("isinstance" : Str)) && glB sc y && decide (N[v]? = some e) && visB sc e && ndb e && decide (z = ("ValueError" : Str)) && glB sc z | _ => false
  | .cmpr e t k is c own, N, sc, x => match x with
    | .ListComp elt [⟨tg, iter, ifs, 0⟩] scope _ => !hot && blkC N sc scope (ownP N own) && t.slots.all (own.contains ·) && t.chk N (relS scope sc) (fun x => scope.names.lookup x == some .cell) tg && plE iter &&
      (match itForm k tg sc iter with | some l => is.chk T hot N sc l | none => false) && c.chk T hot N (relS scope sc) ifs && decide (c.len ≤ 1) && e.chk T hot N (relS scope sc) elt
    | _ => false
  | .sst e, N, sc, x => match x with | .Call (.Name y _) [.Call (.Name z _) [l] [] _] [] _ => !hot && decide (y = ("sorted" : Str)) && glB sc y && decide (z = ("set" : Str)) && glB sc z && plE l && e.chk T hot N sc l | _ => false
  | .ssc ln e t k is own, N, sc, x => match x with
    | .Call (.Name y _) [.SetComp elt [⟨tg, iter, [], 0⟩] scope _] [] _ => !hot && decide (y = (if ln = true then ("len" : Str) else "sorted")) && glB sc y && blkC N sc scope (ownP N own) && t.slots.all (own.contains ·) && t.chk N (relS scope sc) (fun x => scope.names.lookup x == some .cell) tg && plE iter &&
      (match itForm k tg sc iter with | some l => is.chk T hot N sc l | none => false) && e.chk T hot N (relS scope sc) elt
    | _ => false
  | .cm2 e t k is t1 k1 is1 own own1, N, sc, x => match x with
    | .ListComp elt [⟨tg, iter, [], 0⟩, ⟨tg1, iter1, [], 0⟩] scope _ => !hot && blkC N sc scope (ownP N own) && t.slots.all (own.contains ·) && t1.slots.all (own1.contains ·) && own1.all (own.contains ·) && t.chk N (relS scope sc) (fun x => scope.names.lookup x == some .cell) tg && plE iter &&
      (match itForm k tg sc iter with | some l => is.chk T hot N sc l | none => false) && t1.chk N (relS scope sc) (fun x => scope.names.lookup x == some .cell) tg1 && plE iter1 &&
      (match itForm k1 tg1 (relS scope sc) iter1 with | some l => is1.chk T hot N (relS scope sc) l | none => false) && e.chk T hot N (relS scope sc) elt
    | _ => false
def Es.chk (T : Tb) (hot : Bool) : Es → List Str → Scope → List Expr → Bool
  | .nil, _, _, x => match x with | [] => true | _ => false
  | .cons e es, N, sc, x => match x with | y :: ys => plE y && e.chk T hot N sc y && es.chk T hot N sc ys | _ => false
end
end Rf
set_option Elab.async false
set_option linter.all false
set_option maxRecDepth 100000
set_option maxHeartbeats 4000000
namespace Rf
open PySem PySem.Spec PyProof.Rows L2
section
variable {X : Cx} {c : Cw}
theorem starB {e : Expr} {es : List Expr} {env : PySem.Env} (h : plE e = true) : starEach (e :: es) env = (false, eval e env) :: starEach es env := by
  cases e <;> first | rfl | cases h
theorem plIx {e : Expr} (h : plE e = true) : PlainIx e := by
  cases e <;> first | (intro _ _; rfl) | cases h
theorem nomB {e : Expr} (o : CmpOp) (h : plE e = true) : behindInMarks o e = false := by
  cases e <;> first | rfl | cases h
theorem nomL {e f : Expr} (o p : CmpOp) (h : plE f = true) : lastMarks [o, p] [e, f] = false := by
  show lastMarks [p] [f] = false
  show behindInMarks p f = false
  exact nomB p h
theorem setI {e : Expr} {env : PySem.Env} (h : plE e = true) : ∀ x, foldedSetIterable e env x = pure x := by
  intro x
  cases e <;> first | rfl | cases h
theorem abB {e : Expr} {a : Str} {env : PySem.Env} (h : abE e = true) : attributeBase e a env (eval e env) = eval e env := by
  unfold attributeBase
  cases e with
  | Call f as ks pos =>
    cases f with
    | Name x p =>
      cases as with
      | nil =>
        cases ks with
        | nil => cases h
        | cons => rfl
      | cons => rfl
    | _ => rfl
  | _ => rfl
theorem ndb1 {x : Str} (h : ndb x = true) : (x == ("__debug__" : Str)) = false ∧ (x == ("__classdict__" : Str)) = false := by
  unfold ndb at h
  rw [Bool.and_eq_true, Bool.not_eq_true', Bool.not_eq_true'] at h
  exact h
theorem visV {sc : Scope} {x : Str} (h : visB sc x = true) : Vis sc x := by
  unfold visB at h
  split at h
  · exact .inl (by assumption)
  · exact .inr (.inl (by assumption))
  · exact .inr (.inr (by assumption))
  · cases h
theorem glG {X : Cx} {x : Str} (h : glB X.env.scope x = true) : Gl X x := by
  unfold glB at h
  split at h
  · assumption
  · cases h
theorem PoG.of_q {σ : L2.St} {G H : Hp} {x : Rs D} {Q : VK} (p : PoQ c.K G H x Q) : PoG (Dp c.K) c σ G H x.quiet Q := by
  cases x with
  | ok d => exact p
  | ex e => exact p.elim
  | no => exact p.elim
theorem pE_var {i : Nat} {x : Str} {pos : Pos} (hi : X.N[i]? = some x) (hv : Vis X.env.scope x) (hd : ndb x = true) : PE X (.Name x pos) (tE c fun ρ => varD ρ[i]?) := by
  refine PE.mono (pe_var hi hv (ndb1 hd).1 (ndb1 hd).2) fun σ H Q ⟨ρ, G, sg, e, p⟩ => ?_
  try dsimp only at p
  cases q : ρ[i]? with
  | none => rw [q] at p; exact p.elim
  | some s =>
    rw [q] at p
    obtain ⟨v, ev, r⟩ := e.get q
    cases s with
    | fz d =>
      obtain ⟨u, e1, rd⟩ := r
      subst e1
      exact ⟨u, ev, p u G H (Stp.refl sg) rd⟩
    | un => exact (show False from p).elim
    | ow ds => exact (show False from p).elim
    | xn y => exact (show False from p).elim
/-- a slot, an owned list too, for a look -/
theorem lookV {i : Nat} {x : Str} (hi : X.N[i]? = some x) (hv : Vis X.env.scope x) (hd : ndb x = true) {σ : L2.St} {H G : Hp} {ρ : Env} {d : D} (sg : Same G H) (e : EnvR c.kx G H ρ σ) (hl : lookD ρ[i]? = .ok d) {Q : VK}
    (q : ∀ u, (∃ v, u = v ∧ (Dp c.K G u d ∨ ∃ a vs ds, u = .ref a ∧ d = .list ds ∧ H a = some (.lst vs) ∧ G a = none ∧ DpAll c.K G vs ds)) → Q u H) : tVar i σ H Q := by
  cases z : ρ[i]? with
  | none => rw [z] at hl; cases hl
  | some s =>
    rw [z] at hl
    obtain ⟨v, ev, r⟩ := e.get z
    cases s with
    | fz d' =>
      obtain ⟨u, e1, rd⟩ := r
      subst e1
      injection hl with hl
      subst hl
      exact ⟨u, ev, q u ⟨u, rfl, .inl rd⟩⟩
    | ow ds =>
      obtain ⟨a, vs, e1, hA, gA, rd⟩ := r
      subst e1
      injection hl with hl
      subst hl
      exact ⟨.ref a, ev, q _ ⟨_, rfl, .inr ⟨a, vs, ds, rfl, rfl, hA, gA, rd⟩⟩⟩
    | un => cases hl
    | xn y => cases hl
theorem pE_bin (hK : c.K = X.K) {a b : Expr} {ra rb : Env → Rs D} {o : Operator} {pos : Pos} (ha : PE X a (tE c ra)) (hb : PE X b (tE c rb)) : PE X (.BinOp a o b pos) (tE c fun ρ => (ra ρ).bind fun x => (rb ρ).bind fun y => (binD o x y).quiet) := by
  refine PE.mono (pe_op (oBin o) ha hb) fun σ H Q ⟨ρ, G, sg, e, p⟩ => ?_
  try dsimp only at p
  refine tG.first sg e p fun d u G1 H1 s1 e1 st rd p1 => ?_
  refine tG.first s1 e1 p1 fun d2 u2 G2 H2 s2 e2 st2 rd2 p2 => ?_
  rw [hK] at rd rd2
  exact ⟨d, d2, G2, s2, Dp_mono st2.gg rd, rd2, by rw [← hK]; exact PoG.q p2⟩
theorem pE_neg (hK : c.K = X.K) {a : Expr} {ra : Env → Rs D} {pos : Pos} (ha : PE X a (tE c ra)) : PE X (.UnaryOp .USub a pos) (tE c fun ρ => (ra ρ).bind fun x => (negD x).quiet) := by
  refine PE.mono (pe_un oNeg ha) fun σ H Q ⟨ρ, G, sg, e, p⟩ => ?_
  try dsimp only at p
  refine tG.first sg e p fun d u G1 H1 s1 e1 st rd p1 => ?_
  rw [hK] at rd
  exact ⟨d, G1, s1, rd, by rw [← hK]; exact PoG.q p1⟩
/-- a value that is a truth -/
theorem PoG.asB {α β : Type} {R : Hp → β → α → Prop} {σ : L2.St} {G H : Hp} {d : D} {f : Bool → Rs α} {Q : β → Hp → Prop} (p : PoG R c σ G H ((asB d).bind f) Q) : ∃ b, d = .bool b ∧ PoG R c σ G H (f b) Q := by
  cases d with
  | bool b => exact ⟨b, rfl, p⟩
  | _ => exact p.elim
theorem dp_bool {K : PySem.W.Frag} {G : Hp} {u : V} {b : Bool} (h : Dp K G u (.bool b)) : u = .bl b := by cases h; rfl
theorem PT.of_v {e : Expr} {r : Env → Rs D} (h : PT X e (L2.tB (tE c r))) : PT X e (tTs c r) := by
  refine PT.mono h fun σ H Q ⟨ρ, G, sg, e, p⟩ => ?_
  try dsimp only at p
  refine tG.first sg e p fun d u G1 H1 s1 e1 st rd p1 => ?_
  have p1 : PoG (fun _ b b' => b' = b) c σ G1 H1 ((asB d).bind Rs.ok) Q := by cases d <;> exact p1
  obtain ⟨b, rfl, p2⟩ := PoG.asB p1
  exact ⟨b, dp_bool rd, p2 b G1 H1 (Stp.refl s1) rfl⟩
theorem pE_nt {a : Expr} {ra : Env → Rs D} {pos : Pos} (ha : PE X a (tE c ra)) (ht : PT X a (tTs c ra)) : PE X (.UnaryOp .Not a pos) (tE c fun ρ => (ra ρ).bind fun x => (asB x).map fun b => .bool (!b)) ∧
    PT X (.UnaryOp .Not a pos) (tTs c fun ρ => (ra ρ).bind fun x => (asB x).map fun b => .bool (!b)) := by
  refine ⟨PE.mono (pe_not ha) fun σ H Q ⟨ρ, G, sg, e, p⟩ => ?_, PT.mono (pt_not ht) fun σ H Q ⟨ρ, G, sg, e, p⟩ => ?_⟩
  · try dsimp only at p
    refine tG.first sg e p fun d u G1 H1 s1 e1 st rd p1 => ?_
    obtain ⟨b, rfl, p2⟩ := PoG.asB p1
    exact ⟨b, dp_bool rd, p2 _ G1 H1 (Stp.refl s1) (.bl _)⟩
  · try dsimp only at p
    have p : PoG (fun _ b b' => b' = b) c σ G H (((ra ρ).bind asB).bind fun b => .ok (!b)) Q := by
      cases q : ra ρ with
      | ok d => rw [q] at p; cases d <;> exact p
      | ex y => rw [q] at p; exact p
      | no => rw [q] at p; exact p
    refine tG.first (r := fun ρ => (ra ρ).bind asB) sg e p fun b u G1 H1 s1 e1 st rd p1 => ?_
    subst rd
    exact p1 _ G1 H1 (Stp.refl s1) rfl
theorem pE_and {a b : Expr} {rest : List Expr} {ra rb : Env → Rs D} {pos : Pos} (ha : PE X a (tE c ra)) (hb : PE X (.BoolOp .And (b :: rest) pos) (tE c rb)) :
    PE X (.BoolOp .And (a :: b :: rest) pos) (tE c fun ρ => (ra ρ).bind fun x => (asB x).bind fun k => if k = true then rb ρ else .ok (.bool false)) := by
  refine PE.mono (pe_and ha hb) fun σ H Q ⟨ρ, G, sg, e, p⟩ => ?_
  try dsimp only at p
  refine tG.first sg e p fun d u G1 H1 s1 e1 st rd p1 => ?_
  obtain ⟨k, rfl, p2⟩ := PoG.asB p1
  refine ⟨k, dp_bool rd, ?_⟩
  cases k with
  | true => rw [if_pos rfl] at p2 ⊢; exact ⟨ρ, G1, s1, e1, p2⟩
  | false => rw [if_neg Bool.false_ne_true] at p2 ⊢; exact p2 _ G1 H1 (Stp.refl s1) (.bl _)
theorem pE_or {a b : Expr} {rest : List Expr} {ra rb : Env → Rs D} {pos : Pos} (ha : PE X a (tE c ra)) (hb : PE X (.BoolOp .Or (b :: rest) pos) (tE c rb)) :
    PE X (.BoolOp .Or (a :: b :: rest) pos) (tE c fun ρ => (ra ρ).bind fun x => (asB x).bind fun k => if k = true then .ok (.bool true) else rb ρ) := by
  refine PE.mono (pe_or ha hb) fun σ H Q ⟨ρ, G, sg, e, p⟩ => ?_
  try dsimp only at p
  refine tG.first sg e p fun d u G1 H1 s1 e1 st rd p1 => ?_
  obtain ⟨k, rfl, p2⟩ := PoG.asB p1
  refine ⟨k, dp_bool rd, ?_⟩
  cases k with
  | true => rw [if_pos rfl] at p2 ⊢; exact p2 _ G1 H1 (Stp.refl s1) (.bl _)
  | false => rw [if_neg Bool.false_ne_true] at p2 ⊢; exact ⟨ρ, G1, s1, e1, p2⟩
theorem tst_and {ra rb : Rs D} : ((ra.bind fun x => (asB x).bind fun k => if k = true then rb else .ok (.bool false)).bind asB) = (ra.bind asB).bind fun k => if k = true then rb.bind asB else .ok false := by
  cases ra with
  | ok d =>
    cases d with
    | bool b => cases b <;> rfl
    | _ => rfl
  | ex e => rfl
  | no => rfl
theorem tst_or {ra rb : Rs D} : ((ra.bind fun x => (asB x).bind fun k => if k = true then .ok (.bool true) else rb).bind asB) = (ra.bind asB).bind fun k => if k = true then .ok true else rb.bind asB := by
  cases ra with
  | ok d =>
    cases d with
    | bool b => cases b <;> rfl
    | _ => rfl
  | ex e => rfl
  | no => rfl
theorem pW_and {a b : Expr} {rest : List Expr} {ra rb : Env → Rs D} {pos : Pos} (ha : PT X a (tTs c ra)) (hb : PW X (.BoolOp .And (b :: rest) pos) (tTs c rb)) :
    PW X (.BoolOp .And (a :: b :: rest) pos) (tTs c fun ρ => (ra ρ).bind fun x => (asB x).bind fun k => if k = true then rb ρ else .ok (.bool false)) := by
  refine PW.mono (pw_and ha hb) fun σ H Q ⟨ρ, G, sg, e, p⟩ => ?_
  try dsimp only at p
  rw [tst_and] at p
  refine tG.first (r := fun ρ => (ra ρ).bind asB) sg e p fun k u G1 H1 s1 e1 st rd p1 => ?_
  subst rd
  cases k with
  | true => rw [if_pos rfl] at p1 ⊢; exact ⟨ρ, G1, s1, e1, p1⟩
  | false => rw [if_neg Bool.false_ne_true] at p1 ⊢; exact p1 _ G1 H1 (Stp.refl s1) rfl
theorem pW_or {a b : Expr} {rest : List Expr} {ra rb : Env → Rs D} {pos : Pos} (ha : PT X a (tTs c ra)) (hb : PW X (.BoolOp .Or (b :: rest) pos) (tTs c rb)) :
    PW X (.BoolOp .Or (a :: b :: rest) pos) (tTs c fun ρ => (ra ρ).bind fun x => (asB x).bind fun k => if k = true then .ok (.bool true) else rb ρ) := by
  refine PW.mono (pw_or ha hb) fun σ H Q ⟨ρ, G, sg, e, p⟩ => ?_
  try dsimp only at p
  rw [tst_or] at p
  refine tG.first (r := fun ρ => (ra ρ).bind asB) sg e p fun k u G1 H1 s1 e1 st rd p1 => ?_
  subst rd
  cases k with
  | true => rw [if_pos rfl] at p1 ⊢; exact p1 _ G1 H1 (Stp.refl s1) rfl
  | false => rw [if_neg Bool.false_ne_true] at p1 ⊢; exact ⟨ρ, G1, s1, e1, p1⟩
theorem tst_map {x : Rs Bool} : ((x.map PyData.bool).quiet.bind asB) = x.quiet := by cases x <;> rfl
theorem pE_cmp (hK : c.K = X.K) (hu : X.A.units + 65 < cLine) {a b : Expr} {ra rb : Env → Rs D} {o : CmpOp} {pos : Pos} (ha : PE X a (tE c ra)) (hb : PE X b (tE c rb)) (hp : plE b = true) :
    PE X (.Compare a [o] [b] pos) (tE c fun ρ => (ra ρ).bind fun x => (rb ρ).bind fun y => (cmpD o x y).quiet) ∧ PT X (.Compare a [o] [b] pos) (tTs c fun ρ => (ra ρ).bind fun x => (rb ρ).bind fun y => (cmpD o x y).quiet) := by
  refine ⟨PE.mono (pe_cmpR (oCmp hu o) ha hb (nomB o hp)) fun σ H Q ⟨ρ, G, sg, e, p⟩ => ?_, PT.mono (pt_cmpR (oCmp hu o) ha hb (nomB o hp)) fun σ H Q ⟨ρ, G, sg, e, p⟩ => ?_⟩
  · try dsimp only at p
    refine tG.first sg e p fun d u G1 H1 s1 e1 st rd p1 => ?_
    refine tG.first s1 e1 p1 fun d2 u2 G2 H2 s2 e2 st2 rd2 p2 => ?_
    rw [hK] at rd rd2
    exact ⟨d, d2, G2, s2, Dp_mono st2.gg rd, rd2, by rw [← hK]; exact PoG.q p2⟩
  · try dsimp only at p
    rw [Rs.bind_assoc] at p
    refine tG.first sg e p fun d u G1 H1 s1 e1 st rd p1 => ?_
    rw [Rs.bind_assoc] at p1
    refine tG.first s1 e1 p1 fun d2 u2 G2 H2 s2 e2 st2 rd2 p2 => ?_
    rw [hK] at rd rd2
    refine ⟨d, d2, G2, s2, Dp_mono st2.gg rd, rd2, ?_⟩
    unfold cmpD at p2 ⊢
    rw [tst_map] at p2
    cases q : cmpB o d d2 with
    | ok k =>
      rw [q] at p2
      intro u' G' H' st' rd'
      exact ⟨k, dp_bool rd', p2 _ G' H' st' rfl⟩
    | ex y => rw [q] at p2; exact p2.elim
    | no => rw [q] at p2; exact p2.elim
theorem pE_chn (hK : c.K = X.K) (hu : X.A.units + 65 < cLine) {a b d : Expr} {ra rb rd : Env → Rs D} {o o2 : CmpOp} {pos : Pos} (ha : PE X a (tE c ra)) (hb : PE X b (tE c rb)) (hd : PE X d (tE c rd)) (hp : plE d = true) :
    PE X (.Compare a [o, o2] [b, d] pos) (tE c fun ρ => (ra ρ).bind fun x => (rb ρ).bind fun y => (cmpB o x y).quiet.bind fun k => if k = true then (rd ρ).bind fun z => (cmpD o2 y z).quiet else .ok (.bool false)) ∧
    PT X (.Compare a [o, o2] [b, d] pos) (tTs c fun ρ => (ra ρ).bind fun x => (rb ρ).bind fun y => (cmpB o x y).quiet.bind fun k => if k = true then (rd ρ).bind fun z => (cmpD o2 y z).quiet else .ok (.bool false)) := by
  refine ⟨PE.mono (pe_chain (oCmp hu o) (oCmp hu o2) ha hb hd (nomL o o2 hp)) fun σ H Q ⟨ρ, G, sg, e, p⟩ => ?_, PT.mono (pt_chain (oCmp hu o) (oCmp hu o2) ha hb hd (nomL o o2 hp)) fun σ H Q ⟨ρ, G, sg, e, p⟩ => ?_⟩
  · try dsimp only at p
    refine tG.first sg e p fun x u G1 H1 s1 e1 st r1 p1 => ?_
    refine tG.first s1 e1 p1 fun y u2 G2 H2 s2 e2 st2 r2 p2 => ?_
    rw [hK] at r1 r2
    refine ⟨x, y, G2, s2, Dp_mono st2.gg r1, r2, ?_⟩
    unfold cmpD
    cases q : cmpB o x y with
    | ok k =>
      rw [q] at p2
      intro u' G' H' st' rd'
      refine ⟨k, dp_bool rd', ?_⟩
      have p2 : PoG (Dp c.K) c σ G2 H2 (if k = true then (rd ρ).bind fun z => (cmpD o2 y z).quiet else .ok (.bool false)) Q := p2
      have p3 := PoG.mono st' p2
      cases k with
      | true =>
        rw [if_pos rfl] at p3 ⊢
        refine tG.first st'.gh (e2.step st') p3 fun z u3 G3 H3 s3 e3 st3 r3 p4 => ?_
        rw [hK] at r3
        exact ⟨y, z, G3, s3, Dp_mono (st'.gg.trans st3.gg) r2, r3, by rw [← hK]; exact PoG.q p4⟩
      | false =>
        rw [if_neg Bool.false_ne_true] at p3 ⊢
        exact p3 _ G' H' (Stp.refl st'.gh) (.bl _)
    | ex z => rw [q] at p2; exact p2.elim
    | no => rw [q] at p2; exact p2.elim
  · try dsimp only at p
    rw [Rs.bind_assoc] at p
    refine tG.first sg e p fun x u G1 H1 s1 e1 st r1 p1 => ?_
    rw [Rs.bind_assoc] at p1
    refine tG.first s1 e1 p1 fun y u2 G2 H2 s2 e2 st2 r2 p2 => ?_
    rw [hK] at r1 r2
    refine ⟨x, y, G2, s2, Dp_mono st2.gg r1, r2, ?_⟩
    unfold cmpD
    cases q : cmpB o x y with
    | ok k =>
      rw [q] at p2
      intro u' G' H' st' rd'
      refine ⟨k, dp_bool rd', ?_⟩
      have p2 : PoG (fun _ b b' => b' = b) c σ G2 H2 ((if k = true then (rd ρ).bind fun z => (cmpD o2 y z).quiet else .ok (.bool false)).bind asB) Q := p2
      have p3 := PoG.mono st' p2
      cases k with
      | true =>
        rw [if_pos rfl] at p3 ⊢
        rw [Rs.bind_assoc] at p3
        refine tG.first st'.gh (e2.step st') p3 fun z u3 G3 H3 s3 e3 st3 r3 p4 => ?_
        rw [hK] at r3
        refine ⟨y, z, G3, s3, Dp_mono (st'.gg.trans st3.gg) r2, r3, ?_⟩
        unfold cmpD at p4
        rw [tst_map] at p4
        cases q2 : cmpB o2 y z with
        | ok k2 =>
          rw [q2] at p4
          show PoQ X.K G3 H3 ((cmpB o2 y z).map .bool) _
          rw [q2]
          intro u4 G4 H4 st4 rd4
          exact ⟨k2, dp_bool rd4, p4 _ G4 H4 st4 rfl⟩
        | ex w' => rw [q2] at p4; exact p4.elim
        | no => rw [q2] at p4; exact p4.elim
      | false =>
        rw [if_neg Bool.false_ne_true] at p3 ⊢
        exact ⟨false, rfl, p3 _ G' H' (Stp.refl st'.gh) rfl⟩
    | ex z => rw [q] at p2; exact p2.elim
    | no => rw [q] at p2; exact p2.elim
theorem pE_ite {t a b : Expr} {rt ra rb : Env → Rs D} {pos : Pos} (ht : PT X t (tTs c rt)) (ha : PE X a (tE c ra)) (hb : PE X b (tE c rb)) : PE X (.IfExp t a b pos) (tE c fun ρ => (rt ρ).bind fun x => (asB x).bind fun k => if k = true then ra ρ else rb ρ) := by
  refine PE.mono (pe_ifExp ht ha hb) fun σ H Q ⟨ρ, G, sg, e, p⟩ => ?_
  try dsimp only at p
  rw [← Rs.bind_assoc] at p
  refine tG.first (r := fun ρ => (rt ρ).bind asB) sg e p fun k u G1 H1 s1 e1 st rd p1 => ?_
  subst rd
  cases k with
  | true => rw [if_pos rfl] at p1 ⊢; exact ⟨ρ, G1, s1, e1, p1⟩
  | false => rw [if_neg Bool.false_ne_true] at p1 ⊢; exact ⟨ρ, G1, s1, e1, p1⟩
theorem pA_nil : PA X [] (tL c fun _ => .ok []) := PA.mono pa_nil fun σ H Q ⟨ρ, G, sg, e, p⟩ => p [] G H (Stp.refl sg) .nil
theorem pA_cons {e : Expr} {es : List Expr} {r : Env → Rs D} {rs : Env → Rs (List D)} (he : PE X e (tE c r)) (hs : PA X es (tL c rs)) (hp : plE e = true) : PA X (e :: es) (tL c fun ρ => (r ρ).bind fun x => (rs ρ).map fun r => x :: r) := by
  refine PA.mono (pa_cons he hs (starB hp)) fun σ H Q ⟨ρ, G, sg, e, p⟩ => ?_
  try dsimp only at p
  refine tG.first sg e p fun d u G1 H1 s1 e1 st rd p1 => ?_
  refine tG.first s1 e1 p1 fun ds us G2 H2 s2 e2 st2 rd2 p2 => ?_
  exact p2 _ G2 H2 (Stp.refl s2) (.cons (Dp_mono st2.gg rd) rd2)
theorem pE_tup (hK : c.K = X.K) {es : List Expr} {rs : Env → Rs (List D)} {k : Nat} {pos : Pos} (n : Nat) (hn : n ≤ 1000) (hl : ∀ ρ ds, rs ρ = .ok ds → ds.length = n) (hs : PA X es (tL c rs)) : PE X (.Tuple es k pos) (tE c fun ρ => (rs ρ).map .tuple) := by
  refine PE.mono (pe_tup hs) fun σ H Q ⟨ρ, G, sg, e, p⟩ => ⟨ρ, G, sg, e, p.seq fun ds us G1 H1 ed st rd p1 => ⟨?_, fun q hq => ?_⟩⟩
  · rw [DpAll_len rd, hl ρ ds ed]; exact Nat.le_trans hn (by decide)
  · exact p1 _ _ _ (Stp.new st.gh hq) (.tup (SqT.of upd_same) (DpAll_mono (Same.upd (st.gh.free hq)) rd))
theorem pE_lst (hK : c.K = X.K) {es : List Expr} {rs : Env → Rs (List D)} {pos : Pos} (n : Nat) (hn : n ≤ 1000) (hl : ∀ ρ ds, rs ρ = .ok ds → ds.length = n) (hs : PA X es (tL c rs)) : PE X (.List es pos) (tE c fun ρ => (rs ρ).map .list) := by
  refine PE.mono (pe_lst hs) fun σ H Q ⟨ρ, G, sg, e, p⟩ => ⟨ρ, G, sg, e, p.seq fun ds us G1 H1 ed st rd p1 => ⟨?_, fun q hq => ?_⟩⟩
  · rw [DpAll_len rd, hl ρ ds ed]; exact Nat.le_trans hn (by decide)
  · exact p1 _ _ _ (Stp.new st.gh hq) (.lst (SqL.of upd_same) (DpAll_mono (Same.upd (st.gh.free hq)) rd))
theorem pE_idx (hK : c.K = X.K) {a b : Expr} {ra rb : Env → Rs D} {pos : Pos} (ha : PE X a (tE c ra)) (hb : PE X b (tE c rb)) (hp : plE b = true) : PE X (.Subscript a b pos) (tE c fun ρ => (ra ρ).bind fun x => (rb ρ).bind fun y => (idxD x y).quiet) := by
  refine PE.mono (pe_ix iIdx ha hb (plIx hp)) fun σ H Q ⟨ρ, G, sg, e, p⟩ => ?_
  try dsimp only at p
  refine tG.first sg e p fun d u G1 H1 s1 e1 st rd p1 => ?_
  refine tG.first s1 e1 p1 fun d2 u2 G2 H2 s2 e2 st2 rd2 p2 => ?_
  rw [hK] at rd rd2
  exact ⟨d, d2, G2, s2, Dp_mono st2.gg rd, rd2, by rw [← hK]; exact PoG.q p2⟩
/-- a part of a slice -/
theorem pO_some {e : Expr} {r : Env → Rs D} (h : PE X e (tE c r)) : PO X (some e) (tPart (tE c r)) := po_some h
theorem PoG.asI {α β : Type} {R : Hp → β → α → Prop} {σ : L2.St} {G H : Hp} {d : D} {f : Int → Rs α} {Q : β → Hp → Prop} (p : PoG R c σ G H ((asI d).bind f) Q) : ∃ b, d = .int b ∧ PoG R c σ G H (f b) Q := by
  cases d with
  | int b => exact ⟨b, rfl, p⟩
  | _ => exact p.elim
theorem dp_int {K : PySem.W.Frag} {G : Hp} {u : V} {b : Int} (h : Dp K G u (.int b)) : u = .int b := by cases h; rfl
theorem pE_sl01 (hK : c.K = X.K) {a b : Expr} {ra rb : Env → Rs D} {pos p2 : Pos} (ha : PE X a (tE c ra)) (hb : PE X b (tE c rb)) : PE X (.Subscript a (.Slice none (some b) none p2) pos) (tE c fun ρ => (ra ρ).bind fun x => (rb ρ).bind fun y => (asI y).bind fun k => (sliD x none (some k)).quiet) := by
  refine PE.mono (pe_slice sSli ha po_none (po_some hb)) fun σ H Q ⟨ρ, G, sg, e, p⟩ => ?_
  try dsimp only at p
  refine tG.first sg e p fun d u G1 H1 s1 e1 st rd p1 => ?_
  refine tG.first s1 e1 p1 fun d2 u2 G2 H2 s2 e2 st2 rd2 p2 => ?_
  obtain ⟨k, rfl, p3⟩ := PoG.asI p2
  rw [hK] at rd
  exact ⟨k, dp_int rd2, d, G2, s2, Dp_mono st2.gg rd, by rw [← hK]; exact PoG.q p3⟩
theorem pE_sl10 (hK : c.K = X.K) {a b : Expr} {ra rb : Env → Rs D} {pos p2 : Pos} (ha : PE X a (tE c ra)) (hb : PE X b (tE c rb)) : PE X (.Subscript a (.Slice (some b) none none p2) pos) (tE c fun ρ => (ra ρ).bind fun x => (rb ρ).bind fun y => (asI y).bind fun k => (sliD x (some k) none).quiet) := by
  refine PE.mono (pe_slice sSli ha (po_some hb) po_none) fun σ H Q ⟨ρ, G, sg, e, p⟩ => ?_
  try dsimp only at p
  refine tG.first sg e p fun d u G1 H1 s1 e1 st rd p1 => ?_
  refine tG.first s1 e1 p1 fun d2 u2 G2 H2 s2 e2 st2 rd2 p2 => ?_
  obtain ⟨k, rfl, p3⟩ := PoG.asI p2
  rw [hK] at rd
  exact ⟨k, dp_int rd2, d, G2, s2, Dp_mono st2.gg rd, by rw [← hK]; exact PoG.q p3⟩
theorem pE_sl11 (hK : c.K = X.K) {a b d' : Expr} {ra rb rd' : Env → Rs D} {pos p2 : Pos} (ha : PE X a (tE c ra)) (hb : PE X b (tE c rb)) (hd : PE X d' (tE c rd')) : PE X (.Subscript a (.Slice (some b) (some d') none p2) pos) (tE c fun ρ => (ra ρ).bind fun x => (rb ρ).bind fun y => (asI y).bind fun k => (rd' ρ).bind fun z => (asI z).bind fun n => (sliD x (some k) (some n)).quiet) := by
  refine PE.mono (pe_slice sSli ha (po_some hb) (po_some hd)) fun σ H Q ⟨ρ, G, sg, e, p⟩ => ?_
  try dsimp only at p
  refine tG.first sg e p fun d u G1 H1 s1 e1 st rd p1 => ?_
  refine tG.first s1 e1 p1 fun d2 u2 G2 H2 s2 e2 st2 rd2 p2 => ?_
  obtain ⟨k, rfl, p3⟩ := PoG.asI p2
  refine ⟨k, dp_int rd2, ?_⟩
  refine tG.first s2 e2 p3 fun d3 u3 G3 H3 s3 e3 st3 rd3 p4 => ?_
  obtain ⟨n, rfl, p5⟩ := PoG.asI p4
  rw [hK] at rd
  exact ⟨n, dp_int rd3, d, G3, s3, Dp_mono (st2.gg.trans st3.gg) rd, by rw [← hK]; exact PoG.q p5⟩
end
end Rf
set_option Elab.async false
set_option linter.all false
set_option maxRecDepth 100000
set_option maxHeartbeats 4000000
namespace Rf
open PySem PySem.Spec PyProof.Rows L2
/-! ### a tuple from behind -/
theorem placesR (n : Nat) : Builtin.Slice.sliceAdjust none none (-1) (n : Int) = ((n : Int) - 1, -1) ∧ Builtin.Slice.slicePlaces ((n : Int) - 1) (-1) (-1) = n := by
  constructor
  · rfl
  · unfold Builtin.Slice.slicePlaces
    have h1 : ¬ ((-1 : Int) > 0) := by omega
    simp only [h1, if_false]
    by_cases h : (n : Int) - 1 > -1
    · simp [h]
      try omega
    · simp [h]
      try omega
theorem fmap_congr {α β : Type} {f g : α → Option β} : ∀ {l : List α}, (∀ x ∈ l, f x = g x) → l.filterMap f = l.filterMap g
  | [], _ => rfl
  | x :: l, h => by
    rw [List.filterMap_cons, List.filterMap_cons, h x List.mem_cons_self, fmap_congr fun y hy => h y (List.mem_cons_of_mem _ hy)]
theorem pickR (xs : Array Value) : (List.range xs.size).filterMap (fun m : Nat => xs[(((xs.size : Int) - 1) + (m : Int) * (-1)).toNat]?) = xs.toList.reverse := by
  have h : (List.range xs.size).filterMap (fun m : Nat => xs[(((xs.size : Int) - 1) + (m : Int) * (-1)).toNat]?) = (List.range xs.size).filterMap (fun m : Nat => xs[xs.size - 1 - m]?) := by
    refine fmap_congr fun k hk => ?_
    have := List.mem_range.mp hk
    rw [show (((xs.size : Int) - 1) + (k : Int) * (-1)).toNat = xs.size - 1 - k by omega]
  rw [h]
  have h2 : (List.range xs.size).filterMap (fun m : Nat => xs[xs.size - 1 - m]?) = ((List.range xs.size).map fun k => xs.size - 1 - k).filterMap (fun m : Nat => xs[m]?) := by
    rw [List.filterMap_map]; rfl
  rw [h2, PySem.W.krv_range, List.filterMap_reverse, PySem.W.krv_all]
section
variable {prog : Program} {w : World} {A : Around} {E : Value → Shared → Prop} {s : Shared}
theorem appliedR {sl : Addr} {vl vu vs : Value} {n : Nat} {Q : Int × Int × Nat → Shared → Prop} (hs : s.heap.IsSliceOf sl vl vu vs) (pl : IsPart vl none) (pu : IsPart vu none) (ps : IsPart vs (some (-1)))
    (h : Q ((n : Int) - 1, -1, n) s) : wpAny (model prog w) A (Builtin.Slice.sliceApplied (.ref sl) (pure (n : Int))) Q E s := by
  obtain ⟨os, hos, hcs, hds⟩ := id hs
  unfold Builtin.Slice.sliceApplied Builtin.Slice.sliceFields
  refine wpAny_bind (wpAny_bind (wpAny_field hos hds (x := vl) rfl (wpAny_bind (wpAny_field hos hds (x := vu) rfl (wpAny_bind (wpAny_field hos hds (x := vs) rfl (wpAny_pure ?_)))))))
  refine wpAny_bind (HT.slicePart_ ps ?_)
  show wpAny _ _ (if ((-1 : Int) == 0) = true then _ else _) _ _ s
  rw [if_neg (by decide)]
  refine wpAny_bind (HT.slicePart_ pl (wpAny_bind (HT.slicePart_ pu (wpAny_bind (wpAny_pure ?_)))))
  have e := placesR n
  show wpAny _ _ (match Builtin.Slice.sliceAdjust none none (-1) (n : Int) with | (lo, hi) => pure (lo, (-1 : Int), Builtin.Slice.slicePlaces lo hi (-1))) _ _ s
  rw [e.1]
  show wpAny _ _ (pure ((n : Int) - 1, (-1 : Int), Builtin.Slice.slicePlaces ((n : Int) - 1) (-1) (-1))) _ _ s
  rw [e.2]
  exact wpAny_pure h
theorem getR {t sl : Addr} {items : Array Value} {vl vu vs : Value} {Q : Value → Shared → Prop} (ht : IsTup s.heap t items) (hs : s.heap.IsSliceOf sl vl vu vs) (pl : IsPart vl none) (pu : IsPart vu none) (ps : IsPart vs (some (-1)))
    (h : Q (.ref s.heap.objs.size) { s with heap := s.heap.push { cls := .type "tuple", data := .seq items.toList.reverse.toArray } })
    (hsz : items.size ≤ sizeLine) : wpAny (model prog w) A (getItem (.ref t) (.ref sl)) Q E s := by
  have htake : sizeOk (.seq items.toList.reverse.toArray) := by
    show items.toList.reverse.toArray.size ≤ sizeLine
    rw [List.size_toArray, List.length_reverse, Array.length_toList]
    omega
  obtain ⟨os, hos, hcs, hds⟩ := id hs
  have hTs : s.TypeIs (.ref sl) "slice" := ⟨os, hos, hcs⟩
  unfold getItem
  try with_reducible refine wpAny_holding ?_
  first | refine wpAny_bind (wpAny_pure ?_) | skip
  refine wpAny_bind (wpAny_sequenceKey ht.typeIs (by decide) ?_)
  refine wpAny_bind (wpAny_callSpecial?_slot (name := Str.ofString "__getitem__") ht.typeIs PyProof.Rows.slot_tuple_getitem
    (wpAny_call_entry PyProof.Rows.slot_tuple_getitem ht.typeIs entry_tuple_getitem ?_ (args_tuple_getitem _ _)))
  show wpAny _ _ (Builtin.Tuple.tupleItemsOf (.ref t) >>= _) _ _ s
  refine wpAny_bind (tupleItemsOf_ ht ?_)
  refine wpAny_bind (wpAny_typeOf hTs ?_)
  rw [if_pos (by decide)]
  refine wpAny_bind (appliedR hs pl pu ps ?_)
  have hno : ¬ ((((items.size : Int) - 1) == 0 && (-1 : Int) == 1 && items.size == items.size) = true) := by
    intro q
    rw [Bool.and_eq_true, Bool.and_eq_true] at q
    exact absurd q.1.2 (by decide)
  show wpAny _ _ (if (((items.size : Int) - 1) == 0 && (-1 : Int) == 1 && items.size == items.size) = true then _ else _) _ _ s
  rw [if_neg hno, pickR]
  first
    | exact wpAny_bind (m := Builtin.Tuple.tupleExact _) (wpAny_newObj_type (wpAny_pure ⟨_, rfl, wpAny_pure h⟩) htake)
    | exact wpAny_bind (m := Builtin.Tuple.tupleExact _) (wpAny_newObj_type (wpAny_bind (wpAny_pure (wpAny_pure ⟨_, rfl, wpAny_pure h⟩))) htake)
    | exact wpAny_bind (wpAny_bind (m := Builtin.Tuple.tupleExact _) (wpAny_newObj_type (wpAny_pure (wpAny_pure ⟨_, rfl, wpAny_pure h⟩)) htake))
    | exact wpAny_bind (wpAny_bind (m := Builtin.Tuple.tupleExact _) (wpAny_newObj_type (wpAny_pure ⟨_, rfl, wpAny_pure h⟩) htake))
end
section
variable {X : Cx} {c : Cw}
theorem pE_rev (hK : c.K = X.K) {a : Expr} {ra : Env → Rs D} {k : Nat} {p1 p2 p3 pos : Pos} (ha : PE X a (tE c ra)) : PE X (.Subscript a (.Slice none none (some (.UnaryOp .USub (.Constant (.int 1) k p1) p2)) p3) pos) (tE c fun ρ => (ra ρ).bind fun x => (revD x).quiet) := by
  constructor
  intro pins s σ H Q I ⟨ρ, G, sg, e, p⟩
  have h0 : tE c ra σ H (fun u H1 => ∃ d G1, Same G1 H1 ∧ Dp X.K G1 u d ∧ PoQ X.K G1 H1 (revD d) Q) := by
    refine tG.first sg e p fun d u G1 H1 s1 e1 st rd p1 => ?_
    rw [hK] at rd
    exact ⟨d, G1, s1, rd, by rw [← hK]; exact PoG.q p1⟩
  refine Subscript_ (thn (ha.run pins s σ H _ I h0) fun v s1 ⟨x, H1, I1, r1, d, G1, sg1, rd, q⟩ => ?_)
  have hst : PO X (some (.UnaryOp .USub (.Constant (.int 1) k p1) p2)) (tPart (tUn (rU fun i => .int (-i)) (tC (.int 1)))) := po_some (pe_un un_neg pe_int)
  refine wpAny_Slice (thn (po_none.run pins s1 σ H1 (fun o H2 => o = none ∧ H2 = H1) I1 ⟨rfl, rfl⟩) fun vl s2 ⟨l, H2, I2, pl, el, e2⟩ => ?_)
  subst el e2
  refine thn (po_none.run pins s2 σ H2 (fun o H3 => o = none ∧ H3 = H2) I2 ⟨rfl, rfl⟩) fun vu s3 ⟨u, H3, I3, pu, eu, e3⟩ => ?_
  subst eu e3
  refine thn (hst.run pins s3 σ H3 (fun o H4 => o = some (-1) ∧ H4 = H3) I3 ⟨1, rfl, -1, rfl, rfl, rfl⟩) fun vs s4 ⟨o, H4, I4, ps, eo, e4⟩ => ?_
  subst eo e4
  have I5 : Inv X pins σ H4 { s4 with heap := s4.heap.push { cls := .type "slice", data := .fields #[vl, vu, vs] } } := I4.kept (t' := s4.toks) fun b ob q => Heap.get?_push_of_some _ q
  cases rd with
  | lst qa rb =>
    rename_i ad xs ds
    cases r1
    obtain ⟨its, r, ht, hz⟩ := I5.list (sg1.seq qa)
    have hlen := r.length
    show wpAny (model X.prog X.w) X.A (subscriptTail a (.Slice none none (some (.UnaryOp .USub (.Constant (.int 1) k p1) p2)) p3) (.ref ad) (.ref s4.heap.objs.size)) (EP X pins σ Q) X.xe { s4 with heap := s4.heap.push { cls := .type "slice", data := .fields #[vl, vu, vs] } }
    refine tail_any (ops := [.ref ad, .ref s4.heap.objs.size]) ht.isList.typeIs (PySem.slot_list_getitem.lookup) ?_ (by with_unfolding_all rfl)
    refine wpAny_getItem_list_slice ht.isList (Heap.IsSliceOf.new _ vl vu vs) pl pu ps (by decide) ?_ (by rw [List.size_toArray]; omega)
    rw [PySem.W.krv_pick]
    have hq := I5.hok.fresh (Nat.le_refl _)
    refine ⟨.ref _, _, I5.laid (t' := s4.toks) (o := .lst xs.reverse) (fun b ob q => Heap.get?_push_of_some _ q) (Nat.le_refl _) ?_, rfl, q _ _ _ (Stp.new sg1 hq) (.lst (SqL.of upd_same) (DpAll_mono (Same.upd (sg1.free hq)) (DpAll_rev rb)))⟩
    exact ⟨by rw [List.length_reverse]; exact hz, _, 0, r.reverse, Heap.get?_push_size _ rfl⟩
  | tup qa rb =>
    rename_i ad xs ds
    cases r1
    obtain ⟨its, r, ht, hz⟩ := I5.tuple (Same.seqT sg1 qa)
    have hlen := r.length
    show wpAny (model X.prog X.w) X.A (subscriptTail a (.Slice none none (some (.UnaryOp .USub (.Constant (.int 1) k p1) p2)) p3) (.ref ad) (.ref s4.heap.objs.size)) (EP X pins σ Q) X.xe { s4 with heap := s4.heap.push { cls := .type "slice", data := .fields #[vl, vu, vs] } }
    refine tail_any (ops := [.ref ad, .ref s4.heap.objs.size]) ht.typeIs (PyProof.Rows.slot_tuple_getitem.lookup) ?_ (by with_unfolding_all rfl)
    refine getR ht (Heap.IsSliceOf.new _ vl vu vs) pl pu ps ?_ (by rw [List.size_toArray]; omega)
    have hq := I5.hok.fresh (Nat.le_refl _)
    refine ⟨.ref _, _, I5.laid (t' := s4.toks) (o := .tup xs.reverse) (fun b ob q => Heap.get?_push_of_some _ q) (Nat.le_refl _) ?_, rfl, q _ _ _ (Stp.new sg1 hq) (.tup (SqT.of upd_same) (DpAll_mono (Same.upd (sg1.free hq)) (DpAll_rev rb)))⟩
    exact ⟨by rw [List.length_reverse]; exact hz, _, r.reverse, IsTup.new _ _⟩
  | non => exact q.elim
  | bl => exact q.elim
  | int => exact q.elim
  | str => exact q.elim
/-! ### looks at a slot -/
theorem look_up {K : PySem.W.Frag} {G H : Hp} {u : V} {d : D} (sg : Same G H) (h : Dp K G u d ∨ ∃ a vs ds, u = .ref a ∧ d = .list ds ∧ H a = some (.lst vs) ∧ G a = none ∧ DpAll K G vs ds) :
    (∃ a vs ds, u = .ref a ∧ d = .list ds ∧ SqL K H a vs ∧ DpAll K G vs ds) ∨ Dp K G u d := by
  rcases h with h | ⟨a, vs, ds, e1, e2, h1, _, h3⟩
  · exact .inr h
  · exact .inl ⟨a, vs, ds, e1, e2, SqL.of h1, h3⟩
theorem pE_vln (hK : c.K = X.K) {i : Nat} {x : Str} {p p2 pos : Pos} (hi : X.N[i]? = some x) (hv : Vis X.env.scope x) (hd : ndb x = true) (hg : Gl X "len") (hm : X.mg "len" = none) :
    PE X (.Call (.Name "len" p) [.Name x p2] [] pos) (tE c fun ρ => (lookD ρ[i]?).bind fun x => (lenS x).quiet) := by
  refine PE.mono (pe_callB call_len_seq hg hm PySem.boot_len (pa_cons (pe_var hi hv (ndb1 hd).1 (ndb1 hd).2) pa_nil)) fun σ H Q ⟨ρ, G, sg, e, p⟩ => ?_
  dsimp only at p
  cases z : lookD ρ[i]? with
  | ok d =>
    rw [z] at p
    refine lookV hi hv hd sg e z fun u ⟨_, e1, h⟩ => ?_
    subst e1
    rcases look_up sg h with ⟨a, vs, ds, rfl, rfl, h1, h3⟩ | h
    · rw [hK] at h1
      refine ⟨a, vs, rfl, .inl h1, ?_⟩
      rw [DpAll_len h3]
      exact p _ G H (Stp.refl sg) (.int _)
    · have p := PoG.q (x := lenS d) p
      rw [hK] at h p
      cases h with
      | lst qa ra => refine ⟨_, _, rfl, .inl (sg.seq qa), ?_⟩; rw [DpAll_len ra]; exact p _ G H (Stp.refl sg) (.int _)
      | tup qa ra => refine ⟨_, _, rfl, .inr (Same.seqT sg qa), ?_⟩; rw [DpAll_len ra]; exact p _ G H (Stp.refl sg) (.int _)
      | str => exact p.elim
      | non => exact p.elim
      | bl => exact p.elim
      | int => exact p.elim
  | ex y => rw [z] at p; cases zz : ρ[i]? with
    | none => rw [zz] at z; cases z
    | some s => cases s <;> rw [zz] at z <;> cases z
  | no => rw [z] at p; exact p.elim
theorem pE_vdx (hK : c.K = X.K) {i : Nat} {x : Str} {p2 pos : Pos} {b : Expr} {rb : Env → Rs D} (hi : X.N[i]? = some x) (hv : Vis X.env.scope x) (hd : ndb x = true) (hb : PE X b (tE c rb)) (hp : plE b = true) :
    PE X (.Subscript (.Name x p2) b pos) (tE c fun ρ => (lookD ρ[i]?).bind fun x => (rb ρ).bind fun y => (idxD x y).quiet) := by
  refine PE.mono (pe_ix (ix_list.or iIdx) (pe_var hi hv (ndb1 hd).1 (ndb1 hd).2) hb (plIx hp)) fun σ H Q ⟨ρ, G, sg, e, p⟩ => ?_
  dsimp only at p
  cases z : lookD ρ[i]? with
  | ok d =>
    rw [z] at p
    have p : PoG (Dp c.K) c σ G H ((rb ρ).bind fun y => (idxD d y).quiet) Q := p
    refine lookV hi hv hd sg e z fun u ⟨_, e1, h⟩ => ?_
    subst e1
    refine tG.first sg e p fun d2 u2 G2 H2 s2 e2 st2 rd2 p2 => ?_
    rcases h with h | ⟨a, vs, ds, rfl, rfl, hA, gA, h3⟩
    · rw [hK] at h rd2
      exact .inr ⟨d, d2, G2, s2, Dp_mono st2.gg h, rd2, by rw [← hK]; exact PoG.q p2⟩
    · have p2 := PoG.q p2
      rw [hK] at h3 rd2 p2
      have hA2 : H2 a = some (.lst vs) := st2.hh a _ hA
      have gA2 : G2 a = none := by
        cases q : G2 a with
        | none => rfl
        | some o => have := st2.nw a o q gA; rw [hA] at this; cases this
      -- the owned list is looked at as if it were frozen; the item itself is
      cases rd2 with
      | int k =>
        have p3 : PoQ X.K G2 H2 (match atI ds k with | some d => .ok d | none => .no) Q := p2
        cases ea : atI ds k with
        | none => rw [ea] at p3; exact p3.elim
        | some z' =>
          rw [ea] at p3
          obtain ⟨w', ew, rw'⟩ := DpAll_atI (DpAll_mono st2.gg h3) ea
          exact .inl ⟨a, vs, k, w', rfl, rfl, SqL.of hA2, ew, p3 w' G2 H2 (Stp.refl s2) rw'⟩
      | _ => exact (show False from p2).elim
  | ex y => cases zz : ρ[i]? with
    | none => rw [zz] at z; cases z
    | some s => cases s <;> rw [zz] at z <;> cases z
  | no => rw [z] at p; exact p.elim
end
end Rf
set_option Elab.async false
set_option linter.all false
set_option maxRecDepth 100000
set_option maxHeartbeats 4000000
namespace Rf
open PySem PySem.Spec PyProof.Rows L2
section
variable {X : Cx} {c : Cw}
theorem backF {pos : Pos} {env : PySem.Env} : ∀ {es : List Expr}, es.all plE = true → (backTo pos (starEach es env)).any (·.1) = false
  | [], _ => rfl
  | e :: es, h => by
    rw [List.all_cons, Bool.and_eq_true] at h
    rw [starB h.1]
    show (false || (backTo pos (starEach es env)).any (·.1)) = false
    rw [backF h.2]; rfl
theorem backA {pos : Pos} {env : PySem.Env} : ∀ {es : List Expr}, es.all plE = true → (backTo pos (starEach es env)).all (fun x => !x.1) = true
  | [], _ => rfl
  | e :: es, h => by
    rw [List.all_cons, Bool.and_eq_true] at h
    rw [starB h.1]
    show (true && (backTo pos (starEach es env)).all (fun x => !x.1)) = true
    rw [backA h.2]; rfl
theorem evs_len (T : Tb) : ∀ (es : Es) (ρ : Env) (ds : List D), es.ev T ρ = .ok ds → ds.length = es.len
  | .nil, ρ, ds, h => by
    unfold Es.ev at h
    injection h with h
    subst h; rfl
  | .cons e es, ρ, ds, h => by
    unfold Es.ev at h
    obtain ⟨d, h1, h2⟩ := bind_okI h
    obtain ⟨r, h3, h4⟩ := map_okI h2
    subst h4
    show r.length + 1 = es.len + 1
    rw [evs_len T es ρ r h3]
theorem bf_call (hu : X.A.units + 65 < cLine) (f : Bf) (hc : coolB f = false → X.calm = true) : (∃ id, bootBuiltins (Str.ofString f.nm) = some (.builtin id) ∧ CallR X (.builtin id) (rB X.K (bclD f))) ∨ ∃ id, bootBuiltins (Str.ofString f.nm) = some (.type id) ∧ CallR X (.type id) (rB X.K (bclD f)) := by
  cases f
  · exact .inl ⟨_, by decide +kernel, cLen⟩
  · exact .inl ⟨_, by decide +kernel, cSum (hc rfl)⟩
  · exact .inl ⟨_, by decide +kernel, cAll (hc rfl)⟩
  · exact .inl ⟨_, by decide +kernel, cAny (hc rfl)⟩
  · exact .inl ⟨_, by decide +kernel, cAbs⟩
  · exact .inl ⟨_, by decide +kernel, cMax (hc rfl) hu⟩
  · exact .inl ⟨_, by decide +kernel, cMin (hc rfl) hu⟩
  · exact .inr ⟨_, by decide +kernel, cTuple⟩
  · exact .inr ⟨_, by decide +kernel, cList⟩
  · exact .inr ⟨_, by decide +kernel, cInt⟩
  · exact .inl ⟨_, by decide +kernel, cSorted hu⟩
theorem bf_name (f : Bf) : Str.ofString f.nm ∈ bnames ∧ Str.ofString f.nm ≠ "__name__" ∧ (Str.ofString f.nm == ("__debug__" : Str)) = false := by
  cases f <;> exact ⟨by decide +kernel, by decide +kernel, by decide +kernel⟩
theorem pE_bcl (hK : c.K = X.K) (hu : X.A.units + 65 < cLine) {f : Bf} (hc : coolB f = false → X.calm = true) {e : Expr} {es : List Expr} {rs : Env → Rs (List D)} {p pos : Pos} (hg : Gl X (Str.ofString f.nm)) (hm : X.mg (Str.ofString f.nm) = none) (ha : PA X (e :: es) (tL c rs)) (hp : (e :: es).all plE = true) :
    PE X (.Call (.Name (Str.ofString f.nm) p) (e :: es) [] pos) (tE c fun ρ => (rs ρ).bind fun ds => (bclD f ds).quiet) := by
  obtain ⟨_, n1, n2⟩ := bf_name f
  have hp' := hp
  rw [List.all_cons, Bool.and_eq_true] at hp
  have go : ∀ {t : TE}, t = tCB (rB X.K (bclD f)) (tL c rs) → (∀ σ H Q, tE c (fun ρ => (rs ρ).bind fun ds => (bclD f ds).quiet) σ H Q → t σ H Q) := by
    intro t et σ H Q ⟨ρ, G, sg, e, p⟩
    subst et
    dsimp only at p
    refine tG.first sg e p fun ds us G1 H1 s1 e1 st rd p1 => ?_
    rw [hK] at rd
    exact ⟨ds, G1, s1, rd, by rw [← hK]; exact PoG.q p1⟩
  rcases bf_call (X := X) hu f hc with ⟨id, hv, hr⟩ | ⟨id, hv, hr⟩
  · exact PE.mono (pe_callB hr hg hm hv ha n1 n2 (starB hp.1) (backF hp.2)) (go rfl)
  · exact PE.mono (pe_callTy hr hg hm hv ha n1 n2 (starB hp.1) (backF hp.2)) (go rfl)
theorem XW_eq {ca : Nat → Addr} {W : WX} {σ : L2.St} {e : Xn} {H : Hp} (h : XW ca W σ e H) : XW ca (fun cls d _ H => WE W σ cls d H) [] e H := by
  unfold XW at h ⊢
  cases q : e.2 with
  | none => rw [q] at h; exact h
  | some n => rw [q] at h; exact h
theorem spF_of {T : Tb} {i : Nat} {f : Fn} {σ : L2.St} {G H : Hp} {Q : VK} {vs : List V} {ds : List D} (hK : c.K = X.K) (hf : T.fns[i]? = some f) (hl : ds.length = f.ar) (sg : Same G H) (rd : DpAll c.K G vs ds) (p : PoG (Dp c.K) c σ G H (T.fn i ds) Q) :
    spF X.K c.ca f vs H Q (WE c.W σ) := by
  refine ⟨ds, G, hl, sg, by rw [← hK]; exact rd, ?_⟩
  unfold Tb.fn at p
  rw [hf] at p
  have p : PoG (Dp c.K) c σ G H (f.m ds) Q := p
  rw [← hK]
  cases q : f.m ds with
  | ok d => rw [q] at p; exact p
  | ex e => rw [q] at p; exact fun G' H' st => XW_eq (p G' H' st)
  | no => rw [q] at p; exact p
theorem pE_fcl {T : Tb} {k : Nat} (ok : Okx T c k false X) {i : Nat} {f : Fn} (hf : T.fns[i]? = some f) (hpl : f.pl = true) {e : Expr} {es : List Expr} {rs : Env → Rs (List D)} {p pos : Pos} (hn : ∀ ρ ds, rs ρ = .ok ds → ds.length = f.ar) (hg : Gl X f.name) (hd : ndb f.name = true) (ha : PA X (e :: es) (tL c rs)) (hp : (e :: es).all plE = true) :
    PE X (.Call (.Name f.name p) (e :: es) [] pos) (tE c fun ρ => (rs ρ).bind (T.fn i)) := by
  obtain ⟨fa, fd, ps, F, hl, hm, hk, hb⟩ := ok.tb.fns i f hf hpl
  rw [List.all_cons, Bool.and_eq_true] at hp
  refine PE.mono (pe_callS (E := WE c.W) F (ok.rm rfl) hg hm hk hb (fun σ => passAt ok.tk σ) ha (ndb1 hd).1 (starB hp.1) (backF hp.2)) fun σ H Q ⟨ρ, G, sg, e, p⟩ => ?_
  dsimp only at p
  exact ⟨ρ, G, sg, e, p.seq fun ds us G1 H1 ed st rd p1 => spF_of ok.hK hf (hn ρ ds ed) st.gh rd p1⟩
/-! calls with keywords, what is raised wished for at the slots -/
theorem runNS {CX : CXT} {k n : Nat} {f : Addr} {fd : FuncData} {ps ks : List Str} {sp : Sp} {E : XK} {g : List Value → List Value → List Value} {gV : List V → List V → List V} {pins : List (Addr × Obj)} {σ : L2.St} {H : Hp} {s : Shared} {Q : VK} {us ws : List Value} {vs zs : List V}
    (F : FnOk X.prog X.w X.K X.mg X.base CX k f fd ps sp) (hr : Room k X.A) (hb : KBn X.K fd ps n ks g gV) (hx : PassesAt CX X σ E)
    (I : Inv X pins σ H s) (r : Vals vs us) (rz : Vals zs ws) (l1 : vs.length = n) (l2 : zs.length = ks.length) (h : sp (gV vs zs) H Q E) : wpAny (model X.prog X.w) X.A (call (.ref f) us (ks.zip ws)) (EP X pins σ Q) X.xe s := by
  have b := hb.to s us ws I.kIn (r.length.symm.trans l1) (rz.length.symm.trans l2)
  refine wpAny_call (codeAny_mono (F.run X.A X.stack s H ⟨us, ks.zip ws⟩ (g us ws) (gV vs zs) Q E hr I.env0 b (hb.rel r rz) h) fun r s' hq => ?_)
  match r, hq with
  | .error e, hq => exact hx pins H s e s' I hq
  | .ok (.ret u), hq => exact I.after hq
  | .ok .next, hq => exact False.elim hq
  | .ok .brk, hq => exact False.elim hq
  | .ok .cont, hq => exact False.elim hq
theorem kwAll {pos : Pos} {env : PySem.Env} : ∀ {kw : List Keyword}, kw.all (fun q => q.arg.isSome) = true → (backToKw pos (keywordEach kw env)).all (·.1.isSome) = true ∧ (backToKw pos (keywordEach kw env)).any (·.1.isNone) = false ∧ (backToKw pos (keywordEach kw env)).filterMap (·.1) = kw.filterMap (·.arg)
  | [], _ => ⟨rfl, rfl, rfl⟩
  | ⟨a, v, p⟩ :: kw, h => by
    rw [List.all_cons, Bool.and_eq_true] at h
    obtain ⟨h1, h2, h3⟩ := kwAll (pos := pos) (env := env) h.2
    cases a with
    | none => exact absurd h.1 Bool.false_ne_true
    | some a =>
      refine ⟨?_, ?_, ?_⟩
      · show (true && (backToKw pos (keywordEach kw env)).all (·.1.isSome)) = true
        rw [h1]; rfl
      · show (false || (backToKw pos (keywordEach kw env)).any (·.1.isNone)) = false
        rw [h2]; rfl
      · show a :: (backToKw pos (keywordEach kw env)).filterMap (·.1) = a :: kw.filterMap (·.arg)
        rw [h3]
theorem pK_nil : PK X [] (tL c fun _ => .ok []) := by
  constructor
  intro pos pins s σ H Q I ⟨ρ, G, sg, e, p⟩
  exact pk_nil.run pos pins s σ H Q I (p [] G H (Stp.refl sg) .nil)
theorem pK_cons {q : Keyword} {kw : List Keyword} {r : Env → Rs D} {rs : Env → Rs (List D)} (he : PE X q.value (tE c r)) (hs : PK X kw (tL c rs)) : PK X (q :: kw) (tL c fun ρ => (r ρ).bind fun x => (rs ρ).map fun r => x :: r) := by
  obtain ⟨a, v, kp⟩ := q
  constructor
  intro pos pins s σ H Q I ⟨ρ, G, sg, e, p⟩
  refine (pk_cons he hs).run pos pins s σ H Q I ?_
  dsimp only at p
  refine tG.first sg e p fun d u G1 H1 s1 e1 st rd p1 => ?_
  refine tG.first s1 e1 p1 fun ds us G2 H2 s2 e2 st2 rd2 p2 => ?_
  exact p2 _ G2 H2 (Stp.refl s2) (.cons (Dp_mono st2.gg rd) rd2)
theorem pE_kcl {T : Tb} {k : Nat} (ok : Okx T c k false X) {i sh : Nat} {f : Fn} {m : Nat × Nat × List Str × (List D → List D → List D)} (hf : T.fns[i]? = some f) (hm0 : T.shs[sh]? = some m) (hi : m.1 = i) {e : Expr} {es : List Expr} {kw : List Keyword} {rs rk : Env → Rs (List D)} {p pos : Pos}
    (hn : ∀ ρ ds, rs ρ = .ok ds → ds.length = m.2.1) (hn2 : ∀ ρ ds, rk ρ = .ok ds → ds.length = m.2.2.1.length) (hks : kw.filterMap (·.arg) = m.2.2.1) (hall : kw.all (fun q => q.arg.isSome) = true) (hg : Gl X f.name) (hd : ndb f.name = true)
    (ha : PA X (e :: es) (tL c rs)) (hkw : PK X kw (tL c rk)) (hp : (e :: es).all plE = true) :
    PE X (.Call (.Name f.name p) (e :: es) kw pos) (tE c fun ρ => (rs ρ).bind fun ds => (rk ρ).bind fun zs => T.fn i (T.arr sh ds zs)) := by
  obtain ⟨fa, fd, ps, g, gV, F, hl, hm, hk, hb, hgv⟩ := ok.tb.shs sh m f hm0 (by rw [hi]; exact hf)
  have hp' := hp
  rw [List.all_cons, Bool.and_eq_true] at hp
  constructor
  intro pins s σ H Q I ⟨ρ, G, sg, e', p'⟩
  dsimp only at p'
  refine wpAny_Call_Name_kw (ld_glob I hg hm ?_ (ndb1 hd).1)
  obtain ⟨a1, a2, a3⟩ := kwAll (pos := pos) (env := X.env) hall
  refine PySem.W.callWith_KW (h₀ := X.base) I.ok.mod.kin hk a1 (thn (ha.run pos pins s σ H (fun vs H1 => ∃ ds G1, ds.length = m.2.1 ∧ Same G1 H1 ∧ EnvR c.kx G1 H1 ρ σ ∧ DpAll c.K G1 vs ds ∧ PoG (Dp c.K) c σ G1 H1 ((rk ρ).bind fun zs => T.fn i (T.arr sh ds zs)) Q) I ?_) fun us s1 ⟨vs, H1, I1, r, ds, G1, hl1, s1', e1, rd, p1⟩ => ?_) (by rw [a2, Bool.or_false]; exact backF hp') (starB hp.1)
  · exact ⟨ρ, G, sg, e', p'.seq fun ds us G1 H1 ed st rd p1 => ⟨ds, G1, hn ρ ds ed, st.gh, e'.step st, rd, p1⟩⟩
  · refine thn (hkw.run pos pins s1 σ H1 (fun zs H2 => ∃ es G2, es.length = m.2.2.1.length ∧ Same G2 H2 ∧ DpAll c.K G2 vs ds ∧ DpAll c.K G2 zs es ∧ PoG (Dp c.K) c σ G2 H2 (T.fn i (T.arr sh ds es)) Q) I1 ?_) fun ws s2 ⟨zs, H2, I2, rz, es', G2, hl2, s2', rd2, rz2, p2⟩ => ⟨I2.kIn, ?_⟩
    · exact ⟨ρ, G1, s1', e1, p1.seq fun es' us' G2 H2 ed st rd2 p2 => ⟨es', G2, hn2 ρ es' ed, st.gh, DpAll_mono st.gg rd, rd2, p2⟩⟩
    · rw [a3, hks]
      have hK := ok.hK
      obtain ⟨g1, g2⟩ := hgv G2 vs ds zs es' (by show DpAll X.K _ _ _; rw [← hK]; exact rd2) (by show DpAll X.K _ _ _; rw [← hK]; exact rz2) hl1 hl2
      have harr : T.arr sh ds es' = m.2.2.2 ds es' := by unfold Tb.arr; rw [hm0]
      rw [harr] at p2
      exact runNS F (ok.rm rfl) hb (passAt ok.tk σ) I2 r rz (by rw [DpAll_len rd2]; exact hl1) (by rw [DpAll_len rz2]; exact hl2) (spF_of hK hf g2 s2' (by rw [hK]; exact g1) p2)
/-! ### index -/
theorem placeD_some : ∀ {d : D} {ds : List D} {j : Nat}, placeD d ds = some j → ∃ z, ds[j]? = some z ∧ PyData.eqv z d = true ∧ ∀ (m : Nat) (z' : PyData), m < j → ds[m]? = some z' → PyData.eqv z' d = false
  | d, [], j, h => by cases h
  | d, x :: xs, j, h => by
    unfold placeD at h
    by_cases q : PyData.eqv x d = true
    · rw [if_pos q] at h
      cases h
      exact ⟨x, rfl, q, fun m z' hm => absurd hm (Nat.not_lt_zero m)⟩
    · rw [if_neg q] at h
      cases r : placeD d xs with
      | none => rw [r] at h; cases h
      | some k =>
        rw [r] at h
        cases h
        obtain ⟨z, h1, h2, h3⟩ := placeD_some r
        refine ⟨z, by simpa using h1, h2, fun m z' hm hz => ?_⟩
        cases m with
        | zero =>
          have : x = z' := by simpa using hz
          subst this
          exact Bool.eq_false_iff.mpr q
        | succ m => exact h3 m z' (by have hm : m + 1 < k + 1 := hm; omega) (by simpa using hz)
def rMt (K : PySem.W.Frag) (f : D → List D → Rs D) : V → List V → Hp → VK → Prop := fun x vs H Q => ∃ d ds G, Same G H ∧ Dp K G x d ∧ DpAll K G vs ds ∧ PoQ K G H (f d ds) Q
theorem mIndex (hu : X.A.units + 65 < cLine) : MtR X "list.index" (rMt X.K indexD) := by
  intro pins s σ H x xs v us Q I rx rxs h
  obtain ⟨d, ds, G, sg, hd, hds, p⟩ := h
  unfold indexD at p
  split at p
  · rename_i ys e
    obtain ⟨v1, rfl, h1⟩ := one_of hds
    obtain ⟨g, p⟩ := PoQ.grd p
    rw [Bool.and_eq_true] at g
    cases q : placeD e ys with
    | none => rw [q] at p; exact p.elim
    | some j =>
      rw [q] at p
      obtain ⟨z, e1, e2, e3⟩ := placeD_some q
      cases hd with
      | lst qa ra =>
        rename_i a vs
        exact mt_indexD hu pins s σ H _ _ v us Q I rx rxs ⟨a, v1, e, ys, j, z, rfl, rfl, .lst (sg.seq qa) (DpAll_mono sg ra), Dp_mono sg h1, g.1, g.2, e1, e2, e3, p _ G H (Stp.refl sg) (.int _)⟩
  · exact p.elim
theorem pE_index (hK : c.K = X.K) (hu : X.A.units + 65 < cLine) {a e : Expr} {es : List Expr} {ra : Env → Rs D} {rs : Env → Rs (List D)} {apos cpos : Pos} (ha : PE X a (tE c ra)) (hs : PA X (e :: es) (tL c rs)) (hab : abE a = true) (hl : (apos.endLine == cpos.line) = true) (hp : (e :: es).all plE = true) (h20 : es.length < 20) :
    PE X (.Call (.Attribute a "index" apos) (e :: es) [] cpos) (tE c fun ρ => (ra ρ).bind fun x => grd (isLst x) ((rs ρ).bind fun ds => (indexD x ds).quiet)) := by
  have hp' := hp
  rw [List.all_cons, Bool.and_eq_true] at hp
  have hfew : ((backTo cpos (starEach (e :: es) X.env)).all (fun x => !x.1) && (backToKw cpos (keywordEach [] X.env)).all (fun x => x.1.isSome)
      && decide ((e :: es).length + ([] : List Keyword).length + (if ([] : List Keyword).isEmpty then 0 else 1) < 30)) = true := by
    rw [backA hp', Bool.true_and, Bool.and_eq_true]
    refine ⟨rfl, decide_eq_true ?_⟩
    show es.length + 1 + 0 + 0 < 30
    omega
  refine PE.mono (pe_bm PySem.F.plainAttrs_list PySem.F.slot_list_index PySem.F.type_list_index (mIndex hu) ha hs (abB hab) hfew hl (starB hp.1) (backF hp.2)) fun σ H Q ⟨ρ, G, sg, e', p⟩ => ?_
  dsimp only at p
  refine tG.first sg e' p fun d u G1 H1 s1 e1 st rd p1 => ?_
  rw [hK] at rd
  cases rd with
  | lst qa ra' =>
    rename_i ad vs xs
    refine ⟨.inl ⟨rfl, vs, s1.seq qa⟩, ?_⟩
    have p2 : PoG (Dp c.K) c σ G1 H1 ((rs ρ).bind fun ds => (indexD (.list xs) ds).quiet) Q := p1
    refine tG.first s1 e1 p2 fun ds0 us G2 H2 s2 e2 st2 rd2 p3 => ?_
    refine ⟨.list xs, ds0, G2, s2, .lst (st2.gg.seq qa) (DpAll_mono st2.gg ra'), by rw [← hK]; exact rd2, ?_⟩
    rw [← hK]
    exact PoG.q p3
  | non => exact (show False from p1).elim
  | bl => exact (show False from p1).elim
  | int => exact (show False from p1).elim
  | str => exact (show False from p1).elim
  | tup => exact (show False from p1).elim
/-! ### count -/
theorem mCount (hu : X.A.units + 65 < cLine) : MtR X "list.count" (rMt X.K countD) := by
  intro pins s σ H x xs v us Q I rx rxs h
  obtain ⟨d, ds, G, sg, hd, hds, p⟩ := h
  unfold countD at p
  split at p
  · rename_i ys e
    obtain ⟨v1, rfl, h1⟩ := one_of hds
    obtain ⟨g, p⟩ := PoQ.grd p
    rw [Bool.and_eq_true] at g
    cases hd with
    | lst qa ra =>
      cases rx
      cases rxs with
      | cons ry rt =>
        cases rt
        obtain ⟨its, rv, q, _⟩ := I.list (sg.seq qa)
        obtain ⟨as, rr⟩ := Dp.readsAll I _ _ _ (DpAll_mono sg ra) rv
        obtain ⟨bs, r1⟩ := Dp.reads I e _ _ (Dp_mono sg h1) ry
        have c1 : PyData.canLayAll0 ys = true := SeqAt.canLay_of_shaped g.1
        have c2 : e.canLay0 = true := SeqAt.canLay_of_shaped g.2
        exact PySem.SeqAt.count_list_data q.isList (by simpa using rr) r1 (PyData.plainAll_of_canLay0 _ c1) (PyData.plain_of_canLay0 _ c2) (room_in_shaped g.2 hu) ⟨.int _, H, I.tok _, ⟨_, rfl⟩, p _ G H (Stp.refl sg) (.int _)⟩
  · exact p.elim
theorem pE_count (hK : c.K = X.K) (hu : X.A.units + 65 < cLine) {a e : Expr} {es : List Expr} {ra : Env → Rs D} {rs : Env → Rs (List D)} {apos cpos : Pos} (ha : PE X a (tE c ra)) (hs : PA X (e :: es) (tL c rs)) (hab : abE a = true) (hl : (apos.endLine == cpos.line) = true) (hp : (e :: es).all plE = true) (h20 : es.length < 20) :
    PE X (.Call (.Attribute a "count" apos) (e :: es) [] cpos) (tE c fun ρ => (ra ρ).bind fun x => grd (isLst x) ((rs ρ).bind fun ds => (countD x ds).quiet)) := by
  have hp' := hp
  rw [List.all_cons, Bool.and_eq_true] at hp
  have hfew : ((backTo cpos (starEach (e :: es) X.env)).all (fun x => !x.1) && (backToKw cpos (keywordEach [] X.env)).all (fun x => x.1.isSome)
      && decide ((e :: es).length + ([] : List Keyword).length + (if ([] : List Keyword).isEmpty then 0 else 1) < 30)) = true := by
    rw [backA hp', Bool.true_and, Bool.and_eq_true]
    refine ⟨rfl, decide_eq_true ?_⟩
    show es.length + 1 + 0 + 0 < 30
    omega
  refine PE.mono (pe_bm PySem.F.plainAttrs_list PySem.F.slot_list_count PySem.F.type_list_count (mCount hu) ha hs (abB hab) hfew hl (starB hp.1) (backF hp.2)) fun σ H Q ⟨ρ, G, sg, e', p⟩ => ?_
  dsimp only at p
  refine tG.first sg e' p fun d u G1 H1 s1 e1 st rd p1 => ?_
  rw [hK] at rd
  cases rd with
  | lst qa ra' =>
    rename_i ad vs xs
    refine ⟨.inl ⟨rfl, vs, s1.seq qa⟩, ?_⟩
    have p2 : PoG (Dp c.K) c σ G1 H1 ((rs ρ).bind fun ds => (countD (.list xs) ds).quiet) Q := p1
    refine tG.first s1 e1 p2 fun ds0 us G2 H2 s2 e2 st2 rd2 p3 => ?_
    refine ⟨.list xs, ds0, G2, s2, .lst (st2.gg.seq qa) (DpAll_mono st2.gg ra'), by rw [← hK]; exact rd2, ?_⟩
    rw [← hK]
    exact PoG.q p3
  | non => exact (show False from p1).elim
  | bl => exact (show False from p1).elim
  | int => exact (show False from p1).elim
  | str => exact (show False from p1).elim
  | tup => exact (show False from p1).elim
/-! ### list(range()), tuple(range()) -/
theorem dpRng (K : PySem.W.Frag) (G : Hp) (a b : Int) : DpAll K G (rgV a b) (rngD a b) := by
  unfold rgV rngD
  generalize List.range (b - a).toNat = l
  induction l with
  | nil => exact .nil
  | cons k l ih => exact .cons (.int _) ih
theorem rngOk {a b : Int} (h1 : inRng a = true) (h2 : inRng b = true) (h3 : few (b - a).toNat = true) : RgOk a b := by
  have h1 := inRng_iff.mp h1
  have h2 := inRng_iff.mp h2
  have h3 := few_iff.mp h3
  exact ⟨by omega, by omega, by omega, by omega, by omega⟩
theorem lrg_end {tp : Bool} {K : PySem.W.Frag} {G H : Hp} {a b : Int} {Q : VK} (sg : Same G H) (p : PoQ K G H (.ok (if tp = true then .tuple (rngD a b) else .list (rngD a b))) Q) (q : Addr) (hq : H q = none) : Q (.ref q) (upd H q (if tp = true then .tup (rgV a b) else .lst (rgV a b))) := by
  cases tp with
  | true => exact p _ _ _ (Stp.new (o := .tup (rgV a b)) sg hq) (.tup (SqT.of upd_same) (DpAll_mono (Same.upd (sg.free hq)) (dpRng K G a b)))
  | false => exact p _ _ _ (Stp.new (o := .lst (rgV a b)) sg hq) (.lst (SqL.of upd_same) (DpAll_mono (Same.upd (sg.free hq)) (dpRng K G a b)))
theorem pe_lrg {tp : Bool} {e : Expr} {te : L2.St → Hp → (Int → Int → Hp → Prop) → Prop} {x : Str} {p pos : Pos} (hc : X.calm = true) (hx : x = if tp = true then ("tuple" : Str) else "list") (hg : Gl X x) (hm : X.mg x = none) (he : PRg X e te) (na : starEach [e] X.env = (false, eval e X.env) :: starEach [] X.env) :
    PE X (.Call (.Name x p) [e] [] pos) (fun σ H Q => te σ H fun a b H1 => RgOk a b ∧ ∀ q, H1 q = none → Q (.ref q) (upd H1 q (if tp = true then .tup (rgV a b) else .lst (rgV a b)))) := by
  cases tp with
  | true => subst hx; exact pe_tupRg hc hg hm he na
  | false => subst hx; exact pe_listRg hc hg hm he na
theorem pE_lrg1 (hK : c.K = X.K) (hc : X.calm = true) {tp : Bool} {a : Expr} {ra : Env → Rs D} {x : Str} {p pos p2 pos2 : Pos} (hx : x = if tp = true then ("tuple" : Str) else "list") (hg : Gl X x) (hm : X.mg x = none) (hg2 : Gl X "range") (hm2 : X.mg "range" = none) (ha : PE X a (tE c ra)) (hp : plE a = true) :
    PE X (.Call (.Name x p) [.Call (.Name "range" p2) [a] [] pos2] [] pos) (tE c fun ρ => (ra ρ).bind fun x => (rngL tp [x]).quiet) := by
  refine PE.mono (pe_lrg (tp := tp) hc hx hg hm (prg_1 hg2 hm2 ha (starB hp)) (starB rfl)) fun σ H Q ⟨ρ, G, sg, e, q⟩ => ?_
  dsimp only at q
  refine tG.first sg e q fun d u G1 H1 s1 e1 st rd p1 => ?_
  rw [hK] at rd
  cases rd with
  | int j =>
    refine ⟨j, rfl, ?_⟩
    have p1 := PoG.q p1
    by_cases g : (inRng j && few j.toNat) = true
    · have g2 := g
      rw [Bool.and_eq_true] at g2
      have e2 : rngL tp [.int j] = .ok (if tp = true then .tuple (rngD 0 j) else .list (rngD 0 j)) := by
        show (grd (inRng j && few j.toNat) (Rs.ok (rngD 0 j))).map _ = _
        rw [g]; rfl
      rw [e2] at p1
      have g3 := few_iff.mp g2.2
      exact ⟨rngOk rfl g2.1 (few_iff.mpr (by omega)), fun q0 hq => lrg_end s1 p1 q0 hq⟩
    · have e2 : rngL tp [.int j] = .no := by
        show (grd (inRng j && few j.toNat) (Rs.ok (rngD 0 j))).map _ = _
        rw [Bool.eq_false_iff.mpr g]; rfl
      rw [e2] at p1
      exact p1.elim
  | lst => exact (show False from p1).elim
  | tup => exact (show False from p1).elim
  | non => exact (show False from p1).elim
  | bl => exact (show False from p1).elim
  | str => exact (show False from p1).elim
theorem pE_lrg2 (hK : c.K = X.K) (hc : X.calm = true) {tp : Bool} {a b : Expr} {ra rb : Env → Rs D} {x : Str} {p pos p2 pos2 : Pos} (hx : x = if tp = true then ("tuple" : Str) else "list") (hg : Gl X x) (hm : X.mg x = none) (hg2 : Gl X "range") (hm2 : X.mg "range" = none) (ha : PE X a (tE c ra)) (hb : PE X b (tE c rb)) (hp : plE a = true) (hpb : plE b = true) :
    PE X (.Call (.Name x p) [.Call (.Name "range" p2) [a, b] [] pos2] [] pos) (tE c fun ρ => (ra ρ).bind fun x => (rb ρ).bind fun y => (rngL tp [x, y]).quiet) := by
  refine PE.mono (pe_lrg (tp := tp) hc hx hg hm (prg_2 hg2 hm2 ha hb (starB hp) (starB hpb) (backF (by rw [List.all_cons, hpb]; rfl))) (starB rfl)) fun σ H Q ⟨ρ, G, sg, e, q⟩ => ?_
  dsimp only at q
  refine tG.first sg e q fun d u G1 H1 s1 e1 st rd p1 => ?_
  refine tG.first s1 e1 p1 fun d2 u2 G2 H2 s2 e2 st2 rd2 p2 => ?_
  rw [hK] at rd rd2
  have no : ∀ {z : Rs D}, z = .no → PoG (Dp c.K) c σ G2 H2 z.quiet Q → False := fun {z} hz pp => by rw [hz] at pp; exact pp
  cases rd with
  | int i =>
    cases rd2 with
    | int j =>
      refine ⟨i, j, rfl, rfl, ?_⟩
      have p2 := PoG.q p2
      by_cases g : (inRng i && inRng j && few (j - i).toNat) = true
      · have g2 := g
        rw [Bool.and_eq_true, Bool.and_eq_true] at g2
        have e3 : rngL tp [.int i, .int j] = .ok (if tp = true then .tuple (rngD i j) else .list (rngD i j)) := by
          show (grd (inRng i && inRng j && few (j - i).toNat) (Rs.ok (rngD i j))).map _ = _
          rw [g]; rfl
        rw [e3] at p2
        exact ⟨rngOk g2.1.1 g2.1.2 g2.2, fun q0 hq => lrg_end s2 p2 q0 hq⟩
      · have e3 : rngL tp [.int i, .int j] = .no := by
          show (grd (inRng i && inRng j && few (j - i).toNat) (Rs.ok (rngD i j))).map _ = _
          rw [Bool.eq_false_iff.mpr g]; rfl
        rw [e3] at p2
        exact p2.elim
    | lst => exact (no rfl p2).elim
    | tup => exact (no rfl p2).elim
    | non => exact (no rfl p2).elim
    | bl => exact (no rfl p2).elim
    | str => exact (no rfl p2).elim
  | lst => exact (no (by cases rd2 <;> rfl) p2).elim
  | tup => exact (no (by cases rd2 <;> rfl) p2).elim
  | non => exact (no (by cases rd2 <;> rfl) p2).elim
  | bl => exact (no (by cases rd2 <;> rfl) p2).elim
  | str => exact (no (by cases rd2 <;> rfl) p2).elim
/-! ### isinstance -/
theorem pE_isi (hK : c.K = X.K) {a : Expr} {ra : Env → Rs D} {t : String} {p p2 pos : Pos} (ht : tyB t = true) (ha : PE X a (tE c ra)) (hp : plE a = true) (hg : Gl X "isinstance") (hm : X.mg "isinstance" = none) (hg2 : Gl X (Str.ofString t)) (hm2 : X.mg (Str.ofString t) = none) :
    PE X (.Call (.Name "isinstance" p) [a, .Name (Str.ofString t) p2] [] pos) (tE c fun ρ => (ra ρ).bind fun x => ((isiD t x).map .bool).quiet) := by
  have ht2 : t ∈ ["int", "bool", "str", "list", "tuple"] := List.contains_iff_mem.mp ht
  have fact : bootBuiltins (Str.ofString t) = some (.type t) ∧ Str.ofString t ≠ "__name__" ∧ (Str.ofString t == ("__debug__" : Str)) = false := by
    simp only [List.mem_cons, List.not_mem_nil, or_false] at ht2
    rcases ht2 with rfl | rfl | rfl | rfl | rfl <;> exact ⟨by decide +kernel, by decide +kernel, by decide +kernel⟩
  refine PE.mono (pe_callB (cIsi t ht2) hg hm (by decide +kernel) (pa_cons ha (pa_cons (pe_bltn (v := .ty t) hg2 hm2 fact.1 rfl fact.2.1 fact.2.2) pa_nil rfl) (starB hp)) (by decide +kernel) (by decide +kernel) (starB hp) rfl) fun σ H Q ⟨ρ, G, sg, e, p⟩ => ?_
  dsimp only at p
  refine tG.first sg e p fun d u G1 H1 s1 e1 st rd p1 => ?_
  rw [hK] at rd
  exact ⟨u, d, G1, rfl, s1, rd, by rw [← hK]; exact PoG.q p1⟩
/-! ### isinstance of what is caught -/
theorem xn_at {K : Kx} {G H : Hp} {ρ : Env} {σ : L2.St} {i : Nat} {e : Xn} (en : EnvR K G H ρ σ) (h : ρ[i]? = some (.xn e)) : ∃ a, σ[i]? = some (some (.ref a)) ∧ K.2 = some (a, e) := by
  obtain ⟨v, h1, a, h2, h3⟩ := en.get h
  subst h2
  exact ⟨a, h1, h3⟩
theorem pE_isx {T : Tb} {k : Nat} (ok : Okx T c k true X) {i cl : Nat} {x z : Str} {p p2 p3 pos : Pos} (hi : X.N[i]? = some x) (hv : Vis X.env.scope x) (hd : ndb x = true) (hg : Gl X "isinstance") (hz : T.cls[cl]? = some z) (hgz : Gl X z) (hdz : ndb z = true) :
    PE X (.Call (.Name "isinstance" p) [.Name x p2, .Name z p3] [] pos) (tE c fun ρ => match ρ[i]? with | some (.xn e) => grd (decide (e.1 < T.cls.length) && decide (cl < T.cls.length)) (.ok (.bool (T.isa e.1 cl))) | _ => .no) := by
  constructor
  intro pins s σ H Q I ⟨ρ, G, sg, en, pp⟩
  dsimp only at pp
  cases q : ρ[i]? with
  | none => rw [q] at pp; exact pp.elim
  | some sl =>
    rw [q] at pp
    cases sl with
    | xn e =>
      have pp : PoG (Dp c.K) c σ G H (grd (decide (e.1 < T.cls.length) && decide (cl < T.cls.length)) (.ok (.bool (T.isa e.1 cl)))) Q := pp
      by_cases g : (decide (e.1 < T.cls.length) && decide (cl < T.cls.length)) = true
      · rw [g] at pp
        rw [Bool.and_eq_true, decide_eq_true_eq, decide_eq_true_eq] at g
        obtain ⟨a, h1, h2⟩ := xn_at en q
        have X1 := (ok.tb.cls cl z hz).mg
        have hr := ok.isE a e h2 rfl g.1
        refine (pe_callB hr hg (ok.tb.blt _ (by decide +kernel)) (by decide +kernel) (pa_cons (pe_var hi hv (ndb1 hd).1 (ndb1 hd).2) (pa_cons (pe_glob (v := .ref (c.ca cl)) hgz X1 rfl (ndb1 hdz).1) pa_nil rfl) rfl) (by decide +kernel) (by decide +kernel) rfl rfl).run pins s σ H Q I ?_
        exact ⟨.ref a, h1, .ref (c.ca cl), .ref (c.ca cl), T.isa e.1 cl, rfl, fun _ r => r, (ok.tb.isa e.1 cl g.1 g.2).1, pp _ G H (Stp.refl sg) (.bl _)⟩
      · rw [Bool.eq_false_iff.mpr g] at pp; exact pp.elim
    | un => exact pp.elim
    | fz => exact pp.elim
    | ow => exact pp.elim
theorem pE_isv {T : Tb} {k : Nat} (ok : Okx T c k true X) {i : Nat} {x : Str} {p p2 p3 pos : Pos} (hi : X.N[i]? = some x) (hv : Vis X.env.scope x) (hd : ndb x = true) (hg : Gl X "isinstance") (hgz : Gl X "ValueError") :
    PE X (.Call (.Name "isinstance" p) [.Name x p2, .Name "ValueError" p3] [] pos) (tE c fun ρ => match ρ[i]? with | some (.xn e) => grd (decide (e.1 < T.cls.length)) (.ok (.bool true)) | _ => .no) := by
  constructor
  intro pins s σ H Q I ⟨ρ, G, sg, en, pp⟩
  dsimp only at pp
  cases q : ρ[i]? with
  | none => rw [q] at pp; exact pp.elim
  | some sl =>
    rw [q] at pp
    cases sl with
    | xn e =>
      have pp : PoG (Dp c.K) c σ G H (grd (decide (e.1 < T.cls.length)) (.ok (.bool true))) Q := pp
      by_cases g : (decide (e.1 < T.cls.length)) = true
      · rw [g] at pp
        rw [decide_eq_true_eq] at g
        obtain ⟨a, h1, h2⟩ := xn_at en q
        have hr := ok.isE a e h2 rfl g
        obtain ⟨z, hz⟩ : ∃ z, T.cls[e.1]? = some z := ⟨_, List.getElem?_eq_getElem g⟩
        refine (pe_callB hr hg (ok.tb.blt _ (by decide +kernel)) (by decide +kernel) (pa_cons (pe_var hi hv (ndb1 hd).1 (ndb1 hd).2) (pa_cons (pe_bltn (v := .ty "ValueError") (u := .type "ValueError") hgz (ok.tb.blt _ (by decide +kernel)) (by decide +kernel) rfl (by decide +kernel) (by decide +kernel)) pa_nil rfl) rfl) (by decide +kernel) (by decide +kernel) rfl rfl).run pins s σ H Q I ?_
        exact ⟨.ref a, h1, .ty "ValueError", .type "ValueError", true, rfl, fun _ r => r, (ok.tb.cls e.1 z hz).ve, pp _ G H (Stp.refl sg) (.bl _)⟩
      · rw [Bool.eq_false_iff.mpr g] at pp; exact pp.elim
    | un => exact pp.elim
    | fz => exact pp.elim
    | ow => exact pp.elim
end
end Rf
set_option Elab.async false
set_option linter.all false
set_option maxRecDepth 100000
set_option maxHeartbeats 4000000
namespace Rf
open PySem PySem.Spec PyProof.Rows L2
theorem anB {a b : Bool} (h : (a && b) = true) : a = true ∧ b = true := by
  cases a <;> cases b <;> first | exact ⟨rfl, rfl⟩ | cases h
theorem tupI {e : Expr} (h : tupB e = true) : ∃ l k p, e = .Tuple l k p := by
  cases e <;> first | exact ⟨_, _, _, rfl⟩ | cases h
/-- what is walked, by its form -/
theorem itPI {X : Cx} {c : Cw} {k : It} {tg iter : Expr} {l : List Expr} {r : Env → Rs (List D)} {r1 : Env → Rs D} (hK : c.K = X.K) (hc : X.calm = true) (hm : ∀ x, x = ("range" : Str) ∨ x = ("enumerate" : Str) ∨ x = ("zip" : Str) → X.mg x = none) (h : itForm k tg X.env.scope iter = some l)
    (hs : PA X l (tL c r)) (hp : l.all plE = true) (hn : ∀ ρ ds, r ρ = .ok ds → ds.length = l.length) (h1 : l = [iter] → k = .seq → PE X iter (tE c r1) ∧ ∀ ρ, r ρ = (r1 ρ).map fun d => [d]) : PI X tg iter (tI c fun ρ => (r ρ).bind fun ds => (itD k ds).quiet) := by
  cases k with
  | seq =>
    have h : some [iter] = some l := h
    injection h with h
    subst h
    obtain ⟨he, hr⟩ := h1 rfl rfl
    refine PI.mono (pI_seq hK he) fun σ H R ⟨ρ, G, sg, en, p⟩ => ⟨ρ, G, sg, en, ?_⟩
    have e2 : (r ρ).bind (fun ds => (itD .seq ds).quiet) = (r1 ρ).bind fun d => (itsD d).quiet := by
      rw [hr]
      cases r1 ρ <;> rfl
    dsimp only at p
    rw [e2] at p
    exact p
  | rng =>
    unfold itForm at h
    dsimp only at h
    split at h
    · rename_i y p2 l0 ls pos2
      split at h
      · rename_i g
        obtain ⟨g, g3⟩ := anB g
        obtain ⟨g1, g2⟩ := anB g
        injection h with h
        subst h
        have e := of_decide_eq_true g1
        subst e
        have ll := of_decide_eq_true g3
        have hmr := hm "range" (.inl rfl)
        rcases ls with _ | ⟨b, _ | ⟨d, _ | ⟨d2, ls⟩⟩⟩
        · rw [List.all_cons, Bool.and_eq_true] at hp
          exact pI_rng1 hK (glG g2) hmr hs (starB hp.1) hn
        · rw [List.all_cons, Bool.and_eq_true, List.all_cons, Bool.and_eq_true] at hp
          exact pI_rng2 hK (glG g2) hmr hs (by rw [starB hp.1, starB hp.2.1]; rfl) (by rw [starB hp.2.1]; rfl) hn
        · rw [List.all_cons, Bool.and_eq_true] at hp
          exact pI_rng3 hK (glG g2) hmr hs (starB hp.1) (backF hp.2) hn
        · simp only [List.length_cons] at ll
          omega
      · cases h
    · cases h
  | enum =>
    unfold itForm at h
    dsimp only at h
    split at h
    · rename_i y p2 l0 pos2
      split at h
      · rename_i g
        obtain ⟨g, g3⟩ := anB g
        obtain ⟨g1, g2⟩ := anB g
        injection h with h
        subst h
        have e := of_decide_eq_true g1
        subst e
        obtain ⟨es, kk, tp, et⟩ := tupI g3
        subst et
        rw [List.all_cons, Bool.and_eq_true] at hp
        exact pI_en hK hc (glG g2) (hm "enumerate" (.inr (.inl rfl))) hs (starB hp.1) hn
      · cases h
    · cases h
  | zip =>
    unfold itForm at h
    dsimp only at h
    split at h
    · rename_i y p2 l0 ls pos2
      split at h
      · rename_i g
        obtain ⟨g, g4⟩ := anB g
        obtain ⟨g, g3⟩ := anB g
        obtain ⟨g1, g2⟩ := anB g
        injection h with h
        subst h
        have e := of_decide_eq_true g1
        subst e
        obtain ⟨es, kk, tp, et⟩ := tupI g3
        subst et
        have ll := of_decide_eq_true g4
        have hmz := hm "zip" (.inr (.inr rfl))
        rcases ls with _ | ⟨b, _ | ⟨d, _ | ⟨d2, ls⟩⟩⟩
        · simp only [List.length_cons, List.length_nil] at ll
          omega
        · rw [List.all_cons, Bool.and_eq_true] at hp
          exact pI_z2 hK hc (glG g2) hmz hs (starB hp.1) (backF hp.2) hn
        · rw [List.all_cons, Bool.and_eq_true] at hp
          exact pI_z3 hK hc (glG g2) hmz hs (starB hp.1) (backF hp.2) hn
        · simp only [List.length_cons] at ll
          omega
      · cases h
    · cases h
  | str => cases h
end Rf
set_option Elab.async false
set_option linter.all false
set_option maxRecDepth 100000
set_option maxHeartbeats 4000000
namespace Rf
open PySem PySem.Spec PyProof.Rows L2
/-! ### sets of whole numbers, by a comprehension -/
section
variable {X : Cx}
abbrev SI (w : World) (b : Addr) (U : Int → Bool) (k : Nat) : HO := L2.SetO w b U k
def tSci (w : World) (wi : TI) (g : TG) (tt : TT) (te : TE) (vs : List Nat) : TE := fun σ H Q => wi σ H fun J Ha => ∀ B, Ha B = none → ∃ W : Nat → Nat → Hp → Prop, (∃ m, W 0 m (L2.upd Ha B (SI w B (fun _ => false) 0))) ∧ ∀ i m Hb, W i m Hb →
  (J.stop i Hb ∧ Q (.ref B) Hb) ∨ (J.go i Hb ∧ ∃ Go : Hp → Prop, (∀ Hc, Go Hc → ∃ m2, m2 < m ∧ W (i + 1) m2 Hc) ∧ ∀ x Hc, J.yld i Hb x Hc → g x (L2.wipe σ vs) Hc fun σc Hd => L2.wipe σc vs = L2.wipe σ vs ∧ tt σc Hd fun b He =>
    if b = true then te σc He fun y Hf => ∃ (z : Int) (U : Int → Bool) (k : Nat), y = .int z ∧ Hf B = some (SI w B U k) ∧ k + 1 < scanBound ∧ Go (L2.upd Hf B (SI w B (fun j => U j || decide (j = z)) (if U z = true then k else k + 1))) else Go He)
theorem sci_core {pins : List (Addr × Obj)} {s : Shared} {σ : L2.St} {H : Hp} {Q : VK} {elt tg iter : Expr} {ifs : List Expr} {scope : Scope} {own : List (Str × Nat)} {pos pos2 : Pos} {wi : TI} {g : TG} {tt : TT} {te : TE} {use : Option (Value → Sem Unit)} {Qf : Value → Shared → Prop}
    (calm : X.calm = true) (nd : X.N.Nodup) (I : Inv X pins σ H s) (pi : PI X tg iter wi) (ok : BlkOk X.N X.env.scope scope own)
    (pgg : ∀ (s : Shared) (H : Hp) (C : Addr) (cl : List (Str × Addr)) (fp : List Addr), PG (X.blk s H scope (compEnvC scope cl C X.env) fp) tg g)
    (ptt : ∀ (s : Shared) (H : Hp) (C : Addr) (cl : List (Str × Addr)) (fp : List Addr), PTs (X.blk s H scope (compEnvC scope cl C X.env) fp) ifs tt)
    (pee : ∀ (s : Shared) (H : Hp) (C : Addr) (cl : List (Str × Addr)) (fp : List Addr), PE (X.blk s H scope (compEnvC scope cl C X.env) fp) elt te) (hset : ∀ x, foldedSetIterable iter X.env x = pure x)
    (h : tSci X.w wi g tt te (own.map (·.2)) σ H Q)
    (post : ∀ B C sz m Hz, Inv X pins σ Hz sz → Q (.ref B) Hz → sz.heap.Ns C m → FpOk X pins Hz C → compPost (model X.prog X.w) X.A X.xe use Qf (.ref B) C (.ok .next) sz) :
    wpAny (model X.prog X.w) X.A (comprehension (.SetComp elt [⟨tg, iter, ifs, 0⟩] scope pos) scope X.env pos2 (newSet (.type "set")) false (eval iter X.env) use) Qf X.xe s := by
  have frees : ∀ y ∈ scope.names, y.2 = .free → ∃ c, X.env.cells.lookup y.1 = some c := fun y hy ey =>
    (ok.free y hy ey).elim (fun k => I.ok.has _ (.inl k)) (fun k => I.ok.has _ (.inr k))
  refine wpAny_comprehension_free (use := use) rfl hset (closure_ok frees) ok.kind (fun y hy ey => by rw [ok.uniq y hy, ey]) (thn (pi.run pins s σ H _ I h) fun xv sa hx => thn hx fun itv sb hb => ?_)
  obtain ⟨it, fp, tn, J, Hb, e1, Ib, T, stb, fb, q⟩ := hb
  subst e1
  refine PpSet.newSet_ok (newEnv_comp ?_)
  generalize eB : sb.heap.objs.size = B
  have nB : Hb B = none := Ib.hok.fresh (Nat.le_of_eq eB)
  obtain ⟨W, ⟨m0, w0⟩, turn⟩ := q B nB
  let obj : Obj := { cls := .type "set", dict := none, data := .set #[] 0 (.fresh 0 0 (!X.w.params.followText "set-order")) }
  generalize esc : ({ sb with heap := sb.heap.push { cls := .type "set", dict := none, data := .set #[] 0 (.fresh 0 0 (!X.w.params.followText "set-order")) } } : Shared) = sc
  have hsc : sc.heap = sb.heap.push { cls := .type "set", dict := none, data := .set #[] 0 (.fresh 0 0 (!X.w.params.followText "set-order")) } := by rw [← esc]
  have Ic : Inv X pins σ (L2.upd Hb B (SI X.w B (fun _ => false) 0)) sc := by
    rw [← esc]
    refine Ib.laid (t' := sb.toks) (fun b o e => Heap.get?_push_of_some _ e) (Nat.le_of_eq eB) ?_
    rw [← eB]
    exact setO_new (setR_fresh X.w)
  have small : ∀ b ∈ fp, b < sb.heap.objs.size := fun b hb => by
    obtain ⟨o, eo, _⟩ := T.obj _ _ stb b hb
    exact Heap.lt_size eo
  have fc : ∀ b ∈ fp, FpOk X pins (L2.upd Hb B (SI X.w B (fun _ => false) 0)) b ∧ b < sc.heap.objs.size := fun b hb => by
    have lt := small b hb
    refine ⟨⟨?_, (fb b hb).2⟩, by rw [hsc, Heap.size_push]; exact Nat.lt_succ_of_lt lt⟩
    rw [upd_ne (by rw [← eB]; exact Nat.ne_of_lt lt)]
    exact (fb b hb).1
  have stc : tn 0 sc.heap := T.keep _ _ _ stb fun b _ o eo => by rw [hsc]; exact Heap.get?_push_of_some _ eo
  have Id := block_start Ic ok nd fc
  generalize eHc : L2.upd Hb B (SI X.w B (fun _ => false) 0) = Hc at *
  generalize eC : sc.heap.objs.size = C at *
  generalize ecl : cellsFrom (C + 1) scope.names (cloFrom X.env.cells scope.names []) = cl at *
  have pg := pgg sc Hc C cl fp
  have pt := ptt sc Hc C cl fp
  have pe := pee sc Hc C cl fp
  show codeAny _ _ (.compStart (.SetComp elt [⟨tg, iter, ifs, 0⟩] scope pos) 0 (.ref it) (.ref B) (compEnvC scope cl C X.env)) (compPost (model X.prog X.w) X.A X.xe use Qf (.ref B) C) { sc with heap := pushCells (sc.heap.push { cls := .type "dict", data := .dict #[] }) scope.names }
  have clear : ∀ b ∈ fp, Hc b = none := fun b hb => (fc b hb).1.1
  generalize ece : compEnvC scope cl C X.env = ce at Id pg pt pe ⊢
  have locC : ce.locals = C := by subst ece; rfl
  generalize esd : ({ sc with heap := pushCells (sc.heap.push { cls := .type "dict", data := .dict #[] }) scope.names } : Shared) = sd at Id ⊢
  have std : tn 0 sd.heap := T.keep _ _ _ stc fun b _ o eo => by rw [← esd]; exact pushCells_keeps _ _ _ _ (Heap.get?_push_of_some _ eo)
  have still : ∀ {σz : L2.St} {Hz : Hp} {sz : Shared}, Inv (X.blk sc Hc scope ce fp) [] σz Hz sz → (∀ b ∈ fp, Hz b = none) → ∀ b ∈ fp, FpOk (X.blk sc Hc scope ce fp) [] Hz b := fun {σz Hz sz} Iz hz b hb =>
    ⟨hz b hb, (Iz.ok.exf b hb).1, Iz.ok.exfs b hb, .inl hb, fun x c eo => (Iz.ok.exf b hb).2 x c eo, fun pp hpp => absurd (show pp ∈ ([] : List (Addr × Obj)) ++ [] from hpp) (by simp)⟩
  have loop : codeAny (model X.prog X.w) X.A (.compLoop (.SetComp elt [⟨tg, iter, ifs, 0⟩] scope pos) 0 (.ref it) (.ref B) ce) (compPost (model X.prog X.w) X.A X.xe use Qf (.ref B) C) sd := by
    refine PpSet.compLoopS_any (fun n sz => ∃ i Hz, Inv (X.blk sc Hc scope ce fp) [] (L2.wipe σ (own.map (·.2))) Hz sz ∧ tn i sz.heap ∧ (∀ b ∈ fp, Hz b = none) ∧ W i n Hz) ?_ m0 ⟨0, Hc, Id, std, clear, w0⟩
    rintro n se ⟨i, He, Ie, ste, ne, we⟩
    rcases turn i n He we with ⟨stop, fin⟩ | ⟨go, Go, hGo, step⟩
    · refine thnF (T.done (X.blk sc Hc scope ce fp) rfl rfl rfl calm i [] se _ He (fun _ _ => False) Ie (still Ie ne) ste stop) fun r sf ⟨hr, If⟩ => ?_
      subst hr
      have Ig : Inv X pins σ He sf := Ic.call' (ch := fp) If.os If.base If.hok If.bare fun b hb => ⟨(fc b hb).1.2.2.2.1, (fc b hb).1.2.1, (fc b hb).1.2.2.2.2.1, (fc b hb).1.2.2.2.2.2⟩
      have nC : He C = none := by
        have z : He ce.locals = none := If.free
        rwa [locC] at z
      obtain ⟨m, hn, _⟩ := If.loc
      have hn : sf.heap.Ns ce.locals m := hn
      rw [locC] at hn
      exact post B C sf m He Ig fin hn (Ic.fpOk (Nat.le_of_eq eC) nC)
    · refine thnF (T.item (X.blk sc Hc scope ce fp) rfl rfl rfl calm i [] se _ He (fun _ _ => False) Ie (still Ie ne) ste go) fun r sf ⟨u, hr, hf⟩ => ?_
      subst hr
      refine thnF hf fun _ sg ⟨x, Hg, Ig, rg, yg, stg, ng⟩ => ?_
      have Ip := Ig.pinned (still Ig ng) (T.obj _ _ stg)
      refine thnF (pg.run _ sg _ Hg x u _ Ip rg (step x Hg yg)) fun _ sh ⟨σh, Hh, Ih, hwh, qh⟩ => ?_
      refine thnF (pt.run _ sh σh Hh _ Ih qh) fun b si ⟨Hi, Ii, qi⟩ => ?_
      have fin : ∀ {sz : Shared} {Hz : Hp}, Inv (X.blk sc Hc scope ce fp) ([] ++ pinsAt fp sg.heap) σh Hz sz → Go Hz → ∃ m, m < n ∧ ∃ i Hz, Inv (X.blk sc Hc scope ce fp) [] (L2.wipe σ (own.map (·.2))) Hz sz ∧ tn i sz.heap ∧ (∀ b ∈ fp, Hz b = none) ∧ W i m Hz := fun {sz Hz} Iz gz => by
        obtain ⟨m2, hm, w2⟩ := hGo Hz gz
        have held : ∀ b ∈ fp, ∀ o, sg.heap.get? b = some o → sz.heap.get? b = some o ∧ Hz b = none := fun b hb o eo =>
          have z := Iz.pin (b, o) (List.mem_append_right _ (List.mem_append_right _ (mem_pinsAt hb eo)))
          ⟨z.1, z.2.1⟩
        have len : (L2.wipe σ (own.map (·.2))).length = σh.length := by rw [← hwh, wipe_length]
        refine ⟨m2, hm, i + 1, Hz, (Iz.unpinned (pins := [])).weak len (fun j v ev => ?_), T.keep _ _ _ stg fun b hb o eo => (held b hb o eo).1, fun b hb => ?_, w2⟩
        · rw [← hwh] at ev
          exact (wipe_some ev).1
        · obtain ⟨o, eo, _⟩ := T.obj _ _ stg b hb
          exact (held b hb o eo).2
      cases b with
      | false =>
        simp only [Bool.false_eq_true, if_false] at qi ⊢
        exact fin Ii qi
      | true =>
        simp only [if_true] at qi ⊢
        refine thnF (pe.run _ si σh Hi _ Ii qi) fun z sj ⟨yv, Hj, Ij, rj, zz, U, k, ey, hB, room, gg⟩ => ?_
        subst ey
        obtain ⟨tk, ez⟩ := rj
        subst ez
        refine setR_add (setO_get (X := X.blk sc Hc scope ce fp) Ij hB) room fun hh sb2 new => ?_
        have he : ∃ u, hh.get? B = some u := by
          obtain ⟨o, _, _, _, ho, _⟩ := new
          exact ⟨o, ho⟩
        exact fin (Ij.write (e := B) (t' := sj.toks + 1) (by rw [hB]; trivial) (.inl rfl) (fun b u hb hu => (sb2.2 b hb).trans hu) he (setO_new new)) gg
  exact PpSet.codeAny_compStart_set loop (T.self X.A 0 _ _ _ std loop)
theorem pe_sci {elt tg iter : Expr} {ifs : List Expr} {scope : Scope} {own : List (Str × Nat)} {pos : Pos} {wi : TI} {g : TG} {tt : TT} {te : TE} (calm : X.calm = true) (nd : X.N.Nodup) (pi : PI X tg iter wi) (ok : BlkOk X.N X.env.scope scope own)
    (pgg : ∀ (s : Shared) (H : Hp) (C : Addr) (cl : List (Str × Addr)) (fp : List Addr), PG (X.blk s H scope (compEnvC scope cl C X.env) fp) tg g)
    (ptt : ∀ (s : Shared) (H : Hp) (C : Addr) (cl : List (Str × Addr)) (fp : List Addr), PTs (X.blk s H scope (compEnvC scope cl C X.env) fp) ifs tt)
    (pee : ∀ (s : Shared) (H : Hp) (C : Addr) (cl : List (Str × Addr)) (fp : List Addr), PE (X.blk s H scope (compEnvC scope cl C X.env) fp) elt te) (hset : ∀ x, foldedSetIterable iter X.env x = pure x) :
    PE X (.SetComp elt [⟨tg, iter, ifs, 0⟩] scope pos) (tSci X.w wi g tt te (own.map (·.2))) := by
  constructor
  intro pins s σ H Q I h
  rw [PpSet.eval_SetComp]
  refine sci_core calm nd I pi ok pgg ptt pee hset h fun B C sz m Hz Iz q hn f => ⟨m, hn, fun hh sb => ?_⟩
  obtain ⟨z0, z1, z2, z3, z4, z5⟩ := f
  exact ⟨.ref B, Hz, Iz.turned (t' := sz.toks) (fun b o hb e => (sb.2 b hb).trans e) z0 z1 z3 z4 z5, rfl, q⟩
/-- len of a set of whole numbers -/
theorem cr_lenI : CallR X (.builtin "len") (fun vs H Q => ∃ (a : Addr) (U : Int → Bool) (n : Nat), vs = [V.ref a] ∧ H a = some (SI X.w a U n) ∧ Q (.int n) H) := by
  intro pins s σ H vs us Q I r h
  obtain ⟨a, U, n, rfl, ha, q⟩ := h
  have R := setO_get I ha
  rw [Vals.ref1 r]
  obtain ⟨o, es, ep, t, ho, hex, hd, g, nd, hm, hb, hf, hn, _⟩ := R
  refine PySem.call_len_set ho hex hd hf (by have : scanBound = 4096 := rfl; omega) ?_
  exact ⟨.int n, H, I.tok _, ⟨_, by rw [hn]⟩, q⟩
end
/-! ### each once, rising -/
theorem mem_insU {x z : Int} : ∀ {l : List Int}, z ∈ insU x l ↔ z = x ∨ z ∈ l
  | [] => by simp [insU]
  | y :: l => by
    unfold insU
    split
    · simp
    · split
      · rename_i e; subst e; simp
      · rw [List.mem_cons, mem_insU, List.mem_cons]
        constructor
        · rintro (h | h | h)
          · exact .inr (.inl h)
          · exact .inl h
          · exact .inr (.inr h)
        · rintro (h | h | h)
          · exact .inr (.inl h)
          · exact .inl h
          · exact .inr (.inr h)
theorem insU_pw {x : Int} : ∀ {l : List Int}, l.Pairwise (· < ·) → (insU x l).Pairwise (· < ·)
  | [], _ => List.pairwise_singleton _ _
  | y :: l, h => by
    rw [List.pairwise_cons] at h
    unfold insU
    split
    · rename_i c
      rw [List.pairwise_cons, List.pairwise_cons]
      refine ⟨fun z hz => ?_, h⟩
      rcases List.mem_cons.mp hz with e | e
      · rw [e]; exact c
      · have := h.1 z e; omega
    · split
      · rw [List.pairwise_cons]; exact h
      · rename_i c1 c2
        rw [List.pairwise_cons]
        refine ⟨fun z hz => ?_, insU_pw h.2⟩
        rcases mem_insU.mp hz with e | e
        · rw [e]; omega
        · exact h.1 z e
theorem insU_len {x : Int} : ∀ {l : List Int}, l.Pairwise (· < ·) → (insU x l).length = if x ∈ l then l.length else l.length + 1
  | [], _ => rfl
  | y :: l, h => by
    rw [List.pairwise_cons] at h
    unfold insU
    split
    · rename_i c
      have : ¬ x ∈ y :: l := fun hm => by
        rcases List.mem_cons.mp hm with e | e
        · omega
        · have := h.1 x e; omega
      rw [if_neg this]; rfl
    · split
      · rename_i e
        rw [if_pos (by rw [e]; exact List.mem_cons_self)]
      · rename_i c1 c2
        rw [List.length_cons, insU_len h.2]
        by_cases c : x ∈ l
        · rw [if_pos c, if_pos (List.mem_cons_of_mem _ c)]; rfl
        · rw [if_neg c, if_neg (fun q => c ((List.mem_cons.mp q).resolve_left c2))]; rfl
theorem sortU_snoc (ns : List Int) (x : Int) : sortU (ns ++ [x]) = insU x (sortU ns) := by
  unfold sortU
  rw [List.foldl_append]; rfl
theorem sortU_pw (ns : List Int) : (sortU ns).Pairwise (· < ·) := by
  unfold sortU
  have : ∀ (ns l : List Int), l.Pairwise (· < ·) → (ns.foldl (fun l x => insU x l) l).Pairwise (· < ·) := by
    intro ns
    induction ns with
    | nil => exact fun l h => h
    | cons a ns ih => exact fun l h => ih _ (insU_pw h)
  exact this ns [] .nil
theorem mem_sortU {ns : List Int} {z : Int} : z ∈ sortU ns ↔ z ∈ ns := by
  unfold sortU
  have : ∀ (ns l : List Int), z ∈ ns.foldl (fun l x => insU x l) l ↔ z ∈ l ∨ z ∈ ns := by
    intro ns
    induction ns with
    | nil => intro l; simp
    | cons a ns ih =>
      intro l
      show z ∈ ns.foldl _ (insU a l) ↔ _
      rw [ih, mem_insU, List.mem_cons]
      constructor
      · rintro ((h | h) | h)
        · exact .inr (.inl h)
        · exact .inl h
        · exact .inr (.inr h)
      · rintro (h | h | h)
        · exact .inl (.inr h)
        · exact .inl (.inl h)
        · exact .inr h
  rw [this]; simp
theorem sortU_len (ns : List Int) (x : Int) : (sortU (ns ++ [x])).length = if x ∈ ns then (sortU ns).length else (sortU ns).length + 1 := by
  rw [sortU_snoc, insU_len (sortU_pw ns)]
  by_cases c : x ∈ ns
  · rw [if_pos c, if_pos (mem_sortU.mpr c)]
  · rw [if_neg c, if_neg fun q => c (mem_sortU.mp q)]
theorem ins_len_le {ms : List Int} : ∀ (ns : List Int), (sortU ms).length ≤ (sortU (ms ++ ns)).length
  | [] => by rw [List.append_nil]; exact Nat.le_refl _
  | n :: ns => by
    have h1 : ms ++ n :: ns = (ms ++ [n]) ++ ns := by rw [List.append_assoc]; rfl
    rw [h1]
    refine Nat.le_trans ?_ (ins_len_le (ms := ms ++ [n]) ns)
    rw [sortU_len]
    split <;> omega
theorem intsD_app : ∀ {as bs : List D} {ns : List Int}, intsD (as ++ bs) = .ok ns → ∃ p q, intsD as = .ok p ∧ intsD bs = .ok q ∧ ns = p ++ q
  | [], bs, ns, h => ⟨[], ns, rfl, h, rfl⟩
  | a :: as, bs, ns, h => by
    cases a with
    | int i =>
      have h : (intsD (as ++ bs)).map (i :: ·) = .ok ns := h
      obtain ⟨r, h1, h2⟩ := map_okI h
      obtain ⟨p, q, e1, e2, e3⟩ := intsD_app h1
      exact ⟨i :: p, q, by show (intsD as).map (i :: ·) = _; rw [e1]; rfl, e2, by rw [← h2, e3]; rfl⟩
    | _ => cases h
/-- an object that stands beside what is frozen -/
structure GrowO (G1 H1 : Hp) (Da : Addr) (o : HO) (G' H' : Hp) : Prop where
  st : Stp G1 H1 G' H'
  g : G' Da = none
  h : H' Da = some o
theorem GrowO.step {G1 H1 : Hp} {Da : Addr} {o : HO} {G2 H2 G3 H3 : Hp} (w : GrowO G1 H1 Da o G2 H2) (s : Stp G2 H2 G3 H3) : GrowO G1 H1 Da o G3 H3 := by
  refine ⟨w.st.trans s, ?_, s.hh Da _ w.h⟩
  cases z : G3 Da with
  | none => rfl
  | some o' =>
    have := s.nw Da o' z w.g
    rw [w.h] at this; cases this
theorem GrowO.put {G1 H1 : Hp} {Da : Addr} {o o2 : HO} {G2 H2 : Hp} (w : GrowO G1 H1 Da o G2 H2) (hD : H1 Da = none) : GrowO G1 H1 Da o2 G2 (L2.upd H2 Da o2) := by
  have ng : ∀ a o', G2 a = some o' → a ≠ Da := fun a o' z e => by rw [e, w.g] at z; cases z
  refine ⟨⟨fun a o' z => ?_, w.st.gg, fun a o' z => by rw [upd_ne (ng a o' z)]; exact w.st.gh a o' z, w.st.nw⟩, w.g, upd_same⟩
  have ne : a ≠ Da := fun e => by rw [e, hD] at z; cases z
  rw [upd_ne ne]
  exact w.st.hh a o' z
section
variable {X : Cx} {c : Cw}
theorem sciRead (hK : c.K = X.K) {own : List (Str × Nat)} {t : Tg} {ri : Env → Rs (List D)} {re : Env → Rs D} {ln : Bool} (ht : ∀ i ∈ t.slots, i ∈ own.map (·.2)) {σ : L2.St} {H : Hp} {Q Q2 : VK}
    (h : tE c (fun ρ => (ri ρ).bind fun its => ((gather (turnD t (fun _ => .ok true) re (own.map (·.2)) ρ) its).bind intsD).quiet.bind (sscD ln)) σ H Q)
    (hq : ∀ B G' H' ns, Same G' H' → H' B = some (SI X.w B (fun j => decide (j ∈ ns)) (sortU ns).length) → (sortU ns).length ≤ 63 → (∀ u G2 H2, Stp G' H' G2 H2 → Dp c.K G2 u (if ln = true then .int ((sortU ns).length : Nat) else .list ((sortU ns).map .int)) → Q u H2) → Q2 (.ref B) H') :
    tSci X.w (tI c ri) (tT c.calm t) (tBo c.calm fun _ => .ok true) (tE c.calm re) (own.map (·.2)) σ H Q2 := by
  obtain ⟨ρ, G, sg, e, p⟩ := h
  refine tG.first sg e p fun its J G1 H1 s1 e1 st wk p1 => ?_
  intro Da hD
  generalize hw : own.map (·.2) = vs at *
  generalize hf : turnD t (fun _ => Rs.ok true) re vs ρ = f at *
  cases q : gather f its with
  | ex x => exact absurd q (gather_nx its x)
  | no => rw [q] at p1; exact p1.elim
  | ok ds =>
    rw [q] at p1
    have p1 : PoG (Dp c.K) c σ G1 H1 ((intsD ds).quiet.bind (sscD ln)) Q := p1
    cases q2 : intsD ds with
    | ex x => rw [q2] at p1; exact p1.elim
    | no => rw [q2] at p1; exact p1.elim
    | ok ns =>
      rw [q2] at p1
      have p1 : PoG (Dp c.K) c σ G1 H1 (grd (Nat.ble (sortU ns).length 63) (.ok (if ln = true then .int ((sortU ns).length : Nat) else .list ((sortU ns).map .int)))) Q := p1
      by_cases g : Nat.ble (sortU ns).length 63 = true
      · rw [g] at p1
        have p2 : ∀ u G' H', Stp G1 H1 G' H' → Dp c.K G' u (if ln = true then .int ((sortU ns).length : Nat) else .list ((sortU ns).map .int)) → Q u H' := p1
        have g63 : (sortU ns).length ≤ 63 := by rwa [Nat.ble_eq] at g
        refine ⟨fun i m H => m = its.length - i ∧ i ≤ its.length ∧ ∃ G' pre ps, gather f (its.take i) = .ok pre ∧ intsD pre = .ok ps ∧ GrowO G1 H1 Da (SI X.w Da (fun j => decide (j ∈ ps)) (sortU ps).length) G' H,
          ⟨its.length, by simp, Nat.zero_le _, G1, [], [], rfl, rfl, ⟨Stp.beside s1 hD, s1.free hD, by rw [upd_same]; first | rfl | (congr 2; done) | (congr 2; funext j; simp)⟩⟩, fun i m H2 hW => ?_⟩
        obtain ⟨hm, hi2, G', pre, ps, hpre, hps, gw⟩ := hW
        by_cases hlt : i < its.length
        · refine .inr ⟨wk.go i H2 hlt (gw.st.gg.trans gw.st.gh), fun H' => ∃ G' pre ps, gather f (its.take (i + 1)) = .ok pre ∧ intsD pre = .ok ps ∧ GrowO G1 H1 Da (SI X.w Da (fun j => decide (j ∈ ps)) (sortU ps).length) G' H', fun H' hN' => ⟨its.length - (i + 1), by omega, rfl, by omega, hN'⟩, fun x H3 hy => ?_⟩
          obtain ⟨d, G3, ed, st3, hx⟩ := wk.yld i H2 x H3 G' hlt gw.st.gg gw.st.gh hy
          obtain ⟨sp1, sp2⟩ := take_split ed
          obtain ⟨pa, qa, ea, eb, ec⟩ := gather_app (f := f) (its.take i) ([d] ++ its.drop (i + 1)) ds (by rw [← sp1]; exact q)
          obtain ⟨pb, qb, ea2, eb2, ec2⟩ := gather_app (f := f) [d] (its.drop (i + 1)) qa eb
          obtain ⟨o, eo, eo2⟩ := gather_one ea2
          rw [hpre] at ea
          injection ea with ea
          subst ea
          have hnext : gather f (its.take (i + 1)) = .ok (pre ++ o.toList) := by rw [sp2]; exact gather_snoc eo _ _ hpre
          have gw3 := gw.step st3
          rw [← hf] at eo
          unfold turnD at eo
          obtain ⟨ρ1, h1, h2⟩ := bind_okI eo
          obtain ⟨bs, h3, h4⟩ := map_okI h1
          have h2 : (re ρ1).map some = .ok o := h2
          obtain ⟨y, h5, h6⟩ := map_okI h2
          subst h6
          -- the number
          obtain ⟨pp, qq, f1, f2, f3⟩ := intsD_app (as := pre) (bs := qa) (by rw [← ec]; exact q2)
          rw [hps] at f1
          injection f1 with f1
          subst f1
          obtain ⟨p3, q3, f4, f5, f6⟩ := intsD_app (as := [y]) (bs := qb) (by rw [ec2, eo2] at f2; exact f2)
          obtain ⟨z, ez⟩ : ∃ z, y = .int z := by cases y <;> first | exact ⟨_, rfl⟩ | cases f4
          subst ez
          have f4 : Rs.ok [z] = .ok p3 := f4
          injection f4 with f4
          subst f4
          have nps : intsD (pre ++ [.int z]) = .ok (ps ++ [z]) := by
            have : ∀ (l : List D) (ms : List Int), intsD l = .ok ms → intsD (l ++ [.int z]) = .ok (ms ++ [z]) := by
              intro l
              induction l with
              | nil => intro ms hm; cases hm; rfl
              | cons a l ih =>
                intro ms hm
                cases a with
                | int k =>
                  have hm : (intsD l).map (k :: ·) = .ok ms := hm
                  obtain ⟨r, r1, r2⟩ := map_okI hm
                  show (intsD (l ++ [.int z])).map (k :: ·) = _
                  rw [ih r r1, ← r2]; rfl
                | _ => cases hm
            exact this _ _ hps
          have le : (sortU (ps ++ [z])).length ≤ 63 := by
            have e0 : ns = (ps ++ [z]) ++ q3 := by rw [f3, f6, List.append_assoc]
            have e9 := ins_len_le (ms := ps ++ [z]) q3
            rw [← e0] at e9
            omega
          have E3 : EnvR c.kx G3 H3 (wipeE ρ vs) (wipe σ vs) := (e1.step gw3.st).wipe vs
          refine ⟨G3, d, st3.gh, hx, ?_⟩
          rw [h3]
          intro us hb
          have E4 : EnvR c.kx G3 H3 ρ1 (setAllV (wipe σ vs) us) := by
            rw [← h4]; exact E3.all hb
          refine ⟨by rw [wipe_setAll vs _ hb fun z hz => ht z.1 (bind_slots t d bs h3 z hz), wipe_twice], ⟨ρ1, G3, st3.gh, E4, ?_⟩⟩
          intro b' G4 H4 st4 eb'
          subst eb'
          rw [if_pos rfl]
          refine ⟨ρ1, G4, st4.gh, E4.step st4, ?_⟩
          rw [h5]
          intro u G5 H5 st5 hu
          have gw5 := (gw3.step st4).step st5
          have eu : u = .int z := by cases hu; rfl
          refine ⟨z, _, _, eu, gw5.h, ?_, G5, pre ++ [.int z], ps ++ [z], hnext, nps, ?_⟩
          · have : (sortU ps).length ≤ (sortU (ps ++ [z])).length := ins_len_le [z]
            have : scanBound = 4096 := rfl
            omega
          · have ge := gw5.put (o2 := SI X.w Da (fun j => decide (j ∈ ps ++ [z])) (sortU (ps ++ [z])).length) hD
            have e1 : (fun j => decide (j ∈ ps) || decide (j = z)) = fun j => decide (j ∈ ps ++ [z]) := by
              funext j
              rw [Bool.eq_iff_iff]
              simp
            have e2 : (if decide (z ∈ ps) = true then (sortU ps).length else (sortU ps).length + 1) = (sortU (ps ++ [z])).length := by
              rw [sortU_len]
              by_cases cz : z ∈ ps <;> simp [cz]
            rw [e1, e2]
            exact ge
        · have ei : i = its.length := by omega
          subst ei
          rw [List.take_length, q] at hpre
          injection hpre with hpre
          subst hpre
          rw [q2] at hps
          injection hps with hps
          subst hps
          exact .inl ⟨wk.stop H2 (gw.st.gg.trans gw.st.gh), hq Da G' H2 ns gw.st.gh gw.h g63 fun u G2 H2 s2 hu => p2 u G2 H2 (gw.st.trans s2) hu⟩
      · rw [Bool.eq_false_iff.mpr g] at p1; exact p1.elim
end
end Rf
set_option Elab.async false
set_option linter.all false
set_option maxRecDepth 100000
set_option maxHeartbeats 4000000
namespace Rf
open PySem PySem.Spec PyProof.Rows L2
/-! ### a, *b = .. -/
section
variable {prog : Program} {w : World} {A : Around} {E : Value → Shared → Prop} {s : Shared}
/-- a walk from its k-th item on -/
theorem walk_from {I : Addr} {fp wr : List Addr} {G : Array GenState → Array GenState → Prop} {n : Nat} {P : Nat → Value → Prop} {St : Nat → Shared → Prop} (W : WalksS prog w A I fp wr G n P St) (k : Nat) (hk : k ≤ n) :
    WalksS prog w A I fp wr G (n - k) (fun i => P (k + i)) (fun i => St (k + i)) where
  sub := W.sub
  grefl := W.grefl
  gtrans := W.gtrans
  frame := fun i => W.frame (k + i)
  item := fun i s Q E hi => W.item (k + i) s Q E (by omega)
  done := fun s Q E st => W.done s Q E (by rwa [show k + (n - k) = n by omega] at st)
  self := fun i => W.self (k + i)
/-- the first item, and a list of the others -/
theorem star_items {v : Value} {n : Nat} {P : Nat → Value → Prop} {St : Nat → Shared → Prop} {fp wr : List Addr} {T : String} {I : Addr} {s1 : Shared} {Q : List Value → Shared → Prop}
    (hTm : T = "str_ascii_iterator" ∨ T = "str_iterator" ∨ T = "list_iterator" ∨ T = "tuple_iterator")
    (it : ∀ (Q : Bool → Shared → Prop) (E : Value → Shared → Prop), Q false s → wpAny (model prog w) A (notIterableAtAll v) Q E s)
    (go : ∀ (Q : Value → Shared → Prop) (E : Value → Shared → Prop), Q (.ref I) s1 → wpAny (model prog w) A (pyIter v) Q E s)
    (W : WalksS prog w A.in1 I fp wr (fun a b => b = a) n P St) (hT : ∀ i s, St i s → s.TypeIs (.ref I) T) (hst : St 0 s1) (hfp : ∀ i s, St i s → ∀ b ∈ fp, b < s.heap.objs.size) (hI : I ∈ fp) (h0 : 0 < n) (hz : n ≤ sizeLine)
    (hQ : ∀ s2 x acc, Moved wr (fun a b => b = a) s1 s2 → P 0 x → ItemsOf (fun i => P (1 + i)) acc (n - 1) → Q [x, .ref s2.heap.objs.size] { s2 with heap := s2.heap.push { cls := .type "list", data := .seq acc } }) :
    wpAny (model prog w) A (unpackItems v 2 (some 1)) Q E s := by
  unfold unpackItems
  refine wpAny_bind (it _ _ ?_)
  rw [if_neg Bool.false_ne_true]
  refine wpAny_bind (wpAny_holding (go _ _ ?_))
  dsimp only
  refine wpAny_bind (wpAny_holding ?_)
  show wpAny _ _ (pyNext (.ref I) >>= _) _ _ _
  refine wpAny_bind ((WalksS.of_in1 W).item 0 s1 _ _ h0 hst fun x s2 hx st2 m2 => ?_)
  dsimp only
  refine wpAny_bind (wpAny_holding (wpAny_pure ?_))
  refine wpAny_pure ?_
  rw [if_neg (by simp)]
  refine wpAny_bind (wpAny_holding (wpAny_collect_iter hTm (walk_from W 1 h0) (fun i s => hT (1 + i) s) st2 (hfp 1 s2 st2) hI (fun s3 acc m3 io => ?_) (by omega)))
  · have ez : acc.size = n - 1 := io.1
    rw [if_neg (by simp)]
    rw [show acc.toList.take (acc.toList.length - (2 - 1 - 1)) = acc.toList from List.take_of_length_le (Nat.le_refl _), show acc.toList.drop (acc.toList.length - (2 - 1 - 1)) = [] by simp]
    refine wpAny_bind (wpAny_newList ?_ (by rw [Array.length_toList]; omega))
    refine wpAny_pure ?_
    exact hQ s3 x acc (m2.trans (fun _ _ _ h1 h2 => h2.trans h1) m3) hx io
theorem star_list {l : Addr} {items : Array Value} {Q : List Value → Shared → Prop} (hh : A.handled = none) (hl : s.heap.IsList l items) (h0 : 0 < items.size) (hz : items.size ≤ sizeLine)
    (hQ : ∀ s2 x acc, Moved [] (fun a b => b = a) s s2 → items[0]? = some x → acc.size = items.size - 1 → (∀ (j : Nat) v, acc[j]? = some v → items[1 + j]? = some v) → Q [x, .ref s2.heap.objs.size] { s2 with heap := s2.heap.push { cls := .type "list", data := .seq acc } }) :
    wpAny (model prog w) A (unpackItems (.ref l) 2 (some 1)) Q E s := by
  have hs : l < s.heap.objs.size := let ⟨_, ho, _⟩ := hl; Heap.lt_size ho
  have hI : (s.heap.push { cls := .type "list_iterator", data := .fields #[.ref l, .int 0 0] }).get? s.heap.objs.size = some { cls := .type "list_iterator", data := .fields #[.ref l, .int 0 0] } := Heap.get?_push_size _ rfl
  refine star_items (I := s.heap.objs.size) (s1 := { s with heap := s.heap.push { cls := .type "list_iterator", data := .fields #[.ref l, .int 0 0] } }) (T := "list_iterator") (.inr (.inr (.inl rfl))) (fun Q E q => ?_) (fun Q E q => wpAny_pyIter_list hl q)
    (Walks.list (A := A.in1) (by simpa using hh) s.heap.objs.size l (Nat.ne_of_lt hs) items).toS (fun i s st => ?_) ⟨⟨_, hI, rfl, rfl⟩, ?_⟩ (fun i s st b hb => ?_) (by simp) h0 hz fun s2 x acc m hx io => ?_
  · unfold notIterableAtAll
    exact wpAny_bind (wpAny_specialOf hl.typeIs slot_list_iter.lookup (wpAny_pure q))
  · exact st.1.typeIs
  · obtain ⟨o, ho, r⟩ := hl
    exact ⟨o, Heap.get?_push_of_some _ ho, r⟩
  · rcases List.mem_cons.mp hb with e | e
    · rw [e]
      obtain ⟨_, ho, _⟩ := st.1
      exact Heap.lt_size ho
    · rw [List.mem_singleton.mp e]
      obtain ⟨_, ho, _⟩ := st.2
      exact Heap.lt_size ho
  · refine hQ s2 x acc ⟨fun b o _ e => ?_, m.gens, m.drawn, m.os, m.toks⟩ hx io.1 io.2
    exact m.heap b o (by simpa using Nat.ne_of_lt (Heap.lt_size e)) (Heap.get?_push_of_some _ e)
theorem star_tuple {l : Addr} {items : Array Value} {Q : List Value → Shared → Prop} (hh : A.handled = none) (hl : s.heap.IsTuple l items) (h0 : 0 < items.size) (hz : items.size ≤ sizeLine)
    (hQ : ∀ s2 x acc, Moved [] (fun a b => b = a) s s2 → items[0]? = some x → acc.size = items.size - 1 → (∀ (j : Nat) v, acc[j]? = some v → items[1 + j]? = some v) → Q [x, .ref s2.heap.objs.size] { s2 with heap := s2.heap.push { cls := .type "list", data := .seq acc } }) :
    wpAny (model prog w) A (unpackItems (.ref l) 2 (some 1)) Q E s := by
  have hs : l < s.heap.objs.size := let ⟨_, ho, _⟩ := hl; Heap.lt_size ho
  have hI : (s.heap.push { cls := .type "tuple_iterator", data := .fields #[.ref l, .int 0 0] }).get? s.heap.objs.size = some { cls := .type "tuple_iterator", data := .fields #[.ref l, .int 0 0] } := Heap.get?_push_size _ rfl
  refine star_items (I := s.heap.objs.size) (s1 := { s with heap := s.heap.push { cls := .type "tuple_iterator", data := .fields #[.ref l, .int 0 0] } }) (T := "tuple_iterator") (.inr (.inr (.inr rfl))) (fun Q E q => ?_) (fun Q E q => wpAny_pyIter_tuple hl q)
    (Walks.tuple (A := A.in1) (by simpa using hh) s.heap.objs.size l (Nat.ne_of_lt hs) items).toS (fun i s st => ?_) ⟨⟨_, hI, rfl, rfl⟩, ?_⟩ (fun i s st b hb => ?_) (by simp) h0 hz fun s2 x acc m hx io => ?_
  · unfold notIterableAtAll
    exact wpAny_bind (wpAny_specialOf hl.typeIs F.slot_tuple_iter.lookup (wpAny_pure q))
  · exact st.1.typeIs
  · obtain ⟨o, ho, r⟩ := hl
    exact ⟨o, Heap.get?_push_of_some _ ho, r⟩
  · rcases List.mem_cons.mp hb with e | e
    · rw [e]
      obtain ⟨_, ho, _⟩ := st.1
      exact Heap.lt_size ho
    · rw [List.mem_singleton.mp e]
      obtain ⟨_, ho, _⟩ := st.2
      exact Heap.lt_size ho
  · refine hQ s2 x acc ⟨fun b o _ e => ?_, m.gens, m.drawn, m.os, m.toks⟩ hx io.1 io.2
    exact m.heap b o (by simpa using Nat.ne_of_lt (Heap.lt_size e)) (Heap.get?_push_of_some _ e)
end
section
variable {X : Cx}
/-- a, *b = a list or a tuple with an item -/
def gStar (K : PySem.W.Frag) (t : TGs) : TG := fun v σ H Q => ∃ a x xs, v = .ref a ∧ (SqL K H a (x :: xs) ∨ SqT K H a (x :: xs)) ∧ ∀ q, H q = none → t [x, .ref q] σ (L2.upd H q (.lst xs)) Q
theorem vals_tail {x : V} {xs : List V} {its : List Value} {acc : Array Value} (r : Vals (x :: xs) its) {y : Value} (h0 : its.toArray[0]? = some y) (hz : acc.size = its.toArray.size - 1) (ha : ∀ (j : Nat) v, acc[j]? = some v → its.toArray[1 + j]? = some v) : RelV x y ∧ Vals xs acc.toList := by
  cases r with
  | cons r rr =>
    rename_i u us
    have e0 : u = y := by simpa using h0
    subst e0
    refine ⟨r, ?_⟩
    have hz : acc.size = us.length := by simpa using hz
    have : acc.toList = us := by
      apply List.ext_getElem (by rw [Array.length_toList, hz])
      intro j j1 j2
      have j3 : j < acc.size := by simpa using j1
      have := ha j acc[j] (Array.getElem?_eq_getElem j3)
      rw [Nat.add_comm] at this
      have : us[j]? = some acc[j] := by simpa using this
      rw [List.getElem?_eq_getElem j2] at this
      rw [Array.getElem_toList]
      exact (Option.some.inj this).symm
    rw [this]; exact rr
theorem pg_star {x : Str} {px : Pos} {e : Expr} {sp : Pos} {k : Nat} {pos : Pos} {t : TGs} (hc : X.calm = true) (h : PGs X [.Name x px, e] t) (hp : plT e = true) : PG X (.Tuple [.Name x px, .Starred e sp] k pos) (gStar X.K t) := by
  refine ⟨fun pins s σ H v u Q I r hw => ?_⟩
  obtain ⟨a, x1, xs, e1, hq, hw⟩ := hw
  subst e1
  cases r
  have ea : assignEach [.Name x px, .Starred e sp] X.env = [(false, assign (.Name x px) X.env), (true, assign e X.env)] := rfl
  have eb : (assignEach [.Name x px, e] X.env).map (·.2) = [assign (.Name x px) X.env, assign e X.env] := by rw [asg_cons rfl, asg_cons hp]; rfl
  have fin : ∀ (its : List Value), Vals (x1 :: xs) its → its.length ≤ sizeLine → ∀ s2 (y : Value) (acc : Array Value), Moved [] (fun a b => b = a) s s2 → its.toArray[0]? = some y → acc.size = its.toArray.size - 1 → (∀ (j : Nat) v, acc[j]? = some v → its.toArray[1 + j]? = some v) →
      wpAny (model X.prog X.w) X.A (assignInOrder [assign (.Name x px) X.env, assign e X.env] [y, .ref s2.heap.objs.size]) (fun _ s' => ∃ σ' H', Inv X pins σ' H' s' ∧ Q σ' H') X.xe { s2 with heap := s2.heap.push { cls := .type "list", data := .seq acc } } := by
    intro its rv hz s2 y acc m h0 hs ha
    obtain ⟨r1, r2⟩ := vals_tail rv h0 hs ha
    obtain ⟨h2, g2, d2, t2, o2⟩ := s2
    have eg : g2 = s.gens := m.gens
    have ed : d2 = s.drawn := m.drawn
    have eo : o2 = s.os := m.os
    subst eg ed eo
    have I1 : Inv X pins σ H { s with heap := h2, toks := t2 } := I.kept (fun b o q => m.heap b o (by simp) q)
    have hn : H h2.objs.size = none := I1.hok.fresh (Nat.le_refl _)
    have I2 : Inv X pins σ (L2.upd H h2.objs.size (.lst xs)) { s with heap := h2.push { cls := .type "list", data := .seq acc }, toks := t2 } :=
      I1.laid (t' := t2) (fun b u q => Heap.get?_push_of_some _ q) (Nat.le_refl _) ⟨by
        have := rv.length
        simp at this
        omega, acc.toList, 0, r2, by
          show (h2.push { cls := .type "list", data := .seq acc }).get? h2.objs.size = _
          rw [Heap.get?_push_size _ rfl]⟩
    have := h.run pins _ σ _ [x1, .ref h2.objs.size] [y, .ref h2.objs.size] Q I2 (.cons r1 (.cons rfl .nil)) (hw _ hn)
    rw [eb] at this
    exact this
  rw [assign_Tuple]
  refine wpAny_bind (wpAny_standAt ?_)
  unfold unpack
  rw [ea]
  refine wpAny_bind (wpAny_holding ?_)
  show wpAny _ _ (unpackItems (.ref a) 2 (some 1)) _ _ _
  rcases hq with hq | hq
  · obtain ⟨its, rv, pl, hz⟩ := I.list hq
    have hl := rv.length
    refine star_list (I.ok.hd hc) pl.isList (by simp at hl; simp; omega) (by simpa [hl] using hz) (fin its rv (by rw [← hl]; exact hz))
  · obtain ⟨its, rv, ht, hz⟩ := I.tuple hq
    have hl := rv.length
    refine star_tuple (I.ok.hd hc) ht (by simp at hl; simp; omega) (by simpa [hl] using hz) (fin its rv (by rw [← hl]; exact hz))
end
end Rf
set_option Elab.async false
set_option linter.all false
set_option maxRecDepth 100000
set_option maxHeartbeats 4000000
namespace Rf
open PySem PySem.Spec PyProof.Rows L2
/-! ### set(xs) of a list of whole numbers, told with its order -/
section
variable {P : Program} {w : World} {A : Around} {E : Value → Shared → Prop} {s : Shared}
abbrev newSet0 (w : World) : Obj := { cls := .type "set", dict := none, data := .set #[] 0 (.fresh 0 0 (!w.params.followText "set-order")) }
/-- the set's own filling -/
theorem fill_list {l : Addr} {us : Array Value} (ns : List Int) {B : Around} {s0 : Shared} {R : Result → Shared → Prop} (hh : B.handled = none) (hl : s0.heap.IsList l us) (hi : IntsAre us.toList ns) (hb : ns.length + 1 < scanBound)
    (hR : ∀ h' tk c, SetR w h' s0.heap.objs.size (fun j => decide (j ∈ ns)) c → c ≤ ns.length → (∀ b o, s0.heap.get? b = some o → h'.get? b = some o) → R (.ok (.ret .none)) { s0 with heap := h', toks := tk }) :
    codeAny (model P w) B (.builtin "set.update.loop" ⟨[.ref s0.heap.objs.size, .ref (s0.heap.objs.size + 1)], []⟩) R { s0 with heap := (s0.heap.push (newSet0 w)).push { cls := .type "list_iterator", data := .fields #[.ref l, .int 0 0] } } := by
  have ez : us.size = ns.length := (Array.length_toList (xs := us)).symm.trans hi.length
  have l0 : l < s0.heap.objs.size := let ⟨_, ho, _⟩ := hl; Heap.lt_size ho
  have e1 : (s0.heap.push (newSet0 w)).objs.size = s0.heap.objs.size + 1 := Heap.size_push ..
  have at_ : ∀ (i : Nat) (v : Value), us[i]? = some v → ∃ k t, ns[i]? = some k ∧ v = .int k t := by
    intro i v hv
    have hi2 : i < ns.length := by rw [← ez]; exact (Array.getElem?_eq_some_iff.mp hv).1
    obtain ⟨t, e⟩ := IntsAre.int_at hi i v (by rw [Array.getElem?_toList]; exact hv)
    exact ⟨_, t, List.getElem?_eq_getElem hi2, by rw [e, List.getD_eq_getElem?_getD, List.getElem?_eq_getElem hi2]; rfl⟩
  have g0 : (s0.heap.push (newSet0 w)).get? s0.heap.objs.size = some (newSet0 w) := Heap.get?_push_size _ rfl
  have hl1 : (s0.heap.push (newSet0 w)).IsList l us := by
    obtain ⟨o, ho, r⟩ := hl
    exact ⟨o, Heap.get?_push_of_some _ ho, r⟩
  have hI : ((s0.heap.push (newSet0 w)).push { cls := .type "list_iterator", data := .fields #[.ref l, .int 0 0] }).get? (s0.heap.objs.size + 1) = some { cls := .type "list_iterator", data := .fields #[.ref l, .int 0 0] } := by
    rw [← e1]; exact Heap.get?_push_size _ rfl
  refine set_update_ints (St := fun i s => s.heap.IsListIter (s0.heap.objs.size + 1) l i ∧ s.heap.IsList l us) (Pv := fun i v => us[i]? = some v) (n := us.size) (Walks.list (A := B.in1) (by simpa using hh) (s0.heap.objs.size + 1) l (Nat.ne_of_lt (Nat.lt_succ_of_lt l0)) us).toS s0.heap.objs.size (fun z => by
    rcases List.mem_cons.mp z with e | e
    · exact Nat.ne_of_lt (Nat.lt_succ_self _) e
    · exact Nat.ne_of_gt l0 (List.mem_singleton.mp e)) ns ez hb at_ us.size 0 _ (by omega) (Nat.zero_le _) ⟨⟨_, hI, rfl, rfl⟩, ?_⟩ ⟨0, Nat.le_refl _, setR_new_at (ns := ns) (Heap.get?_push_of_some _ g0)⟩ fun s2 c m hc q => ?_
  · obtain ⟨o, ho, r⟩ := hl1
    exact ⟨o, Heap.get?_push_of_some _ ho, r⟩
  · obtain ⟨h2, g2, d2, t2, o2⟩ := s2
    have eg : g2 = s0.gens := m.gens
    have ed : d2 = s0.drawn := m.drawn
    have eo : o2 = s0.os := m.os
    subst eg ed eo
    refine hR h2 t2 c q (by omega) fun b o e => m.heap b o ?_ (Heap.get?_push_of_some _ (Heap.get?_push_of_some _ e))
    have q := Heap.lt_size e
    intro z
    rcases List.mem_cons.mp z with e | e
    · exact Nat.ne_of_lt q e
    · exact Nat.ne_of_lt (Nat.lt_succ_of_lt q) (List.mem_singleton.mp e)
theorem set_of_list {l : Addr} {us : Array Value} (ns : List Int) {Q : Value → Shared → Prop} (hh : A.handled = none) (hl : s.heap.IsList l us) (hi : IntsAre us.toList ns) (hb : ns.length + 1 < scanBound)
    (h : ∀ (h' : Heap) (tk c : Nat), SetR w h' s.heap.objs.size (fun j => decide (j ∈ ns)) c → c ≤ ns.length → (∀ b o, s.heap.get? b = some o → h'.get? b = some o) → Q (.ref s.heap.objs.size) { s with heap := h', toks := tk }) :
    wpAny (model P w) A (call (.type "set") [.ref l]) Q E s := by
  have f1 := PySem.F.called_set.mro
  obtain ⟨c0, tl0, f1⟩ := f1
  have f2 := PySem.F.called_set.made
  have f3 := PySem.F.called_set.sub
  have f4 := PySem.F.called_set.notType
  have f5 := PySem.F.called_set.canCreate
  have f6 := PySem.F.typeCall_set_1 (.ref l)
  apply wpAny_call
  apply codeAny_of_tree
  show wpAny _ _ (callAny (.type "set") _) _ _ _
  apply wpAny_pure
  refine ⟨Code.quiet_builtin _ (by decide +kernel), ?_⟩
  apply codeAny_builtin PySem.F.entry_type_call
  rw [Around.under_plain (weight_type_call_type "set" [.ref l] []) rfl]
  repeat (any_goals (first | assumption | wp_step))
  refine codeAny_mono (code_set_led1 (.ref l) (E := E) (Q₁ := fun v s1 => v = .ref s.heap.objs.size ∧ s1 = { s with heap := s.heap.push (newSet0 w) }) ⟨rfl, rfl⟩) fun r s1 hr => ?_
  match r, hr with
  | .error _, hr => exact hr
  | .ok (.ret v), hr =>
    obtain ⟨e1, e2⟩ := hr
    subst e1
    subst e2
    have g0 : (s.heap.push (newSet0 w)).get? s.heap.objs.size = some (newSet0 w) := Heap.get?_push_size _ rfl
    have ty : Shared.TypeIs { s with heap := s.heap.push (newSet0 w) } (.ref s.heap.objs.size) "set" := ⟨_, g0, rfl⟩
    have i1 := PySem.F.called_set.init.lookup
    have i2 := PySem.F.called_set.init.bind (.ref s.heap.objs.size)
    repeat (any_goals (first | assumption | wp_step))
    refine codeAny_mono (codeAny_call_builtin (R := wants (fun v s2 => v = .none ∧ ∃ h' tk c, s2 = { s with heap := h', toks := tk } ∧ (SetR w h' s.heap.objs.size (fun j => decide (j ∈ ns)) c ∧ c ≤ ns.length) ∧ ∀ b o, s.heap.get? b = some o → h'.get? b = some o) E) PySem.F.called_set.init.plain PySem.F.entry_set_init (check_set_init_1 ty ?_)) fun r2 s2 hr2 => ?_
    · have hl1 : (s.heap.push (newSet0 w)).IsList l us := by
        obtain ⟨o, ho, r⟩ := hl
        exact ⟨o, Heap.get?_push_of_some _ ho, r⟩
      have hd := hl1
      obtain ⟨⟨lc, ld, lx, ls⟩, hol', q1, q2, q3⟩ := hd
      simp only at q1 q3
      subst q1; subst q3
      have t1 := PySem.F.sub_list_set
      have t2 := PySem.F.sub_list_frozenset
      have t3 : (Value.type "list" == Value.type "dict") = false := by decide
      unfold Builtin.«set.__init__» noKeywords Builtin.Frozenset.updateFrom
      generalize hPI : pyIter = PI
      wp_walk
      subst hPI
      refine wpAny_pyIter_list hl1 (wpAny_bind (wpAny_runValue ?_))
      have e1 : (s.heap.push (newSet0 w)).objs.size = s.heap.objs.size + 1 := Heap.size_push ..
      rw [e1]
      refine fill_list ns (by simpa using hh) hl hi hb fun h' tk c q hc k => ?_
      show wpAny _ _ _ _ _ _
      refine wpAny_pure ?_
      show wpAny _ _ (ret Value.none) _ _ _
      exact wpAny_pure ⟨rfl, h', tk, c, rfl, ⟨q, hc⟩, k⟩
    · match r2, hr2 with
      | .error _, hr2 => exact hr2
      | .ok (.ret v), hr2 =>
        obtain ⟨e1, h', tk, c, e2, ⟨q, hc⟩, k⟩ := hr2
        subst e1
        subst e2
        repeat (any_goals (first | assumption | wp_step))
        exact h _ _ _ q hc k
end
section
variable {X : Cx} {c : Cw}
/-- set(xs), xs a list of fewer than 64 whole numbers -/
def rSetLI (K : PySem.W.Frag) (w : World) : List V → Hp → VK → Prop := fun vs H Q => ∃ (l : Addr) (ns : List Int), vs = [V.ref l] ∧ SqL K H l (ns.map V.int) ∧ ns.length < 64 ∧ ∀ a k, H a = none → k ≤ ns.length → Q (.ref a) (L2.upd H a (L2.SetO w a (fun j => decide (j ∈ ns)) k))
theorem cr_setLI (hc : X.calm = true) : CallR X (.type "set") (rSetLI X.K X.w) := by
  intro pins s σ H vs us Q I r h
  obtain ⟨l, ns, rfl, hl, hz, q⟩ := h
  rw [Vals.ref1 r]
  obtain ⟨its, rv, pl, _⟩ := I.list hl
  have hi := ints_of_vals rv
  refine set_of_list (P := X.prog) (w := X.w) ns (I.ok.hd hc) pl.isList (by simpa using hi) (by have : scanBound = 4096 := rfl; omega) fun h' tk k R hk kp => ?_
  exact ⟨.ref s.heap.objs.size, _, I.laid (t' := tk) kp (Nat.le_refl _) (setO_new R), rfl, q _ k (I.hok.fresh (Nat.le_refl _)) hk⟩
theorem dpInts (K : PySem.W.Frag) (G : Hp) : ∀ l : List Int, DpAll K G (l.map V.int) (l.map PyData.int)
  | [] => .nil
  | a :: l => .cons (.int a) (dpInts K G l)
theorem pE_sst (hK : c.K = X.K) (hc : X.calm = true) {e : Expr} {r : Env → Rs D} {yp zp p1 p2 : Pos} (g1 : Gl X "sorted") (g2 : Gl X "set") (m1 : X.mg "sorted" = none) (m2 : X.mg "set" = none) (hp : plE e = true) (he : PE X e (tE c r)) :
    PE X (.Call (.Name "sorted" yp) [.Call (.Name "set" zp) [e] [] p1] [] p2) (tE c fun ρ => (r ρ).bind sstD) := by
  refine PE.mono (pe_callB (cr_sortedSet hc) g1 m1 (by decide +kernel : bootBuiltins ("sorted" : Str) = some (.builtin "sorted")) (pa_cons (pe_callTy (cr_setLI hc) g2 m2 PyProof.Rows.boot_set (pa_cons he pa_nil (starB hp)) (by decide) (by decide) (starB hp)) pa_nil)) fun σ H Q ⟨ρ, G, sg, en, p⟩ => ?_
  show tE c r σ H _
  refine tG.first sg en p fun d u G1 H1 s1 e1 st rd p1 => ?_
  match d, rd, p1 with
  | .list ds, .lst q rr, p1 =>
    have p1 : PoG (Dp c.K) c σ G1 H1 ((intsD ds).bind fun ns => grd (Nat.ble ns.length 63) (.ok (.list ((sortU ns).map .int)))) Q := p1
    cases e3 : intsD ds with
    | ok ns =>
      rw [e3] at p1
      have p1 : PoG (Dp c.K) c σ G1 H1 (grd (Nat.ble ns.length 63) (.ok (.list ((sortU ns).map .int)))) Q := p1
      by_cases g : Nat.ble ns.length 63 = true
      · rw [g] at p1
        have g63 : ns.length ≤ 63 := by rwa [Nat.ble_eq] at g
        have p2 : ∀ u G' H', Stp G1 H1 G' H' → Dp c.K G' u (.list ((sortU ns).map .int)) → Q u H' := p1
        have ev := DpAll_ints rr e3
        subst ev
        rw [hK] at q
        refine ⟨_, ns, rfl, s1.seq q, by omega, fun a k ha hk => ?_⟩
        show L2.rSortedSet _ _ _ _
        have b := Stp.beside (o := L2.SetO X.w a (fun j => decide (j ∈ ns)) k) s1 ha
        refine ⟨a, _, k, rfl, upd_same, by omega, fun ms p pw hm hlen hp => ?_⟩
        have em : ms = sortU ns := by
          have pp := sortU_pw ns
          refine List.Perm.eq_of_pairwise (le := fun a b : Int => a ≤ b) (fun a b _ _ h1 h2 => by omega) (pw.imp fun h => by omega) (pp.imp fun h => by omega) ?_
          refine (List.perm_ext_iff_of_nodup (pw.imp fun h => by omega) (pp.imp fun h => by omega)).mpr fun z => ?_
          rw [hm z, mem_sortU]; simp
        subst em
        exact p2 _ (L2.upd G1 p (.lst ((sortU ns).map V.int))) _ (b.trans (Stp.new b.gh hp)) (.lst (SqL.of upd_same) (dpInts _ _ _))
      · rw [Bool.eq_false_iff.mpr g] at p1; exact p1.elim
    | ex e => rw [e3] at p1; exact absurd e3 (by
        have : ∀ ds, intsD ds ≠ .ex e := by
          intro ds
          induction ds with
          | nil => intro z; cases z
          | cons a l ih =>
            cases a with
            | int i =>
              intro z
              have z : (intsD l).map (i :: ·) = .ex e := z
              cases q : intsD l <;> rw [q] at z <;> cases z
              exact ih q
            | _ => intro z; cases z
        exact this ds)
    | no => rw [e3] at p1; exact p1.elim
  | .none, _, p1 => exact p1.elim
  | .bool _, _, p1 => exact p1.elim
  | .int _, _, p1 => exact p1.elim
  | .str _, _, p1 => exact p1.elim
  | .tuple _, _, p1 => exact p1.elim
  | .dict _, _, p1 => exact p1.elim
end
end Rf
set_option Elab.async false
set_option linter.all false
set_option maxRecDepth 100000
set_option maxHeartbeats 8000000
namespace Rf
open PySem PySem.Spec PyProof.Rows L2
theorem hotF {b : Bool} (h : (!b) = true) : b = false := by cases b <;> first | rfl | cases h
theorem and2 {a b : Bool} (h : (a && b) = true) : a = true ∧ b = true := by
  rw [Bool.and_eq_true] at h
  exact h
theorem Okx.bl {T : Tb} {c : Cw} {k : Nat} {hot : Bool} {X : Cx} (ok : Okx T c k hot X) {x : Str} (h : x ∈ bnames) : X.mg x = none := ok.tb.blt x h
theorem locL {sc : Scope} {x : Str} (h : locB sc x = true) : sc.names.lookup x = some .local := by
  unfold locB at h
  split at h
  · assumption
  · cases h
theorem Okx.blk {T : Tb} {c : Cw} {k : Nat} {X : Cx} (ok : Okx T c k false X) (s : Shared) (H : Hp) (scope : Scope) (C : Addr) (cl : List (Str × Addr)) (fp : List Addr) : Okx T c.calm k false (X.blk s H scope (compEnvC scope cl C X.env) fp) :=
  ⟨ok.hK, ok.nd, takes0, ok.rm, ok.cm, ok.hu, (fun _ _ _ h => nomatch h), ok.tb⟩
theorem lcL {X : Cx} {fn : Str → Bool} {x : Str} (hfn : ∀ x, fn x = true → X.fn x = true) (h : lcB X.env.scope fn x = true) : Loc X.env.scope x ∧ (X.fn x = true ∨ X.env.scope.names.lookup x = some .local) := by
  unfold lcB at h
  split at h
  · rename_i q; exact ⟨.inl q, .inr q⟩
  · rename_i q; exact ⟨.inr q, .inl (hfn x h)⟩
  · cases h
theorem Tg.sound {X : Cx} {c : Cw} (hK : c.K = X.K) (nd : X.N.Nodup) (cm : X.calm = true) (fn : Str → Bool) (hfn : ∀ x, fn x = true → X.fn x = true) : ∀ (t : Tg) (x : Expr), t.chk X.N X.env.scope fn x = true → PG X x (tT c t)
  | .nm i, x, h => by
    unfold Tg.chk at h
    split at h
    · obtain ⟨h1, h2⟩ := and2 h
      exact pG_nm hK nd (of_decide_eq_true h1) (lcL hfn h2).1 (lcL hfn h2).2
    · cases h
  | .t2 a b, x, h => by
    unfold Tg.chk at h
    split at h
    · obtain ⟨h, h4⟩ := and2 h
      obtain ⟨h, h3⟩ := and2 h
      obtain ⟨h1, h2⟩ := and2 h
      exact pG_t2 hK cm h1 h2 (Tg.sound hK nd cm fn hfn a _ h3) (Tg.sound hK nd cm fn hfn b _ h4)
    · cases h
  | .t3 a b b3, x, h => by
    unfold Tg.chk at h
    split at h
    · obtain ⟨h, h6⟩ := and2 h
      obtain ⟨h, h5⟩ := and2 h
      obtain ⟨h, h4⟩ := and2 h
      obtain ⟨h, h3⟩ := and2 h
      obtain ⟨h1, h2⟩ := and2 h
      exact pG_t3 hK cm h1 h2 h3 (Tg.sound hK nd cm fn hfn a _ h4) (Tg.sound hK nd cm fn hfn b _ h5) (Tg.sound hK nd cm fn hfn b3 _ h6)
    · cases h
theorem plL {T : Tb} {hot : Bool} : ∀ (es : Es) (N : List Str) (sc : Scope) (xs : List Expr), es.chk T hot N sc xs = true → xs.all plE = true ∧ xs.length = es.len
  | .nil, N, sc, xs, h => by
    unfold Es.chk at h
    split at h
    · exact ⟨rfl, rfl⟩
    · cases h
  | .cons e es, N, sc, xs, h => by
    unfold Es.chk at h
    split at h
    · obtain ⟨h, h3⟩ := and2 h
      obtain ⟨h1, h2⟩ := and2 h
      obtain ⟨i1, i2⟩ := plL es N sc _ h3
      exact ⟨by rw [List.all_cons, h1, i1]; rfl, by rw [List.length_cons, i2]; rfl⟩
    · cases h
/-- a comprehension's parts, and what its reading comes to -/
def LcP1 (X : Cx) (c : Cw) (x : Expr) (r : Env → Rs D) : Prop := ∃ (elt tg iter : Expr) (ifs : List Expr) (scope : Scope) (pos : Pos) (own : List (Str × Nat)) (wi : TI) (g : TG) (tt : TT) (te : TE), x = .ListComp elt [⟨tg, iter, ifs, 0⟩] scope pos ∧ X.calm = true ∧ PI X tg iter wi ∧ BlkOk X.N X.env.scope scope own ∧
  (∀ (s : Shared) (H : Hp) (C : Addr) (cl : List (Str × Addr)) (fp : List Addr), PG (X.blk s H scope (compEnvC scope cl C X.env) fp) tg g) ∧ (∀ (s : Shared) (H : Hp) (C : Addr) (cl : List (Str × Addr)) (fp : List Addr), PTs (X.blk s H scope (compEnvC scope cl C X.env) fp) ifs tt) ∧
  (∀ (s : Shared) (H : Hp) (C : Addr) (cl : List (Str × Addr)) (fp : List Addr), PE (X.blk s H scope (compEnvC scope cl C X.env) fp) elt te) ∧ (∀ x, foldedSetIterable iter X.env x = pure x) ∧ ∀ σ H Q, tE c r σ H Q → tLc wi g tt te (own.map (·.2)) σ H Q
theorem LcP1.e {X : Cx} {c : Cw} {x : Expr} {r : Env → Rs D} (nd : X.N.Nodup) (h : LcP1 X c x r) : PE X x (tE c r) := by
  obtain ⟨elt, tg, iter, ifs, scope, pos, own, wi, g, tt, te, e, hc, hi, ok, hg, ht, he, hs, hr⟩ := h
  subst e
  exact PE.mono (pe_lc hc nd hi ok hg ht he hs) hr
/-- a comprehension, as a value, and laid straight into a name -/
structure LcP (X : Cx) (c : Cw) (x : Expr) (r : Env → Rs D) : Prop where
  f : ∃ elt gens scope pos, x = .ListComp elt gens scope pos
  e : X.N.Nodup → PE X x (tE c r)
  a : X.N.Nodup → ∀ (i : Nat) (y : Str) (py spos : Pos), X.N[i]? = some y → X.env.scope.names.lookup y = some .local → swapsWith x (some (.Name y py)) spos.line X.env = pure true → PS X (.Assign [.Name y py] x spos) (tAsg (tE c r) (gName i))
theorem tAsg.mono {te te' : TE} {g : TG} (h : ∀ σ H Q, te' σ H Q → te σ H Q) : ∀ D σ H, tAsg te' g D σ H → tAsg te g D σ H := fun D σ H q => h σ H _ q
theorem LcP1.up {X : Cx} {c : Cw} {x : Expr} {r : Env → Rs D} (h : LcP1 X c x r) : LcP X c x r := by
  have h2 := h
  obtain ⟨elt, tg, iter, ifs, scope, pos, own, wi, g, tt, te, e, hc, hi, ok, hg, ht, he, hs, hr⟩ := h
  subst e
  exact ⟨⟨_, _, _, _, rfl⟩, fun nd => h2.e nd, fun nd i y py spos h1 s1 hsw => ⟨fun pins s σ H D I q => (ps_setLc hc nd h1 s1 hsw hi ok hg ht he hs).run pins s σ H D I (tAsg.mono hr _ _ _ q)⟩⟩
/-- what is shown of an expression -/
structure Snd (X : Cx) (c : Cw) (x : Expr) (r : Env → Rs D) : Prop where
  e : PE X x (tE c r)
  t : PT X x (tTs c r)
  w : ∀ op vs pos, x = .BoolOp op vs pos → PW X x (tTs c r)
  l : ∀ a b d f, x = .ListComp a b d f → LcP X c x r
theorem Snd.val {X : Cx} {c : Cw} {x : Expr} {r : Env → Rs D} (h : PE X x (tE c r)) (he : ∀ whole, isTrue x X.env whole = (do let v ← whole; standAt x.pos; holding [v] (truthy v))) (hb : ∀ op vs pos, x ≠ .BoolOp op vs pos) (hl : ∀ a b d f, x ≠ .ListComp a b d f := by intro _ _ _ _ q; cases q) : Snd X c x r :=
  ⟨h, Rf.PT.of_v (pt_val h he), fun op vs pos e => absurd e (hb op vs pos), fun a b d f e => absurd e (hl a b d f)⟩
theorem pT_ite {X : Cx} {c : Cw} {t a b : Expr} {rt ra rb : Env → Rs D} {pos : Pos} (ht : PT X t (tTs c rt)) (ha : PT X a (tTs c ra)) (hb : PT X b (tTs c rb)) : PT X (.IfExp t a b pos) (tTs c fun ρ => (rt ρ).bind fun x => (asB x).bind fun k => if k = true then ra ρ else rb ρ) := by
  constructor
  intro pins s σ H Q I ⟨ρ, G, sg, e, p⟩
  have e2 : (((rt ρ).bind fun x => (asB x).bind fun k => if k = true then ra ρ else rb ρ).bind asB) = ((rt ρ).bind asB).bind fun k => if k = true then (ra ρ).bind asB else (rb ρ).bind asB := by
    cases rt ρ with
    | ok d =>
      cases d with
      | bool b => cases b <;> rfl
      | _ => rfl
    | ex e => rfl
    | no => rfl
  dsimp only at p
  rw [e2] at p
  refine PyProof.Rows.isTrue_IfExp ?_
  refine thn (ht.run pins s σ H (fun k H1 => ∃ G1, Same G1 H1 ∧ EnvR c.kx G1 H1 ρ σ ∧ PoG (fun _ b b' => b' = b) c σ G1 H1 (if k = true then (ra ρ).bind asB else (rb ρ).bind asB) Q) I ?_) fun k s1 ⟨H1, I1, G1, s1', e1, p1⟩ => ?_
  · refine tG.first (r := fun ρ => (rt ρ).bind asB) sg e p fun k u G1 H1 s1 e1 st rd p1 => ?_
    subst rd
    exact ⟨G1, s1, e1, p1⟩
  · cases k with
    | true => rw [if_pos rfl] at p1 ⊢; exact ha.run pins s1 σ H1 Q I1 ⟨ρ, G1, s1', e1, p1⟩
    | false => rw [if_neg Bool.false_ne_true] at p1 ⊢; exact hb.run pins s1 σ H1 Q I1 ⟨ρ, G1, s1', e1, p1⟩
theorem constS {X : Cx} {c : Cw} {d : D} {k : Const} {j : Nat} {pos : Pos} (h : cstB d k = true) : PE X (.Constant k j pos) (tE c fun _ => .ok d) := by
  unfold cstB at h
  split at h
  · exact PE.mono pe_non fun σ H Q ⟨ρ, G, sg, e, p⟩ => p _ G H (Stp.refl sg) .non
  · rw [← of_decide_eq_true h]; exact PE.mono pe_bl fun σ H Q ⟨ρ, G, sg, e, p⟩ => p _ G H (Stp.refl sg) (.bl _)
  · rw [← of_decide_eq_true h]; exact PE.mono pe_int fun σ H Q ⟨ρ, G, sg, e, p⟩ => p _ G H (Stp.refl sg) (.int _)
  · rw [← of_decide_eq_true h]; exact PE.mono pe_str fun σ H Q ⟨ρ, G, sg, e, p⟩ => p _ G H (Stp.refl sg) (.str _)
  · cases h
theorem ptsS {T : Tb} {X : Cx} {c : Cw} : ∀ (cs : Es) (ifs : List Expr), cs.len ≤ 1 → (∀ e x, cs = .cons e .nil → ifs = [x] → PT X x (tTs c (e.ev T))) → ifs.length = cs.len → PTs X ifs (tBo c fun ρ => (cs.ev T ρ).bind tst)
  | .nil, [], _, _, _ => by
    constructor
    intro pins s σ H Q I ⟨ρ, G, sg, e, p⟩
    exact pts_nil.run pins s σ H Q I (p true G H (Stp.refl sg) rfl)
  | .cons e .nil, [x], _, h, _ => by
    have h1 := h e x rfl rfl
    constructor
    intro pins s σ H Q I ⟨ρ, G, sg, en, p⟩
    refine (pts_one h1).run pins s σ H Q I ⟨ρ, G, sg, en, ?_⟩
    have e2 : ((Es.cons e .nil).ev T ρ).bind tst = (e.ev T ρ).bind asB := by
      show ((e.ev T ρ).bind fun x => Rs.ok [x]).bind tst = _
      cases e.ev T ρ with
      | ok d => cases d <;> rfl
      | ex y => rfl
      | no => rfl
    dsimp only at p
    rw [e2] at p
    exact p
  | .cons e (.cons f g), _, h, _, _ => by
    exact absurd h (by show ¬ (g.len + 1 + 1 ≤ 1); omega)
  | .nil, _ :: _, _, _, h => by cases h
  | .cons e .nil, [], _, _, h => by cases h
  | .cons e .nil, _ :: _ :: _, _, _, h => by cases h
theorem seq1 {T : Tb} {hot : Bool} : ∀ (is : Es) (N : List Str) (sc : Scope) (x : Expr), is.chk T hot N sc [x] = true → ∃ a, is = .cons a .nil
  | .nil, N, sc, x, h => by cases h
  | .cons a .nil, N, sc, x, h => ⟨a, rfl⟩
  | .cons a (.cons b d), N, sc, x, h => by
    unfold Es.chk at h
    have h2 := (and2 h).2
    unfold Es.chk at h2
    cases h2
theorem rngI {T : Tb} {hot : Bool} {is : Es} {N : List Str} {sc : Scope} {iter : Expr} (h : (match iter with | .Call (.Name y _) (l :: ls) [] _ => decide (y = ("range" : Str)) && glB sc y && decide (is.len ≤ 3) && is.chk T hot N sc (l :: ls) | _ => false) = true) :
    ∃ p l ls pos, iter = .Call (.Name "range" p) (l :: ls) [] pos ∧ glB sc "range" = true ∧ is.len ≤ 3 ∧ is.chk T hot N sc (l :: ls) = true := by
  split at h
  · obtain ⟨h, h4⟩ := and2 h
    obtain ⟨h, h3⟩ := and2 h
    obtain ⟨h1, h2⟩ := and2 h
    have e := of_decide_eq_true h1
    subst e
    exact ⟨_, _, _, _, rfl, h2, of_decide_eq_true h3, h4⟩
  · cases h
def oneEv (T : Tb) : Es → Env → Rs D
  | .cons a .nil => a.ev T
  | _ => fun _ => .no
theorem oneEv_eq (T : Tb) (a : E) (ρ : Env) : (Es.cons a .nil).ev T ρ = (oneEv T (.cons a .nil) ρ).map fun d => [d] := by
  show ((a.ev T ρ).bind fun x => Rs.ok [x]) = (a.ev T ρ).map fun d => [d]
  cases a.ev T ρ <;> rfl
mutual
theorem E.sound (T : Tb) (k : Nat) (hot : Bool) : ∀ (e : E) (X : Cx) (c : Cw) (x : Expr), Okx T c k hot X → e.chk T hot X.N X.env.scope x = true → Snd X c x (e.ev T)
  | .var i, X, c, x, ok, h => by
    unfold E.chk at h
    split at h
    · obtain ⟨h, h3⟩ := and2 h
      obtain ⟨h1, h2⟩ := and2 h
      exact .val (pE_var (of_decide_eq_true h1) (visV h2) h3) (by intro _; rfl) (by intro _ _ _ q; cases q)
    · cases h
  | .cst d, X, c, x, ok, h => by
    unfold E.chk at h
    split at h
    · exact .val (constS h) (by intro _; rfl) (by intro _ _ _ q; cases q)
    · cases h
  | .glb i, X, c, x, ok, h => by
    unfold E.chk at h
    split at h
    · rename_i x pos
      obtain ⟨h, h3⟩ := and2 h
      obtain ⟨h1, h2⟩ := and2 h
      have h3 := of_decide_eq_true h3
      cases q : T.gls[i]? with
      | none => rw [q] at h3; cases h3
      | some p =>
        rw [q] at h3
        have e : p.1 = x := Option.some.inj h3
        subst e
        obtain ⟨v, u, m, r, dp⟩ := ok.tb.gls i p q
        refine .val (PE.mono (pe_glob (glG h1) m r (ndb1 h2).1) fun σ H Q ⟨ρ, G, sg, en, pp⟩ => ?_) (by intro _; rfl) (by intro _ _ _ q; cases q)
        have pp : PoG (Dp c.K) c σ G H (T.gl i) Q := pp
        unfold Tb.gl at pp
        rw [q] at pp
        exact pp v G H (Stp.refl sg) (by rw [ok.hK]; exact dp G)
    · cases h
  | .bin o a b, X, c, x, ok, h => by
    unfold E.chk at h
    split at h
    · obtain ⟨h, h3⟩ := and2 h
      obtain ⟨h1, h2⟩ := and2 h
      have e := opB_eq h1
      subst e
      exact .val (pE_bin ok.hK (E.sound T k _ a X c _ ok h2).e (E.sound T k _ b X c _ ok h3).e) (by intro _; rfl) (by intro _ _ _ q; cases q)
    · cases h
  | .neg a, X, c, x, ok, h => by
    unfold E.chk at h
    split at h
    · exact .val (pE_neg ok.hK (E.sound T k _ a X c _ ok h).e) (by intro _; rfl) (by intro _ _ _ q; cases q)
    · cases h
  | .nt a, X, c, x, ok, h => by
    unfold E.chk at h
    split at h
    · have i := E.sound T k _ a X c _ ok h
      exact ⟨(pE_nt i.e i.t).1, (pE_nt i.e i.t).2, (fun _ _ _ q => by cases q), (fun _ _ _ _ q => by cases q)⟩
    · cases h
  | .and a b, X, c, x, ok, h => by
    unfold E.chk at h
    split at h
    · rename_i l r rs pos
      obtain ⟨h1, h2⟩ := and2 h
      have i := E.sound T k _ a X c _ ok h1
      cases rs with
      | nil =>
        have j := E.sound T k _ b X c _ ok h2
        have w' := pW_and i.t (pw_and1 (pos := pos) j.t)
        exact ⟨pE_and i.e (pe_one j.e), w'.pt, fun _ _ _ _ => w', fun _ _ _ _ q => by cases q⟩
      | cons r2 rs =>
        have j := E.sound T k _ b X c _ ok h2
        have w' := pW_and i.t (j.w _ _ _ rfl)
        exact ⟨pE_and i.e j.e, w'.pt, fun _ _ _ _ => w', fun _ _ _ _ q => by cases q⟩
    · cases h
  | .or a b, X, c, x, ok, h => by
    unfold E.chk at h
    split at h
    · rename_i l r rs pos
      obtain ⟨h1, h2⟩ := and2 h
      have i := E.sound T k _ a X c _ ok h1
      cases rs with
      | nil =>
        have j := E.sound T k _ b X c _ ok h2
        have w' := pW_or i.t (pw_or1 (pos := pos) j.t)
        exact ⟨pE_or i.e (pe_one j.e), w'.pt, fun _ _ _ _ => w', fun _ _ _ _ q => by cases q⟩
      | cons r2 rs =>
        have j := E.sound T k _ b X c _ ok h2
        have w' := pW_or i.t (j.w _ _ _ rfl)
        exact ⟨pE_or i.e j.e, w'.pt, fun _ _ _ _ => w', fun _ _ _ _ q => by cases q⟩
    · cases h
  | .cmp o a b, X, c, x, ok, h => by
    unfold E.chk at h
    split at h
    · obtain ⟨h, h4⟩ := and2 h
      obtain ⟨h, h3⟩ := and2 h
      obtain ⟨h1, h2⟩ := and2 h
      have e := coB_eq h1
      subst e
      have i := (E.sound T k _ a X c _ ok h3).e
      have j := (E.sound T k _ b X c _ ok h4).e
      exact ⟨(pE_cmp ok.hK ok.hu i j h2 (o := o)).1, (pE_cmp ok.hK ok.hu i j h2 (o := o)).2, (fun _ _ _ q => by cases q), (fun _ _ _ _ q => by cases q)⟩
    · cases h
  | .chn o o2 a b d, X, c, x, ok, h => by
    unfold E.chk at h
    split at h
    · obtain ⟨h, h6⟩ := and2 h
      obtain ⟨h, h5⟩ := and2 h
      obtain ⟨h, h4⟩ := and2 h
      obtain ⟨h, h3⟩ := and2 h
      obtain ⟨h1, h2⟩ := and2 h
      have e := coB_eq h1
      have e2 := coB_eq h2
      subst e e2
      have i := (E.sound T k _ a X c _ ok h4).e
      have j := (E.sound T k _ b X c _ ok h5).e
      have l := (E.sound T k _ d X c _ ok h6).e
      exact ⟨(pE_chn ok.hK ok.hu i j l h3 (o := o) (o2 := o2)).1, (pE_chn ok.hK ok.hu i j l h3 (o := o) (o2 := o2)).2, (fun _ _ _ q => by cases q), (fun _ _ _ _ q => by cases q)⟩
    · cases h
  | .ite t a b, X, c, x, ok, h => by
    unfold E.chk at h
    split at h
    · obtain ⟨h, h3⟩ := and2 h
      obtain ⟨h1, h2⟩ := and2 h
      have i1 := E.sound T k _ t X c _ ok h1
      have i2 := E.sound T k _ a X c _ ok h2
      have i3 := E.sound T k _ b X c _ ok h3
      exact ⟨pE_ite i1.t i2.e i3.e, pT_ite i1.t i2.t i3.t, (fun _ _ _ q => by cases q), (fun _ _ _ _ q => by cases q)⟩
    · cases h
  | .tup es, X, c, x, ok, h => by
    unfold E.chk at h
    split at h
    · obtain ⟨h, h2⟩ := and2 h
      exact .val (pE_tup ok.hK es.len (of_decide_eq_true h2) (evs_len T es) (Es.sound T k _ es X c _ ok h).1) (by intro _; rfl) (by intro _ _ _ q; cases q)
    · cases h
  | .lst es, X, c, x, ok, h => by
    unfold E.chk at h
    split at h
    · obtain ⟨h, h2⟩ := and2 h
      exact .val (pE_lst ok.hK es.len (of_decide_eq_true h2) (evs_len T es) (Es.sound T k _ es X c _ ok h).1) (by intro _; rfl) (by intro _ _ _ q; cases q)
    · cases h
  | .idx a i, X, c, x, ok, h => by
    unfold E.chk at h
    split at h
    · obtain ⟨h, h3⟩ := and2 h
      obtain ⟨h1, h2⟩ := and2 h
      exact .val (pE_idx ok.hK (E.sound T k _ a X c _ ok h2).e (E.sound T k _ i X c _ ok h3).e h1) (by intro _; rfl) (by intro _ _ _ q; cases q)
    · cases h
  | .vdx v i, X, c, x, ok, h => by
    unfold E.chk at h
    split at h
    · obtain ⟨h, h5⟩ := and2 h
      obtain ⟨h, h4⟩ := and2 h
      obtain ⟨h, h3⟩ := and2 h
      obtain ⟨h1, h2⟩ := and2 h
      exact .val (pE_vdx ok.hK (of_decide_eq_true h2) (visV h3) h4 (E.sound T k _ i X c _ ok h5).e h1) (by intro _; rfl) (by intro _ _ _ q; cases q)
    · cases h
  | .vln v, X, c, x, ok, h => by
    unfold E.chk at h
    split at h
    · obtain ⟨h, h5⟩ := and2 h
      obtain ⟨h, h4⟩ := and2 h
      obtain ⟨h, h3⟩ := and2 h
      obtain ⟨h1, h2⟩ := and2 h
      have e := of_decide_eq_true h1
      subst e
      exact .val (pE_vln ok.hK (of_decide_eq_true h3) (visV h4) h5 (glG h2) (ok.bl (by decide +kernel))) (by intro _; rfl) (by intro _ _ _ q; cases q)
    · cases h
  | .sl01 a b, X, c, x, ok, h => by
    unfold E.chk at h
    split at h
    · obtain ⟨h1, h2⟩ := and2 h
      exact .val (pE_sl01 ok.hK (E.sound T k _ a X c _ ok h1).e (E.sound T k _ b X c _ ok h2).e) (by intro _; rfl) (by intro _ _ _ q; cases q)
    · cases h
  | .sl10 a b, X, c, x, ok, h => by
    unfold E.chk at h
    split at h
    · obtain ⟨h1, h2⟩ := and2 h
      exact .val (pE_sl10 ok.hK (E.sound T k _ a X c _ ok h1).e (E.sound T k _ b X c _ ok h2).e) (by intro _; rfl) (by intro _ _ _ q; cases q)
    · cases h
  | .sl11 a b d, X, c, x, ok, h => by
    unfold E.chk at h
    split at h
    · obtain ⟨h, h3⟩ := and2 h
      obtain ⟨h1, h2⟩ := and2 h
      exact .val (pE_sl11 ok.hK (E.sound T k _ a X c _ ok h1).e (E.sound T k _ b X c _ ok h2).e (E.sound T k _ d X c _ ok h3).e) (by intro _; rfl) (by intro _ _ _ q; cases q)
    · cases h
  | .rev a, X, c, x, ok, h => by
    unfold E.chk at h
    split at h
    · exact .val (pE_rev ok.hK (E.sound T k _ a X c _ ok h).e) (by intro _; rfl) (by intro _ _ _ q; cases q)
    · cases h
  | .lrg1 tp a, X, c, x, ok, h => by
    unfold E.chk at h
    split at h
    · obtain ⟨h, h7⟩ := and2 h
      obtain ⟨h, h6⟩ := and2 h
      obtain ⟨h, h5⟩ := and2 h
      obtain ⟨h, h4⟩ := and2 h
      obtain ⟨h, h3⟩ := and2 h
      obtain ⟨h1, h2⟩ := and2 h
      have eh := hotF h1
      subst eh
      have e1 := of_decide_eq_true h2
      have e4 := of_decide_eq_true h4
      subst e4
      refine .val (pE_lrg1 ok.hK (ok.cm rfl) e1 (glG h3) (ok.bl (by rw [e1]; cases tp <;> decide +kernel)) (glG h5) (ok.bl (by decide +kernel)) (E.sound T k _ a X c _ ok h7).e h6) (by intro _; rfl) (by intro _ _ _ q; cases q)
    · cases h
  | .lrg2 tp a b, X, c, x, ok, h => by
    unfold E.chk at h
    split at h
    · obtain ⟨h, h9⟩ := and2 h
      obtain ⟨h, h8⟩ := and2 h
      obtain ⟨h, h7⟩ := and2 h
      obtain ⟨h, h6⟩ := and2 h
      obtain ⟨h, h5⟩ := and2 h
      obtain ⟨h, h4⟩ := and2 h
      obtain ⟨h, h3⟩ := and2 h
      obtain ⟨h1, h2⟩ := and2 h
      have eh := hotF h1
      subst eh
      have e1 := of_decide_eq_true h2
      have e4 := of_decide_eq_true h4
      subst e4
      refine .val (pE_lrg2 ok.hK (ok.cm rfl) e1 (glG h3) (ok.bl (by rw [e1]; cases tp <;> decide +kernel)) (glG h5) (ok.bl (by decide +kernel)) (E.sound T k _ a X c _ ok h8).e (E.sound T k _ b X c _ ok h9).e h6 h7) (by intro _; rfl) (by intro _ _ _ q; cases q)
    · cases h
  | .bcl f es, X, c, x, ok, h => by
    unfold E.chk at h
    split at h
    · obtain ⟨h, h3⟩ := and2 h
      obtain ⟨h, h2⟩ := and2 h
      obtain ⟨h0, h1⟩ := and2 h
      have e := of_decide_eq_true h1
      subst e
      exact .val (pE_bcl ok.hK ok.hu (fun q => ok.cm (by cases hot with | false => rfl | true => rw [q] at h0; cases h0)) (glG h2) (ok.bl (bf_name f).1) (Es.sound T k _ es X c _ ok h3).1 (plL es _ _ _ h3).1) (by intro _; rfl) (by intro _ _ _ q; cases q)
    · cases h
  | .fcl i es, X, c, x, ok, h => by
    unfold E.chk at h
    split at h
    · obtain ⟨h, h4⟩ := and2 h
      obtain ⟨h, h3⟩ := and2 h
      obtain ⟨h, h2⟩ := and2 h
      obtain ⟨h0, h1⟩ := and2 h
      have h1 := of_decide_eq_true h1
      have eh := hotF h0
      subst eh
      cases q : T.fns[i]? with
      | none => rw [q] at h1; cases h1
      | some f =>
        rw [q] at h1
        injection h1 with h1
        injection h1 with e1 e2
        injection e2 with e2 e3
        subst e1
        exact .val (pE_fcl ok q e3 (fun ρ ds hd => (evs_len T es ρ ds hd).trans e2.symm) (glG h2) h3 (Es.sound T k _ es X c _ ok h4).1 (plL es _ _ _ h4).1) (by intro _; rfl) (by intro _ _ _ q; cases q)
    · cases h
  | .kcl i sh es ks, X, c, x, ok, h => by
    unfold E.chk at h
    split at h
    · obtain ⟨h, h8⟩ := and2 h
      obtain ⟨h, h7⟩ := and2 h
      obtain ⟨h, h6⟩ := and2 h
      obtain ⟨h, h5⟩ := and2 h
      obtain ⟨h, h4⟩ := and2 h
      obtain ⟨h, h3⟩ := and2 h
      obtain ⟨h, h2⟩ := and2 h
      obtain ⟨h0, h1⟩ := and2 h
      have h1 := of_decide_eq_true h1
      have eh := hotF h0
      subst eh
      have h2 := of_decide_eq_true h2
      have h4 := of_decide_eq_true h4
      cases q : T.fns[i]? with
      | none => rw [q] at h1; cases h1
      | some f =>
        cases q2 : T.shs[sh]? with
        | none => rw [q2] at h2; cases h2
        | some m =>
          rw [q] at h1
          rw [q2] at h2
          have e1 : f.name = _ := Option.some.inj h1
          have e2 := Option.some.inj h2
          obtain ⟨m1, m2, m3, m4⟩ := m
          injection e2 with e2 e3
          injection e3 with e3 e4
          dsimp only at e2 e3 e4
          subst e1
          refine .val (pE_kcl ok q q2 e2 (fun ρ ds hd => (evs_len T es ρ ds hd).trans e3.symm) (fun ρ ds hd => (evs_len T ks ρ ds hd).trans (h4.trans (by rw [← e4]))) e4.symm h3 (glG h5) h6 (Es.sound T k _ es X c _ ok h7).1 ((Es.sound T k _ ks X c _ ok h8).2.1 _ rfl) (plL es _ _ _ h7).1) (by intro _; rfl) (by intro _ _ _ q; cases q)
    · cases h
  | .met m a es, X, c, x, ok, h => by
    unfold E.chk at h
    split at h
    · obtain ⟨h, h6⟩ := and2 h
      obtain ⟨h, h5⟩ := and2 h
      obtain ⟨h, h4⟩ := and2 h
      obtain ⟨h, h3⟩ := and2 h
      obtain ⟨h1, h2⟩ := and2 h
      have e := of_decide_eq_true h1
      subst e
      have hl := (plL es _ _ _ h6)
      have h20 := of_decide_eq_true h4
      cases m
      case' count => refine .val (pE_count ok.hK ok.hu (E.sound T k _ a X c _ ok h5).e (Es.sound T k _ es X c _ ok h6).1 h3 h2 hl.1 ?_) (by intro _; rfl) (by intro _ _ _ q; cases q)
      case' index => refine .val (pE_index ok.hK ok.hu (E.sound T k _ a X c _ ok h5).e (Es.sound T k _ es X c _ ok h6).1 h3 h2 hl.1 ?_) (by intro _; rfl) (by intro _ _ _ q; cases q)
      all_goals
        have := hl.2
        rw [List.length_cons] at this
        omega
    · cases h
  | .isi a t, X, c, x, ok, h => by
    unfold E.chk at h
    split at h
    · obtain ⟨h, h7⟩ := and2 h
      obtain ⟨h, h6⟩ := and2 h
      obtain ⟨h, h5⟩ := and2 h
      obtain ⟨h, h4⟩ := and2 h
      obtain ⟨h, h3⟩ := and2 h
      obtain ⟨h1, h2⟩ := and2 h
      have e := of_decide_eq_true h1
      have e2 := of_decide_eq_true h3
      subst e e2
      have hm2 : X.mg (Str.ofString t) = none := by
        have ht : t ∈ ["int", "bool", "str", "list", "tuple"] := List.contains_iff_mem.mp h5
        simp only [List.mem_cons, List.not_mem_nil, or_false] at ht
        rcases ht with rfl | rfl | rfl | rfl | rfl <;> exact ok.bl (by decide +kernel)
      exact .val (pE_isi ok.hK h5 (E.sound T k _ a X c _ ok h7).e h6 (glG h2) (ok.bl (by decide +kernel)) (glG h4) hm2) (by intro _; rfl) (by intro _ _ _ q; cases q)
    · cases h
  | .isx v cl, X, c, x, ok, h => by
    unfold E.chk at h
    split at h
    · obtain ⟨h, h9⟩ := and2 h
      obtain ⟨h, h8⟩ := and2 h
      obtain ⟨h, h7⟩ := and2 h
      obtain ⟨h, h6⟩ := and2 h
      obtain ⟨h, h5⟩ := and2 h
      obtain ⟨h, h4⟩ := and2 h
      obtain ⟨h, h3⟩ := and2 h
      obtain ⟨h1, h2⟩ := and2 h
      have e := of_decide_eq_true h2
      subst e
      subst h1
      exact .val (pE_isx ok (of_decide_eq_true h4) (visV h5) h6 (glG h3) (of_decide_eq_true h7) (glG h8) h9) (by intro _; rfl) (by intro _ _ _ q; cases q)
    · cases h
  | .isv v, X, c, x, ok, h => by
    unfold E.chk at h
    split at h
    · obtain ⟨h, h8⟩ := and2 h
      obtain ⟨h, h7⟩ := and2 h
      obtain ⟨h, h6⟩ := and2 h
      obtain ⟨h, h5⟩ := and2 h
      obtain ⟨h, h4⟩ := and2 h
      obtain ⟨h, h3⟩ := and2 h
      obtain ⟨h1, h2⟩ := and2 h
      have e := of_decide_eq_true h2
      have e2 := of_decide_eq_true h7
      subst e e2
      subst h1
      exact .val (pE_isv ok (of_decide_eq_true h4) (visV h5) h6 (glG h3) (glG h8)) (by intro _; rfl) (by intro _ _ _ q; cases q)
    · cases h
  | .cmpr e t kd is cs own, X, c, x, ok, h => by
    unfold E.chk at h
    split at h
    · rename_i elt tg iter ifs scope pos
      obtain ⟨h, h8⟩ := and2 h
      obtain ⟨h, h7⟩ := and2 h
      obtain ⟨h, h6⟩ := and2 h
      obtain ⟨h, h5⟩ := and2 h
      obtain ⟨h, h4⟩ := and2 h
      obtain ⟨h, h3⟩ := and2 h
      obtain ⟨h, h2⟩ := and2 h
      obtain ⟨h0, h1⟩ := and2 h
      have eh := hotF h0
      subst eh
      have hown : (ownP X.N own).map (·.2) = own := by
        unfold ownP
        rw [List.map_map]
        exact List.map_id' own
      have hi : PI X tg iter (tI c fun ρ => (is.ev T ρ).bind fun ds => (itD kd ds).quiet) := by
        cases q : itForm kd tg X.env.scope iter with
        | none => rw [q] at h5; cases h5
        | some l =>
          rw [q] at h5
          have hl := plL is _ _ _ h5
          have hs := Es.sound T k _ is X c _ ok h5
          refine itPI (r1 := oneEv T is) ok.hK (ok.cm rfl) (fun x hx => ok.bl (by rcases hx with e | e | e <;> rw [e] <;> decide +kernel)) q hs.1 hl.1 (fun ρ ds hd => (evs_len T is ρ ds hd).trans hl.2.symm) fun e1 e2 => ?_
          subst e1
          obtain ⟨a, ea⟩ := seq1 is _ _ iter h5
          have i := (hs.2.2 a iter ea rfl).e
          rw [ea]
          exact ⟨i, oneEv_eq T a⟩
      have hsc : ∀ (C : Addr) (cl : List (Str × Addr)), (compEnvC scope cl C X.env).scope = relS scope X.env.scope := fun _ _ => rfl
      have r : LcP1 X c (.ListComp elt [⟨tg, iter, ifs, 0⟩] scope pos) (fun ρ => ((is.ev T ρ).bind fun ds => (itD kd ds).quiet).bind fun its => grd (few its.length) ((gather (turnD t (fun ρ => (cs.ev T ρ).bind tst) (e.ev T) own ρ) its).map .list)) := by
        have r1 := lcRead ok.hK (X := X) (t := t) (own := ownP X.N own) (ri := fun ρ => (is.ev T ρ).bind fun ds => (itD kd ds).quiet) (rt := fun ρ => (cs.ev T ρ).bind tst) (re := e.ev T)
          (by rw [hown]; intro i hi; exact List.contains_iff_mem.mp (List.all_eq_true.mp h2 i hi))
        refine ⟨elt, tg, iter, ifs, scope, pos, ownP X.N own, _, _, _, _, rfl, ok.cm rfl, hi, blkOk_by h1,
          (fun s H C cl fp => Tg.sound (X := X.blk s H scope (compEnvC scope cl C X.env) fp) (c := c.calm) ok.hK ok.nd (ok.cm rfl) _ (fun _ h => h) t tg h3),
          (fun s H C cl fp => ptsS cs ifs (of_decide_eq_true h7) (fun e' x' q1 q2 => ((Es.sound T k _ cs (X.blk s H scope (compEnvC scope cl C X.env) fp) c.calm ifs (ok.blk s H scope C cl fp) h6).2.2 e' x' q1 q2).t) (plL cs _ _ _ h6).2),
          (fun s H C cl fp => (E.sound T k _ e (X.blk s H scope (compEnvC scope cl C X.env) fp) c.calm elt (ok.blk s H scope C cl fp) h8).e), setI h4, ?_⟩
        rw [hown] at r1 ⊢
        exact r1
      exact ⟨r.e ok.nd, Rf.PT.of_v (pt_val (r.e ok.nd)), (fun _ _ _ q => by cases q), (fun _ _ _ _ _ => r.up)⟩
    · cases h
  | .sst e, X, c, x, ok, h => by
    unfold E.chk at h
    split at h
    · obtain ⟨h, h6⟩ := and2 h
      obtain ⟨h, h5⟩ := and2 h
      obtain ⟨h, h4⟩ := and2 h
      obtain ⟨h, h3⟩ := and2 h
      obtain ⟨h, h2⟩ := and2 h
      obtain ⟨h0, h1⟩ := and2 h
      have eh := hotF h0
      subst eh
      have e1 := of_decide_eq_true h1
      have e2 := of_decide_eq_true h3
      subst e1 e2
      exact .val (pE_sst ok.hK (ok.cm rfl) (glG h2) (glG h4) (ok.bl (by decide +kernel)) (ok.bl (by decide +kernel)) h5 (E.sound T k _ e X c _ ok h6).e) (by intro _; rfl) (by intro _ _ _ q; cases q)
    · cases h
  | .ssc ln e t kd is own, X, c, x, ok, h => by
    unfold E.chk at h
    split at h
    · rename_i y yp elt tg iter scope pos pos2
      obtain ⟨h, h9⟩ := and2 h
      obtain ⟨h, h8⟩ := and2 h
      obtain ⟨h, h7⟩ := and2 h
      obtain ⟨h, h6⟩ := and2 h
      obtain ⟨h, h5⟩ := and2 h
      obtain ⟨h, h4⟩ := and2 h
      obtain ⟨h, h3⟩ := and2 h
      obtain ⟨h0, h2⟩ := and2 h
      have eh := hotF h0
      subst eh
      have ey := of_decide_eq_true h2
      have hown : (ownP X.N own).map (·.2) = own := by
        unfold ownP
        rw [List.map_map]
        exact List.map_id' own
      have hi : PI X tg iter (tI c fun ρ => (is.ev T ρ).bind fun ds => (itD kd ds).quiet) := by
        cases q : itForm kd tg X.env.scope iter with
        | none => rw [q] at h8; cases h8
        | some l =>
          rw [q] at h8
          have hl := plL is _ _ _ h8
          have hs := Es.sound T k _ is X c _ ok h8
          refine itPI (r1 := oneEv T is) ok.hK (ok.cm rfl) (fun x hx => ok.bl (by rcases hx with e | e | e <;> rw [e] <;> decide +kernel)) q hs.1 hl.1 (fun ρ ds hd => (evs_len T is ρ ds hd).trans hl.2.symm) fun e1 e2 => ?_
          subst e1
          obtain ⟨a, ea⟩ := seq1 is _ _ iter h8
          have i := (hs.2.2 a iter ea rfl).e
          rw [ea]
          exact ⟨i, oneEv_eq T a⟩
      have nts : ∀ (Y : Cx), PTs Y [] (tBo c.calm fun _ => .ok true) := fun Y => by
        constructor
        intro pins s σ H Q I ⟨ρ, G, sg, e, p⟩
        exact pts_nil.run pins s σ H Q I (p true G H (Stp.refl sg) rfl)
      have hg : ∀ (s : Shared) (H : Hp) (C : Addr) (cl : List (Str × Addr)) (fp : List Addr), PG (X.blk s H scope (compEnvC scope cl C X.env) fp) tg (tT c.calm t) := fun s H C cl fp => Tg.sound (X := X.blk s H scope (compEnvC scope cl C X.env) fp) (c := c.calm) ok.hK ok.nd (ok.cm rfl) _ (fun _ h => h) t tg h6
      have he : ∀ (s : Shared) (H : Hp) (C : Addr) (cl : List (Str × Addr)) (fp : List Addr), PE (X.blk s H scope (compEnvC scope cl C X.env) fp) elt (tE c.calm (e.ev T)) := fun s H C cl fp => (E.sound T k _ e (X.blk s H scope (compEnvC scope cl C X.env) fp) c.calm elt (ok.blk s H scope C cl fp) h9).e
      have pe := pe_sci (pos := pos) (ok.cm rfl) ok.nd hi (blkOk_by h4) hg (fun s H C cl fp => nts _) he (setI h7)
      have hA := pa_cons pe (pa_nil (X := X))
      have ht : ∀ i ∈ t.slots, i ∈ (ownP X.N own).map (·.2) := by rw [hown]; intro i hi; exact List.contains_iff_mem.mp (List.all_eq_true.mp h5 i hi)
      have eqv : (E.ssc ln e t kd is own).ev T = fun ρ => ((is.ev T ρ).bind fun ds => (itD kd ds).quiet).bind fun its => ((gather (turnD t (fun _ => .ok true) (e.ev T) ((ownP X.N own).map (·.2)) ρ) its).bind intsD).quiet.bind (sscD ln) := by rw [hown]; rfl
      rw [eqv]
      have r : PE X (.Call (.Name y yp) [.SetComp elt [⟨tg, iter, [], 0⟩] scope pos] [] pos2) (tE c fun ρ => ((is.ev T ρ).bind fun ds => (itD kd ds).quiet).bind fun its => ((gather (turnD t (fun _ => .ok true) (e.ev T) ((ownP X.N own).map (·.2)) ρ) its).bind intsD).quiet.bind (sscD ln)) := by
        cases ln with
        | true =>
          have ey : y = ("len" : Str) := ey
          subst ey
          refine PE.mono (pe_callB cr_lenI (glG h3) (ok.bl (by decide +kernel)) PySem.boot_len hA) fun σ H Q q => ?_
          unfold tCB tCons tNil
          refine sciRead ok.hK (X := X) ht q fun B G' H' ns sg hB hl hq => ?_
          exact ⟨B, _, _, rfl, hB, hq _ G' H' (Stp.refl sg) (.int _)⟩
        | false =>
          have ey : y = ("sorted" : Str) := ey
          subst ey
          refine PE.mono (pe_callB (cr_sortedSet (ok.cm rfl)) (glG h3) (ok.bl (by decide +kernel)) (by decide +kernel : bootBuiltins ("sorted" : Str) = some (.builtin "sorted")) hA) fun σ H Q q => ?_
          unfold tCB tCons tNil
          refine sciRead ok.hK (X := X) ht q fun B G' H' ns sg hB hl hq => ?_
          refine ⟨B, _, _, rfl, hB, by omega, fun ms p pw hm hlen hp => ?_⟩
          have em : ms = sortU ns := by
            have key : ∀ (a b : List Int), a.Pairwise (· < ·) → b.Pairwise (· < ·) → (∀ k, k ∈ a ↔ k ∈ b) → a = b := by
              intro a
              induction a with
              | nil =>
                intro b _ _ hh
                cases b with
                | nil => rfl
                | cons x b => exact absurd ((hh x).mpr List.mem_cons_self) (by simp)
              | cons x a ih =>
                intro b ha hb hh
                cases b with
                | nil => exact absurd ((hh x).mp List.mem_cons_self) (by simp)
                | cons z b =>
                  rw [List.pairwise_cons] at ha hb
                  have exz : x = z := by
                    rcases List.mem_cons.mp ((hh x).mp List.mem_cons_self) with e1 | e1
                    · exact e1
                    · rcases List.mem_cons.mp ((hh z).mpr List.mem_cons_self) with e2 | e2
                      · exact e2.symm
                      · have := hb.1 x e1
                        have := ha.1 z e2
                        omega
                  subst exz
                  congr 1
                  refine ih b ha.2 hb.2 fun k => ?_
                  have hk := hh k
                  constructor
                  · intro q1
                    rcases List.mem_cons.mp (hk.mp (List.mem_cons_of_mem _ q1)) with e1 | e1
                    · have := ha.1 k q1; omega
                    · exact e1
                  · intro q1
                    rcases List.mem_cons.mp (hk.mpr (List.mem_cons_of_mem _ q1)) with e1 | e1
                    · have := hb.1 k q1; omega
                    · exact e1
            refine key _ _ pw (sortU_pw ns) fun k => ?_
            rw [hm k, mem_sortU]
            simp
          subst em
          refine hq _ (L2.upd G' p (.lst ((sortU ns).map V.int))) _ (Stp.new sg hp) ?_
          refine .lst (SqL.of upd_same) ?_
          have dp : ∀ (G0 : Hp) (l : List Int), DpAll c.K G0 (l.map V.int) (l.map PyData.int) := by
            intro G0 l
            induction l with
            | nil => exact .nil
            | cons a l ih => exact .cons (.int a) ih
          exact dp _ _
      exact .val r (by intro _; rfl) (by intro _ _ _ q; cases q)
    · cases h
  | .cm2 e t kd is t1 kd1 is1 own own1, X, c, x, ok, h => by
    unfold E.chk at h
    split at h
    · rename_i elt tg iter tg1 iter1 scope pos
      obtain ⟨h, h12⟩ := and2 h
      obtain ⟨h, h11⟩ := and2 h
      obtain ⟨h, h10⟩ := and2 h
      obtain ⟨h, h9⟩ := and2 h
      obtain ⟨h, h8⟩ := and2 h
      obtain ⟨h, h7⟩ := and2 h
      obtain ⟨h, h6⟩ := and2 h
      obtain ⟨h, h5⟩ := and2 h
      obtain ⟨h, h4⟩ := and2 h
      obtain ⟨h, h3⟩ := and2 h
      obtain ⟨h0, h1⟩ := and2 h
      have eh := hotF h0
      subst eh
      have hown : (ownP X.N own).map (·.2) = own := by
        unfold ownP
        rw [List.map_map]
        exact List.map_id' own
      have hi : PI X tg iter (tI c fun ρ => (is.ev T ρ).bind fun ds => (itD kd ds).quiet) := by
        cases q : itForm kd tg X.env.scope iter with
        | none => rw [q] at h8; cases h8
        | some l =>
          rw [q] at h8
          have hl := plL is _ _ _ h8
          have hs := Es.sound T k _ is X c _ ok h8
          refine itPI (r1 := oneEv T is) ok.hK (ok.cm rfl) (fun x hx => ok.bl (by rcases hx with e | e | e <;> rw [e] <;> decide +kernel)) q hs.1 hl.1 (fun ρ ds hd => (evs_len T is ρ ds hd).trans hl.2.symm) fun e1 e2 => ?_
          subst e1
          obtain ⟨a, ea⟩ := seq1 is _ _ iter h8
          have i := (hs.2.2 a iter ea rfl).e
          rw [ea]
          exact ⟨i, oneEv_eq T a⟩
      have hi1 : ∀ (s : Shared) (H : Hp) (C : Addr) (cl : List (Str × Addr)) (fp : List Addr), PI (X.blk s H scope (compEnvC scope cl C X.env) fp) tg1 iter1 (tI c.calm fun ρ => (is1.ev T ρ).bind fun ds => (itD kd1 ds).quiet) := by
        intro s H C cl fp
        have ok2 := ok.blk s H scope C cl fp
        cases q : itForm kd1 tg1 (relS scope X.env.scope) iter1 with
        | none => rw [q] at h11; cases h11
        | some l =>
          rw [q] at h11
          have hl := plL is1 _ _ _ h11
          have hs := Es.sound T k _ is1 (X.blk s H scope (compEnvC scope cl C X.env) fp) c.calm _ ok2 h11
          refine itPI (X := X.blk s H scope (compEnvC scope cl C X.env) fp) (r1 := oneEv T is1) ok2.hK (ok2.cm rfl) (fun x hx => ok2.bl (by rcases hx with e | e | e <;> rw [e] <;> decide +kernel)) q hs.1 hl.1 (fun ρ ds hd => (evs_len T is1 ρ ds hd).trans hl.2.symm) fun e1 e2 => ?_
          subst e1
          obtain ⟨a, ea⟩ := seq1 is1 _ _ iter1 h11
          have i := (hs.2.2 a iter1 ea rfl).e
          rw [ea]
          exact ⟨i, oneEv_eq T a⟩
      have r1 := lcRead2 ok.hK (X := X) (t := t) (t1 := t1) (own := ownP X.N own) (own1 := own1) (ri := fun ρ => (is.ev T ρ).bind fun ds => (itD kd ds).quiet) (ri1 := fun ρ => (is1.ev T ρ).bind fun ds => (itD kd1 ds).quiet) (re := e.ev T)
        (by rw [hown]; intro i hi; exact List.contains_iff_mem.mp (List.all_eq_true.mp h3 i hi)) (fun i hi => List.contains_iff_mem.mp (List.all_eq_true.mp h4 i hi))
      have nts : ∀ (Y : Cx), PTs Y [] (tBo c.calm fun _ => .ok true) := fun Y => by
        constructor
        intro pins s σ H Q I ⟨ρ, G, sg, e, p⟩
        exact pts_nil.run pins s σ H Q I (p true G H (Stp.refl sg) rfl)
      have hv : ∀ i ∈ own1, i ∈ (ownP X.N own).map (·.2) := by rw [hown]; intro i hi; exact List.contains_iff_mem.mp (List.all_eq_true.mp h5 i hi)
      have hg : ∀ (s : Shared) (H : Hp) (C : Addr) (cl : List (Str × Addr)) (fp : List Addr), PG (X.blk s H scope (compEnvC scope cl C X.env) fp) tg (tT c.calm t) := fun s H C cl fp => Tg.sound (X := X.blk s H scope (compEnvC scope cl C X.env) fp) (c := c.calm) ok.hK ok.nd (ok.cm rfl) _ (fun _ h => h) t tg h6
      have hg1 : ∀ (s : Shared) (H : Hp) (C : Addr) (cl : List (Str × Addr)) (fp : List Addr), PG (X.blk s H scope (compEnvC scope cl C X.env) fp) tg1 (tT c.calm t1) := fun s H C cl fp => Tg.sound (X := X.blk s H scope (compEnvC scope cl C X.env) fp) (c := c.calm) ok.hK ok.nd (ok.cm rfl) _ (fun _ h => h) t1 tg1 h9
      have he : ∀ (s : Shared) (H : Hp) (C : Addr) (cl : List (Str × Addr)) (fp : List Addr), PE (X.blk s H scope (compEnvC scope cl C X.env) fp) elt (tE c.calm (e.ev T)) := fun s H C cl fp => (E.sound T k _ e (X.blk s H scope (compEnvC scope cl C X.env) fp) c.calm elt (ok.blk s H scope C cl fp) h12).e
      have r2 := PE.mono (pe_lc2 (pos := pos) (ok.cm rfl) ok.nd hi (blkOk_by h1) hv hg (fun s H C cl fp => nts _) hi1 hg1 (fun s H C cl fp => nts _) he (setI h7) (fun env => setI h10)) r1
      rw [hown] at r1 r2
      have r : LcP X c (.ListComp elt [⟨tg, iter, [], 0⟩, ⟨tg1, iter1, [], 0⟩] scope pos) ((E.cm2 e t kd is t1 kd1 is1 own own1).ev T) :=
        ⟨⟨_, _, _, _, rfl⟩, fun _ => r2, fun nd i y py spos q1 s1 hsw => ⟨fun pins s σ H D I q => (ps_setLc2 (ok.cm rfl) nd q1 s1 hsw hi (blkOk_by h1) hv hg (fun s H C cl fp => nts _) hi1 hg1 (fun s H C cl fp => nts _) he (setI h7) (fun env => setI h10)).run pins s σ H D I (by rw [hown]; exact tAsg.mono r1 _ _ _ q)⟩⟩
      exact ⟨r2, Rf.PT.of_v (pt_val r2), (fun _ _ _ q => by cases q), (fun _ _ _ _ _ => r)⟩
    · cases h
theorem Es.sound (T : Tb) (k : Nat) (hot : Bool) : ∀ (es : Es) (X : Cx) (c : Cw) (xs : List Expr), Okx T c k hot X → es.chk T hot X.N X.env.scope xs = true → PA X xs (tL c (es.ev T)) ∧ (∀ kw : List Keyword, kw.map (·.value) = xs → PK X kw (tL c (es.ev T))) ∧ ∀ e x, es = .cons e .nil → xs = [x] → Snd X c x (e.ev T)
  | .nil, X, c, xs, ok, h => by
    unfold Es.chk at h
    split at h
    · refine ⟨pA_nil, fun kw q => ?_, fun e x q _ => nomatch q⟩
      cases kw with
      | nil => exact pK_nil
      | cons => cases q
    · cases h
  | .cons e es, X, c, xs, ok, h => by
    unfold Es.chk at h
    split at h
    · obtain ⟨h, h3⟩ := and2 h
      obtain ⟨h1, h2⟩ := and2 h
      have i := E.sound T k _ e X c _ ok h2
      have j := Es.sound T k _ es X c _ ok h3
      refine ⟨pA_cons i.e j.1 h1, fun kw q => ?_, fun e' x' q q2 => by
        injection q with q1 q3
        injection q2 with q4 q5
        rw [← q1, ← q4]
        exact i⟩
      cases kw with
      | nil => cases q
      | cons a kw =>
        injection q with q1 q2
        exact pK_cons (by have q1 : a.value = _ := q1; rw [q1]; exact i.e) (j.2.1 kw q2)
    · cases h
end
end Rf
set_option Elab.async false
set_option linter.all false
set_option maxRecDepth 100000
set_option maxHeartbeats 4000000
namespace Rf
open PySem PySem.Spec PyProof.Rows L2
/-! ### statements: own syntax, what they do -/
inductive Fl where
  | nx (ρ : Env) | rt (d : D) | bk (ρ : Env) | ct (ρ : Env)
/-- a value, or a list that is the name's own -/
inductive Pv where
  | v (x : E) | o (es : Es)
mutual
inductive S where
  | asg (t : Tg) (e : E) (fr : List Nat)
  | own (i : Nat) (es : Es) (fr : List Nat)
  | par (i j : Nat) (a b : Pv) (fr : List Nat)
  | par3 (i j l : Nat) (a b d : Pv) (fr : List Nat)
  | star (o : Bool) (i j : Nat) (e : E) (fr : List Nat)
  | aug (i : Nat) (o : Operator) (e : E)
  | app (i : Nat) (e : E) (fr : List Nat)
  | exp (e : E)
  | ret (e : E) (fr : List Nat)
  | ite (c : E) (a b : Ss)
  | forl (t : Tg) (k : It) (is : Es) (b : Ss) (fr : List Nat)
  | whl (n : Nat) (c : E) (b : Ss)
  | rais (cl : Nat)
  | brk
  | pass
  | tryx (b : Ss) (cl : Nat) (i : Nat) (h : Ss)
inductive Ss where
  | nil
  | cons (s : S) (ss : Ss)
end
def vw : Sl → Sl
  | .ow ds => .fz (.list ds)
  | s => s
def frzP (p : Nat → Bool) (ρ : Env) : Env := ρ.mapIdx fun i s => if p i = true then vw s else s
def frzL (fr : List Nat) (ρ : Env) : Env := match fr with
  | [] => ρ
  | _ => frzP (fun i => fr.contains i) ρ
@[simp] theorem frzL_nil (ρ : Env) : frzL [] ρ = ρ := id rfl
def viewE (ρ : Env) : Env := ρ.map vw
def blank (ρ : Env) : Env := ρ.map fun _ => .un
def forD (step : D → Env → Rs Fl) : List D → Env → Rs Fl
  | [], ρ => .ok (.nx ρ)
  | d :: ds, ρ => (step d ρ).bind fun f => match f with
    | .nx ρ1 => forD step ds ρ1
    | .ct ρ1 => forD step ds ρ1
    | .bk ρ1 => .ok (.nx ρ1)
    | .rt x => .ok (.rt x)
def whlD (c : Env → Rs Bool) (b : Env → Rs Fl) : Nat → Env → Rs Fl
  | 0, _ => .no
  | n + 1, ρ => (c ρ).bind fun k => if k = true then (b ρ).bind fun f => match f with
      | .nx ρ1 => whlD c b n ρ1
      | .ct ρ1 => whlD c b n ρ1
      | .bk ρ1 => .ok (.nx ρ1)
      | .rt x => .ok (.rt x)
    else .ok (.nx ρ)
def Pv.ev (T : Tb) : Pv → Env → Rs Sl
  | .v x, ρ => (x.ev T ρ).map .fz
  | .o es, ρ => (es.ev T ρ).map .ow
def tstE (T : Tb) (c : E) (ρ : Env) : Rs Bool := (c.ev T (viewE ρ)).bind asB
/-- an except suite's end -/
def caught : Rs Fl → Rs Fl
  | .ok (.rt d) => .ok (.rt d)
  | _ => .no
def tryD (T : Tb) (cl : Nat) (h : Xn → Rs Fl) : Rs Fl → Rs Fl
  | .ok f => .ok f
  | .no => .no
  | .ex e => grd (decide (e.1 < T.cls.length) && decide (cl < T.cls.length) && e.2.isNone) (if T.isa e.1 cl = true then caught (h e) else .ex e)
def binIntD : Operator → D → D → Rs D
  | .Add, .int a, .int b => .ok (.int (a + b))
  | .Sub, .int a, .int b => .ok (.int (a - b))
  | _, _, _ => .no
/-- the first item, and the others -/
def starD : D → Rs (D × List D)
  | .list (x :: xs) => .ok (x, xs)
  | .tuple (x :: xs) => .ok (x, xs)
  | _ => .no
def starS (o : Bool) (xs : List D) : Sl := if o = true then .ow xs else .fz (.list xs)
def appD (r : Env → Rs D) (i : Nat) (ρ : Env) : Rs Fl := match ρ[i]? with
  | some (.ow ds) => (r ρ).bind fun d => grd (few (ds.length + 1)) (.ok (.nx (ρ.set i (.ow (ds ++ [d])))))
  | _ => .no
def seqF (f : Fl) (k : Env → Rs Fl) : Rs Fl := match f with
  | .nx ρ => k ρ
  | f => .ok f
mutual
def S.ex (T : Tb) : S → Env → Rs Fl
  | .asg t e fr, ρ => (e.ev T (frzL fr ρ)).bind fun d => (setTg t d (frzL fr ρ)).quiet.map .nx
  | .own i es fr, ρ => (es.ev T (frzL fr ρ)).map fun ds => .nx ((frzL fr ρ).set i (.ow ds))
  | .par i j a b fr, ρ => (a.ev T (frzL fr ρ)).bind fun x => (b.ev T (frzL fr ρ)).map fun y => .nx (((frzL fr ρ).set i x).set j y)
  | .par3 i j l a b d fr, ρ => (a.ev T (frzL fr ρ)).bind fun x => (b.ev T (frzL fr ρ)).bind fun y => (d.ev T (frzL fr ρ)).map fun z => .nx ((((frzL fr ρ).set i x).set j y).set l z)
  | .star o i j e fr, ρ => (e.ev T (frzL fr ρ)).bind fun d => (starD d).map fun q => .nx (((frzL fr ρ).set i (.fz q.1)).set j (starS o q.2))
  | .aug i o e, ρ => (varD ρ[i]?).bind fun x => (e.ev T ρ).bind fun y => (binIntD o x y).quiet.map fun z => .nx (ρ.set i (.fz z))
  | .app i e fr, ρ => appD (e.ev T) i (frzL fr ρ)
  | .exp e, ρ => (e.ev T ρ).map fun _ => .nx ρ
  | .ret e fr, ρ => (e.ev T (frzL fr ρ)).map .rt
  | .ite c a b, ρ => (tstE T c ρ).bind fun k => if k = true then a.ex T ρ else b.ex T ρ
  | .forl t k is b fr, ρ => ((is.ev T (frzL fr ρ)).bind fun ds => (itD k ds).quiet).bind fun its => forD (fun d ρ1 => (setTg t d ρ1).quiet.bind fun ρ2 => b.ex T ρ2) its (frzL fr ρ)
  | .whl n c b, ρ => whlD (tstE T c) (fun ρ1 => b.ex T ρ1) n ρ
  | .rais cl, _ => grd (decide (cl < T.cls.length)) (.ex (cl, none))
  | .brk, ρ => .ok (.bk ρ)
  | .pass, ρ => .ok (.nx ρ)
  | .tryx b cl i h, ρ => tryD T cl (fun e => h.ex T ((blank ρ).set i (.xn e))) (b.ex T ρ)
def Ss.ex (T : Tb) : Ss → Env → Rs Fl
  | .nil, ρ => .ok (.nx ρ)
  | .cons s ss, ρ => (s.ex T ρ).bind fun f => seqF f (ss.ex T)
end
/-- a def: its body run at its arguments -/
def runD (T : Tb) (n : Nat) (loc : Nat) (b : Ss) (ds : List D) : Rs D := if ds.length = n then (b.ex T (ds.map .fz ++ List.replicate (loc - n) .un)).bind fun f => match f with
    | .nx _ => .ok .none
    | .rt d => .ok d
    | _ => .no
  else .no
/-! ### against the row's text -/
def notComp : Expr → Bool
  | .ListComp .. => false
  | .SetComp .. => false
  | .DictComp .. => false
  | _ => true
def isNm : Tg → Bool
  | .nm _ => true
  | _ => false
def tgt : Expr → Bool
  | .Tuple .. => false
  | .List .. => false
  | _ => true
/-- the comprehension's own list goes straight into the name -/
def swapB (sc : Scope) (y : Str) (py : Pos) (pos : Pos) (scope : Scope) : Bool := locB sc y && (py.line == pos.line) && !(scope.names.any fun (n, k) => n == y && (k == .local || k == .cell))
/-- two plain local names on one line, stored from the right (some true), or one after another (some false) -/
def swap2 (sc : Scope) (x y : Str) (px py : Pos) (a b : Expr) : Option Bool :=
  if (locB sc x && (locB sc y && (py.line == px.line))) = false then some false
  else if (x == y) = true then none
  else if [a, b].all (foldedForSure 8) = true then some false
  else if [a, b].all (constantsAlone 8) = true then none
  else some true
theorem kindLoc {sc : Scope} {x : Str} : (sc.names.lookup x == some .local) = locB sc x := by
  unfold locB
  cases sc.names.lookup x with
  | none => rfl
  | some k => cases k <;> rfl
theorem st_of : ∀ {a : Expr}, plE a = true → (match a with | .Starred .. => true | _ => false) = false := by
  intro a h
  cases a <;> first | rfl | cases h
theorem swapped2 {env : PySem.Env} {x y : Str} {px py pt pt2 : Pos} {kt k2 : Nat} {a b : Expr} {r : Bool} (hk : env.scope.kind = .function) (pa : plE a = true) (pb : plE b = true) (h : swap2 env.scope x y px py a b = some r) :
    swappedStores [.Tuple [.Name x px, .Name y py] kt pt] (.Tuple [a, b] k2 pt2) env = pure (if r = true then some [x, y] else none) := by
  have hb : env.blockKind = .function := by unfold Env.blockKind; rw [hk]; rfl
  have s1 := st_of pa
  have s2 := st_of pb
  have hst : ([a, b].any fun | .Starred .. => true | _ => false) = false := by
    rw [List.any_cons, List.any_cons, List.any_nil, s1, s2]; rfl
  have kx : (env.kindOf x = some .local) ↔ locB env.scope x = true := by rw [← kindLoc]; exact beq_iff_eq.symm
  have ky : (env.kindOf y = some .local) ↔ locB env.scope y = true := by rw [← kindLoc]; exact beq_iff_eq.symm
  have kl : (py.line = px.line) ↔ (py.line == px.line) = true := beq_iff_eq.symm
  unfold swappedStores
  simp only [hb, hst]
  unfold swap2 at h
  split at h
  · rename_i g
    injection h with h
    subst h
    cases hx : locB env.scope x <;> cases hy : locB env.scope y <;> cases hl : (py.line == px.line) <;> rw [hx, hy, hl] at g <;> first | (cases g; done) | skip
    all_goals (rw [hx] at kx; rw [hy] at ky; rw [hl] at kl; simp [s1, s2, List.filterMap_cons, kx, ky, kl, Expr.pos])
  · rename_i g
    cases hx : locB env.scope x <;> cases hy : locB env.scope y <;> cases hl : (py.line == px.line) <;> rw [hx, hy, hl] at g <;> first | exact absurd rfl g | skip
    rw [hx] at kx
    rw [hy] at ky
    rw [hl] at kl
    split at h
    · cases h
    · rename_i hne
      have hne : x ≠ y := fun e => hne (by rw [e]; exact beq_self_eq_true y)
      have hne2 : y ≠ x := fun e => hne e.symm
      split at h
      · rename_i hf
        injection h with h
        subst h
        simp only [List.all_cons, List.all_nil, Bool.and_true, Bool.and_eq_true] at hf
        simp [s1, s2, List.filterMap_cons, kx, ky, kl, Expr.pos, hne, hne2, hf, List.eraseDups_cons]
      · rename_i hf
        split at h
        · cases h
        · rename_i hcn
          injection h with h
          subst h
          simp only [List.all_cons, List.all_nil, Bool.and_true, Bool.and_eq_true] at hf hcn
          simp [s1, s2, List.filterMap_cons, kx, ky, kl, Expr.pos, hne, hne2, hf, hcn, List.eraseDups_cons]
          intro hh
          rcases hh with hh | hh
          · exact nomatch (show false = true from s1.symm.trans hh)
          · exact nomatch (show false = true from s2.symm.trans hh)

/-- three plain local names on one line, stored from the right -/
def swap3 (sc : Scope) (x y z : Str) (px py pz : Pos) (a b d : Expr) : Bool :=
  (locB sc x && (locB sc y && (locB sc z && ((py.line == px.line) && (pz.line == px.line))))) && (!(x == y) && (!(x == z) && (!(y == z) && (!([a, b, d].all (foldedForSure 8)) && !([a, b, d].all (constantsAlone 8))))))
theorem swapped3 {env : PySem.Env} {x y z : Str} {px py pz pt pt2 : Pos} {kt k2 : Nat} {a b d : Expr} (hk : env.scope.kind = .function) (pa : plE a = true) (pb : plE b = true) (pd : plE d = true) (h : swap3 env.scope x y z px py pz a b d = true) :
    swappedStores [.Tuple [.Name x px, .Name y py, .Name z pz] kt pt] (.Tuple [a, b, d] k2 pt2) env = pure (some [x, y, z]) := by
  have hb : env.blockKind = .function := by unfold Env.blockKind; rw [hk]; rfl
  have s1 := st_of pa
  have s2 := st_of pb
  have s3 := st_of pd
  have hst : ([a, b, d].any fun | .Starred .. => true | _ => false) = false := by
    rw [List.any_cons, List.any_cons, List.any_cons, List.any_nil, s1, s2, s3]; rfl
  unfold swap3 at h
  simp only [Bool.and_eq_true, Bool.not_eq_true'] at h
  obtain ⟨⟨hx, hy, hz, l1, l2⟩, n1, n2, n3, hf, hcn⟩ := h
  have kx : env.kindOf x = some .local := by rw [← kindLoc] at hx; exact beq_iff_eq.mp hx
  have ky : env.kindOf y = some .local := by rw [← kindLoc] at hy; exact beq_iff_eq.mp hy
  have kz : env.kindOf z = some .local := by rw [← kindLoc] at hz; exact beq_iff_eq.mp hz
  have m1 : py.line = px.line := beq_iff_eq.mp l1
  have m2 : pz.line = px.line := beq_iff_eq.mp l2
  have q1 : x ≠ y := fun e => by rw [e, beq_self_eq_true] at n1; cases n1
  have q2 : x ≠ z := fun e => by rw [e, beq_self_eq_true] at n2; cases n2
  have q3 : y ≠ z := fun e => by rw [e, beq_self_eq_true] at n3; cases n3
  have q4 : y ≠ x := fun e => q1 e.symm
  have q5 : z ≠ x := fun e => q2 e.symm
  have q6 : z ≠ y := fun e => q3 e.symm
  simp only [List.all_cons, List.all_nil, Bool.and_true, Bool.and_eq_false_iff] at hf hcn
  have hf : ¬ (foldedForSure 8 a = true ∧ foldedForSure 8 b = true ∧ foldedForSure 8 d = true) := fun ⟨f1, f2, f3⟩ => by
    rcases hf with e | e | e
    · rw [f1] at e; cases e
    · rw [f2] at e; cases e
    · rw [f3] at e; cases e
  have hcn : ¬ (constantsAlone 8 a = true ∧ constantsAlone 8 b = true ∧ constantsAlone 8 d = true) := fun ⟨f1, f2, f3⟩ => by
    rcases hcn with e | e | e
    · rw [f1] at e; cases e
    · rw [f2] at e; cases e
    · rw [f3] at e; cases e
  unfold swappedStores
  simp only [hb, hst]
  simp [s1, s2, s3, List.filterMap_cons, kx, ky, kz, m1, m2, Expr.pos, q1, q2, q3, q4, q5, q6, hf, hcn, List.eraseDups_cons]
  intro hh
  rcases hh with hh | hh | hh
  · exact nomatch (show false = true from s1.symm.trans hh)
  · exact nomatch (show false = true from s2.symm.trans hh)
  · exact nomatch (show false = true from s3.symm.trans hh)
def Pv.chk (T : Tb) (hot : Bool) (N : List Str) (sc : Scope) : Pv → Expr → Bool
  | .v x, e => x.chk T hot N sc e
  | .o es, e => match e with | .List l _ => es.chk T hot N sc l && decide (es.len ≤ 1000) | _ => false
def itChk (T : Tb) (hot : Bool) (N : List Str) (sc : Scope) (k : It) (is : Es) (tg iter : Expr) : Bool := match itForm k tg sc iter with | some l => is.chk T hot N sc l | none => false
mutual
def S.chk (T : Tb) (hot : Bool) (N : List Str) (sc : Scope) : S → Stmt → Bool
  | .asg t e fr, st => match st with
    | .Assign [tg] v _ => plE v && e.chk T hot N sc v && t.chk N sc (fun _ => true) tg && (!hot || isNm t) && plT tg &&
      (match v with
        | .ListComp _ _ _ _ => isNm t
        | .SetComp _ _ _ _ => false
        | .DictComp _ _ _ _ _ => false
        | .Tuple _ _ _ => isNm t
        | _ => true)
    | _ => false
  | .own i es fr, st => match st with
    | .Assign [.Name y _] (.List l _) _ => decide (N[i]? = some y) && lcB sc (fun _ => true) y && es.chk T hot N sc l && decide (es.len ≤ 1000)
    | _ => false
  | .par i j a b fr, st => match st with
    | .Assign [.Tuple [.Name x px, .Name y py] _ _] (.Tuple [l, r] _ _) _ => !hot && decide (i ≠ j) && decide (N[i]? = some x) && decide (N[j]? = some y) && lcB sc (fun _ => true) x && lcB sc (fun _ => true) y && plE l && plE r && (swap2 sc x y px py l r).isSome && a.chk T hot N sc l && b.chk T hot N sc r
    | _ => false
  | .par3 i j l a b d fr, st => match st with
    | .Assign [.Tuple [.Name x px, .Name y py, .Name z pz] _ _] (.Tuple [e1, e2, e3] _ _) _ => !hot && decide (i ≠ j) && decide (i ≠ l) && decide (j ≠ l) && decide (N[i]? = some x) && decide (N[j]? = some y) && decide (N[l]? = some z) && plE e1 && plE e2 && plE e3 && swap3 sc x y z px py pz e1 e2 e3 && a.chk T hot N sc e1 && b.chk T hot N sc e2 && d.chk T hot N sc e3
    | _ => false
  | .star o i j e fr, st => match st with
    | .Assign [.Tuple [.Name x px, .Starred (.Name y py) _] _ _] v _ => !hot && decide (i ≠ j) && decide (N[i]? = some x) && decide (N[j]? = some y) && lcB sc (fun _ => true) x && lcB sc (fun _ => true) y && plE v && notComp v && (match v with | .Tuple _ _ _ => false | _ => true) && e.chk T hot N sc v
    | _ => false
  | .aug i o e, st => match st with
    | .AugAssign (.Name y _) p v _ => opB o p && (match o with | .Add => true | .Sub => true | _ => false) && decide (N[i]? = some y) && lcB sc (fun _ => true) y && plE v && e.chk T hot N sc v
    | _ => false
  | .app i e fr, st => match st with
    | .Expr (.Call (.Attribute (.Name y _) m ap) [v] [] cp) _ => !hot && decide (m = ("append" : Str)) && (ap.endLine == cp.line) && decide (N[i]? = some y) && visB sc y && ndb y && plE v && e.chk T hot N sc v
    | _ => false
  | .exp e, st => match st with
    | .Expr v _ => notComp v && plE v && e.chk T hot N sc v
    | _ => false
  | .ret e fr, st => match st with
    | .Return (some v) _ => e.chk T hot N sc v
    | _ => false
  | .ite c a b, st => match st with
    | .If t x y _ => c.chk T hot N sc t && a.chk T hot N sc x && b.chk T hot N sc y
    | _ => false
  | .forl t k is b fr, st => match st with
    | .For tg iter bd [] _ => !hot && plE iter && itChk T hot N sc k is tg iter && t.chk N sc (fun _ => true) tg && b.chk T hot N sc bd
    | _ => false
  | .whl n c b, st => match st with
    | .While t bd [] _ => !hot && c.chk T hot N sc t && b.chk T hot N sc bd
    | _ => false
  | .rais cl, st => match st with
    | .Raise (some (.Call (.Name y _) [.Constant (.str _) _ _] [] _)) none _ => !hot && decide (T.cls[cl]? = some y) && glB sc y && ndb y
    | _ => false
  | .brk, st => match st with | .Break _ => true | _ => false
  | .pass, st => match st with | .Pass _ => true | _ => false
  | .tryx b cl i h, st => match st with
    | .Try bd [.ExceptHandler (some (.Name y _)) (some n) (h0 :: hs) _] [] [] _ => !hot && decide (T.cls[cl]? = some y) && glB sc y && ndb y && decide (N[i]? = some n) && locB sc n && b.chk T false N sc bd && h.chk T true N sc (h0 :: hs)
    | _ => false
def Ss.chk (T : Tb) (hot : Bool) (N : List Str) (sc : Scope) : Ss → List Stmt → Bool
  | .nil, l => match l with | [] => true | .Expr (.Constant (.str _) _ _) _ :: r => false | _ => false
  | .cons s ss, l => match l with | st :: r => s.chk T hot N sc st && ss.chk T hot N sc r | [] => false
end
/-- a def's own text behind its first row's remark -/
def undoc : List Stmt → List Stmt
  | .Expr (.Constant (.str _) _ _) _ :: r => r
  | l => l
end Rf
set_option Elab.async false
set_option linter.all false
set_option maxRecDepth 100000
set_option maxHeartbeats 4000000
namespace Rf
open PySem PySem.Spec PyProof.Rows L2
/-! ### the state of a def's body -/
structure StR (K : Kx) (n : Nat) (G₀ H₀ : Hp) (ρ : Env) (σ : L2.St) (G H : Hp) : Prop where
  ln : ρ.length = n
  st : Stp G₀ H₀ G H
  en : EnvR K G H ρ σ
  ow : ∀ (i : Nat) ds a, ρ[i]? = some (.ow ds) → σ[i]? = some (some (.ref a)) → H₀ a = none
  dj : ∀ (i j : Nat) ds es a, i ≠ j → ρ[i]? = some (.ow ds) → ρ[j]? = some (.ow es) → σ[i]? = some (some (.ref a)) → σ[j]? = some (some (.ref a)) → False
section
variable {K : Kx} {n : Nat} {G₀ H₀ G H G1 H1 : Hp} {ρ : Env} {σ : L2.St}
theorem StR.step (h : StR K n G₀ H₀ ρ σ G H) (s : Stp G H G1 H1) : StR K n G₀ H₀ ρ σ G1 H1 := ⟨h.ln, h.st.trans s, h.en.step s, h.ow, h.dj⟩
theorem getset {α : Type} {l : List α} {i j : Nat} {x y : α} (h : (l.set i x)[j]? = some y) : (i = j ∧ y = x) ∨ (i ≠ j ∧ l[j]? = some y) := by
  by_cases e : i = j
  · subst e
    rw [List.getElem?_set_self'] at h
    cases q : l[i]? with
    | none => rw [q] at h; cases h
    | some z => rw [q] at h; exact .inl ⟨rfl, (Option.some.inj h).symm⟩
  · rw [List.getElem?_set_ne e] at h
    exact .inr ⟨e, h⟩
/-- a slot is written: a value, or a list that is new since H -/
theorem StR.set (h : StR K n G₀ H₀ ρ σ G H) (s : Stp G H G1 H1) {i : Nat} {sl : Sl} {u : V} (r : SlotR K G1 H1 sl (some u)) (nw : ∀ a ds, sl = .ow ds → u = .ref a → H a = none) : StR K n G₀ H₀ (ρ.set i sl) (σ.set i (some u)) G1 H1 := by
  have h1 := h.step s
  refine ⟨by rw [List.length_set]; exact h.ln, h1.st, h1.en.set r, fun j ds a e1 e2 => ?_, fun j k ds es a ne e1 e2 e3 e4 => ?_⟩
  · rcases getset e1 with ⟨q, e⟩ | ⟨q, e⟩
    · rcases getset e2 with ⟨_, e'⟩ | ⟨q', _⟩
      · exact h.st.hh.free (nw a ds e.symm (Option.some.inj e').symm)
      · exact absurd q q'
    · rcases getset e2 with ⟨q', _⟩ | ⟨_, e'⟩
      · exact absurd q' q
      · exact h.ow j ds a e e'
  · have old : ∀ (m : Nat) fs, ρ[m]? = some (.ow fs) → σ[m]? = some (some (.ref a)) → H a ≠ none := fun m fs m1 m2 => by
      obtain ⟨v, hv, b, vs, ev, hb, _⟩ := h.en.get m1
      rw [m2] at hv
      have e5 := Option.some.inj hv
      rw [← e5] at ev
      have e6 : V.ref a = V.ref b := Option.some.inj ev
      injection e6 with e6
      rw [e6, hb]
      exact Option.some_ne_none _
    rcases getset e1 with ⟨q, e⟩ | ⟨q, e⟩
    · rcases getset e3 with ⟨_, e'⟩ | ⟨q', _⟩
      · rcases getset e2 with ⟨q2, _⟩ | ⟨_, e''⟩
        · exact ne (q.symm.trans q2)
        · rcases getset e4 with ⟨q2, _⟩ | ⟨_, e4'⟩
          · exact ne (q.symm.trans q2)
          · exact old k es e'' e4' (nw a ds e.symm (Option.some.inj e').symm)
      · exact absurd q q'
    · rcases getset e3 with ⟨q', _⟩ | ⟨_, e'⟩
      · exact absurd q' q
      · rcases getset e2 with ⟨q2, e''⟩ | ⟨q2, e''⟩
        · rcases getset e4 with ⟨_, e4'⟩ | ⟨q3, _⟩
          · exact old j ds e e' (nw a es e''.symm (Option.some.inj e4').symm)
          · exact absurd q2 q3
        · rcases getset e4 with ⟨q3, _⟩ | ⟨_, e4'⟩
          · exact absurd q3 q2
          · exact h.dj j k ds es a ne e e'' e' e4'
theorem StR.setF (h : StR K n G₀ H₀ ρ σ G H) (s : Stp G H G1 H1) {i : Nat} {u : V} {d : D} (r : Dp K.1 G1 u d) : StR K n G₀ H₀ (ρ.set i (.fz d)) (σ.set i (some u)) G1 H1 := h.set s ⟨u, rfl, r⟩ fun _ _ e => nomatch e
theorem StR.setAll : ∀ {bs : List (Nat × D)} {vs : List (Nat × V)} {ρ : Env} {σ : L2.St}, StR K n G₀ H₀ ρ σ G H → Bnd K.1 G bs vs → StR K n G₀ H₀ (setAllE ρ bs) (setAllV σ vs) G H
  | _, _, _, _, h, .nil => h
  | (i, d) :: bs, (_, v) :: vs, ρ, σ, h, .cons a b => StR.setAll (ρ := ρ.set i (.fz d)) (σ := σ.set i (some v)) (h.setF (Stp.refl h.st.gh) a) b
theorem frzP_at {p : Nat → Bool} {ρ : Env} {i : Nat} : (frzP p ρ)[i]? = ρ[i]?.map fun s => if p i = true then vw s else s := by
  unfold frzP
  rw [List.getElem?_mapIdx]
/-- lists are handed on: from here on they stand still -/
theorem StR.frz (h : StR K n G₀ H₀ ρ σ G H) (p : Nat → Bool) : ∃ G', Stp G₀ H₀ G' H ∧ StR K n G₀ H₀ (frzP p ρ) σ G' H := by
  classical
  let P : Addr → Prop := fun a => ∃ (i : Nat) (ds : List D), p i = true ∧ ρ[i]? = some (.ow ds) ∧ σ[i]? = some (some (.ref a))
  let G' : Hp := fun a => if P a then H a else G a
  have hP : ∀ a, P a → G a = none ∧ H₀ a = none ∧ ∃ vs, H a = some (.lst vs) := by
    rintro a ⟨i, ds, _, e1, e2⟩
    obtain ⟨v, hv, b, vs, ev, hb, gb, _⟩ := h.en.get e1
    rw [e2] at hv
    have e5 := Option.some.inj hv
    rw [← e5] at ev
    have e6 : V.ref a = V.ref b := Option.some.inj ev
    injection e6 with e6
    rw [← e6] at hb gb
    exact ⟨gb, h.ow i ds a e1 e2, vs, hb⟩
  have gP : ∀ a, P a → G' a = H a := fun a q => if_pos q
  have gN : ∀ a, ¬ P a → G' a = G a := fun a q => if_neg q
  have GG : Same G G' := fun a o e => by
    rw [gN a fun q => by rw [(hP a q).1] at e; cases e]
    exact e
  have st : Stp G₀ H₀ G' H := by
    refine ⟨h.st.hh, h.st.gg.trans GG, fun a o e => ?_, fun a o e z => ?_⟩
    · by_cases q : P a
      · rw [gP a q] at e; exact e
      · rw [gN a q] at e; exact h.st.gh a o e
    · by_cases q : P a
      · exact (hP a q).2.1
      · rw [gN a q] at e; exact h.st.nw a o e z
  have owned : ∀ (i : Nat) ds, (frzP p ρ)[i]? = some (.ow ds) → p i = false ∧ ρ[i]? = some (.ow ds) := fun i ds e => by
    rw [frzP_at] at e
    cases q : ρ[i]? with
    | none => rw [q] at e; cases e
    | some s =>
      rw [q] at e
      have e : (if p i = true then vw s else s) = .ow ds := Option.some.inj e
      cases hp : p i with
      | true => rw [hp, if_pos rfl] at e; cases s <;> cases e
      | false => rw [hp, if_neg Bool.false_ne_true] at e; exact ⟨rfl, by rw [e]⟩
  refine ⟨G', st, ⟨by unfold frzP; rw [List.length_mapIdx]; exact h.ln, st, ⟨by unfold frzP; rw [List.length_mapIdx]; exact h.en.len, fun i s v e1 e2 => ?_⟩, fun i ds a e1 e2 => h.ow i ds a (owned i ds e1).2 e2, fun i j ds es a ne e1 e2 e3 e4 => h.dj i j ds es a ne (owned i ds e1).2 (owned j es e2).2 e3 e4⟩⟩
  rw [frzP_at] at e1
  cases q : ρ[i]? with
  | none => rw [q] at e1; cases e1
  | some s0 =>
    rw [q] at e1
    have e1 : (if p i = true then vw s0 else s0) = s := Option.some.inj e1
    have r0 := h.en.at_ i s0 v q e2
    cases s0 with
    | un => cases hp : p i <;> (rw [hp] at e1; subst e1; trivial)
    | xn x => cases hp : p i <;> (rw [hp] at e1; subst e1; exact r0)
    | fz d =>
      have : s = .fz d := by cases hp : p i <;> (rw [hp] at e1; exact e1.symm)
      subst this
      obtain ⟨u, e, r⟩ := r0
      exact ⟨u, e, Dp_mono GG r⟩
    | ow ds =>
      obtain ⟨a, vs, e, hA, gA, r⟩ := r0
      cases hp : p i with
      | true =>
        rw [hp] at e1
        have e1 : Sl.fz (.list ds) = s := e1
        subst e1
        have q2 : P a := ⟨i, ds, hp, q, by rw [e2, e]⟩
        exact ⟨.ref a, e, .lst (SqL.of (by rw [gP a q2]; exact hA)) (DpAll_mono GG r)⟩
      | false =>
        rw [hp, if_neg Bool.false_ne_true] at e1
        subst e1
        refine ⟨a, vs, e, hA, ?_, DpAll_mono GG r⟩
        rw [gN a]
        · exact gA
        · rintro ⟨j, es, hj, j1, j2⟩
          have ne : i ≠ j := fun z => by rw [z, hj] at hp; cases hp
          exact h.dj i j ds es a ne q j1 (by rw [e2, e]) j2
theorem StR.frzL (h : StR K n G₀ H₀ ρ σ G H) (fr : List Nat) : ∃ G', StR K n G₀ H₀ (frzL fr ρ) σ G' H := by
  cases fr with
  | nil => exact ⟨G, h⟩
  | cons a l => obtain ⟨G', _, h2⟩ := h.frz fun i => (a :: l).contains i; exact ⟨G', h2⟩
theorem view_eq (ρ : Env) : viewE ρ = frzP (fun _ => true) ρ := by
  unfold viewE frzP
  apply List.ext_getElem?
  intro i
  rw [List.getElem?_map, List.getElem?_mapIdx]
  rfl
/-- back from a test: what was its own is so still -/
theorem StR.keep {G' : Hp} (h : StR K n G₀ H₀ ρ σ G H) (s : Stp G' H G1 H1) : StR K n G₀ H₀ ρ σ G H1 := by
  have s2 : Stp G H G H1 := ⟨s.hh, Same.refl G, h.st.gh.trans s.hh, fun a o e z => by rw [e] at z; cases z⟩
  exact h.step s2
end
/-- what is wanted behind a statement, by what it does -/
def PoS (c : Cw) (n : Nat) (G₀ H₀ : Hp) (D : Ends) : Rs Fl → Prop
  | .ok (.nx ρ) => ∀ σ G H, StR c.kx n G₀ H₀ ρ σ G H → D.nx σ H
  | .ok (.rt d) => ∀ u G H, Stp G₀ H₀ G H → Dp c.K G u d → D.rt u H
  | .ok (.bk ρ) => ∀ σ G H, StR c.kx n G₀ H₀ ρ σ G H → D.bk σ H
  | .ok (.ct ρ) => ∀ σ G H, StR c.kx n G₀ H₀ ρ σ G H → D.ct σ H
  | .ex e => ∀ (σ : L2.St) G H, σ.length = n → Stp G₀ H₀ G H → XW c.ca c.W σ e H
  | .no => False
def tS (c : Cw) (n : Nat) (r : Env → Rs Fl) : TS := fun D σ H => ∃ ρ G₀ H₀ G, StR c.kx n G₀ H₀ ρ σ G H ∧ PoS c n G₀ H₀ D (r ρ)
theorem PS.mono {X : Cx} {s : Stmt} {t t' : TS} (h : PS X s t) (i : ∀ D σ H, t' D σ H → t D σ H) : PS X s t' := ⟨fun pins s σ H D I q => h.run pins s σ H D I (i _ _ _ q)⟩
theorem PSs.mono {X : Cx} {s : List Stmt} {t t' : TS} (h : PSs X s t) (i : ∀ D σ H, t' D σ H → t D σ H) : PSs X s t' := ⟨fun pins s σ H D I q => h.run pins s σ H D I (i _ _ _ q)⟩
section
variable {c : Cw} {n : Nat} {G₀ H₀ G H : Hp} {D' : Ends} {ρ : Env} {σ : L2.St}
/-- an expression in a statement -/
theorem PoS.expr {α β : Type} {R : Hp → β → α → Prop} {x : Rs α} {k : α → Rs Fl} {Q : β → Hp → Prop} (h : StR c.kx n G₀ H₀ ρ σ G H) (p : PoS c n G₀ H₀ D' (x.bind k))
    (hq : ∀ a u G1 H1, x = .ok a → Stp G H G1 H1 → R G1 u a → PoS c n G₀ H₀ D' (k a) → Q u H1) : PoG R c σ G H x Q := by
  cases x with
  | ok a => exact fun u G1 H1 s r => hq a u G1 H1 rfl s r p
  | ex e => exact fun G1 H1 s => p σ G1 H1 (h.en.len.symm.trans h.ln) (h.st.trans s)
  | no => exact p
theorem tS.expr {α β : Type} {R : Hp → β → α → Prop} {r : Env → Rs α} {k : α → Rs Fl} {Q : β → Hp → Prop} (h : StR c.kx n G₀ H₀ ρ σ G H) (p : PoS c n G₀ H₀ D' ((r ρ).bind k))
    (hq : ∀ a u G1 H1, r ρ = .ok a → Stp G H G1 H1 → R G1 u a → PoS c n G₀ H₀ D' (k a) → Q u H1) : tG R c r σ H Q := ⟨ρ, G, h.st.gh, h.en, PoS.expr h p hq⟩
theorem StR.rebase {G1 H1 Ga Ha : Hp} {K : Kx} {ρ' : Env} {σ' : L2.St} (b : Stp G₀ H₀ G1 H1) (h : StR K n G1 H₀ ρ' σ' Ga Ha) : StR K n G₀ H₀ ρ' σ' Ga Ha :=
  ⟨h.ln, ⟨h.st.hh, b.gg.trans h.st.gg, h.st.gh, fun a o e z => by
    cases q : G1 a with
    | none => exact h.st.nw a o e q
    | some u => exact b.nw a u q z⟩, h.en, h.ow, h.dj⟩
theorem PoS.rebase {G1 H1 : Hp} {r : Rs Fl} (b : Stp G₀ H₀ G1 H1) (p : PoS c n G₀ H₀ D' r) : PoS c n G1 H₀ D' r := by
  have back : ∀ {Ga Ha}, Stp G1 H₀ Ga Ha → Stp G₀ H₀ Ga Ha := fun {Ga Ha} h => ⟨h.hh, b.gg.trans h.gg, h.gh, fun a o e z => by
    cases q : G1 a with
    | none => exact h.nw a o e q
    | some u => exact b.nw a u q z⟩
  cases r with
  | ok f =>
    cases f with
    | nx ρ' => exact fun σ' G' H' h => p σ' G' H' (StR.rebase b h)
    | bk ρ' => exact fun σ' G' H' h => p σ' G' H' (StR.rebase b h)
    | ct ρ' => exact fun σ' G' H' h => p σ' G' H' (StR.rebase b h)
    | rt d => exact fun u G' H' h => p u G' H' (back h)
  | ex e => exact fun σ' G' H' l h => p σ' G' H' l (back h)
  | no => exact p
/-- other ends behind a statement -/
theorem PoS.ends {D2 : Ends} {x : Rs Fl} {k : Fl → Rs Fl} (p : PoS c n G₀ H₀ D' (x.bind k)) (h : ∀ f, x = .ok f → PoS c n G₀ H₀ D' (k f) → PoS c n G₀ H₀ D2 (.ok f)) : PoS c n G₀ H₀ D2 x := by
  cases x with
  | ok f => exact h f rfl p
  | ex e => exact p
  | no => exact p
end
/-- what stands around a body -/
structure Oks (T : Tb) (c : Cw) (k : Nat) (hot : Bool) (X : Cx) : Prop extends Okx T c k hot X where
  kd : X.env.scope.kind = .function
  po : PassesOwn (model X.prog X.w) X.A X.env X.xe
  hs : X.stack = X.env :: X.outer
  hf : X.env.frame = some X.env.locals
  fn : X.fn = fun _ => true
section
variable {X : Cx} {c : Cw} {n : Nat}
theorem pSs_nil : PSs X [] (tS c n fun ρ => .ok (.nx ρ)) := PSs.mono pss_nil fun D σ H ⟨ρ, G₀, H₀, G, h, p⟩ => p σ G H h
theorem pSs_cons {s : Stmt} {ss : List Stmt} {r r2 : Env → Rs Fl} (h1 : PS X s (tS c n r)) (h2 : PSs X ss (tS c n r2)) : PSs X (s :: ss) (tS c n fun ρ => (r ρ).bind fun f => seqF f r2) := by
  refine PSs.mono (pss_cons h1 h2) fun D σ H ⟨ρ, G₀, H₀, G, h, p⟩ => ⟨ρ, G₀, H₀, G, h, PoS.ends p fun f e p1 => ?_⟩
  cases f with
  | nx ρ1 => exact fun σ' G' H' h' => ⟨ρ1, G₀, H₀, G', h', p1⟩
  | rt d => exact p1
  | bk ρ1 => exact p1
  | ct ρ1 => exact p1
theorem pS_brk {pos : Pos} : PS X (.Break pos) (tS c n fun ρ => .ok (.bk ρ)) := PS.mono ps_break fun D σ H ⟨ρ, G₀, H₀, G, h, p⟩ => p σ G H h
theorem pS_pass {pos : Pos} : PS X (.Pass pos) (tS c n fun ρ => .ok (.nx ρ)) := PS.mono ps_pass fun D σ H ⟨ρ, G₀, H₀, G, h, p⟩ => p σ G H h
theorem pS_ret {e : Expr} {r : Env → Rs PyData} {fr : List Nat} {pos : Pos} (he : PE X e (tE c r)) : PS X (.Return (some e) pos) (tS c n fun ρ => (r (frzL fr ρ)).map .rt) := by
  refine PS.mono (ps_ret he) fun D σ H ⟨ρ, G₀, H₀, G, h, p⟩ => ?_
  obtain ⟨G', h'⟩ := h.frzL fr
  exact tS.expr h' p fun d u G1 H1 _ s rd p1 => p1 u G1 H1 (h'.st.trans s) rd
theorem pS_exp {e : Expr} {r : Env → Rs PyData} {pos : Pos} (he : PE X e (tE c r)) (hs : swapsWith e none pos.line X.env = pure false) : PS X (.Expr e pos) (tS c n fun ρ => (r ρ).map fun _ => .nx ρ) := by
  refine PS.mono (ps_expr he hs) fun D σ H ⟨ρ, G₀, H₀, G, h, p⟩ => ?_
  exact tS.expr h p fun d u G1 H1 _ s rd p1 => p1 σ G1 H1 (h.step s)
theorem pS_ite {t : Expr} {a b : List Stmt} {rt : Env → Rs PyData} {ra rb : Env → Rs Fl} {pos : Pos} (ht : PT X t (tTs c rt)) (ha : PSs X a (tS c n ra)) (hb : PSs X b (tS c n rb)) :
    PS X (.If t a b pos) (tS c n fun ρ => ((rt (viewE ρ)).bind asB).bind fun k => if k = true then ra ρ else rb ρ) := by
  refine PS.mono (ps_if ht ha hb) fun D σ H ⟨ρ, G₀, H₀, G, h, p⟩ => ?_
  obtain ⟨G', s', h'⟩ := h.frz fun _ => true
  rw [← view_eq] at h'
  refine tS.expr (r := fun ρ => (rt ρ).bind asB) h' p fun k u G1 H1 _ s rd p1 => ?_
  subst rd
  have h2 := h.keep s
  cases k with
  | true => rw [if_pos rfl] at p1 ⊢; exact ⟨ρ, G₀, H₀, G, h2, p1⟩
  | false => rw [if_neg Bool.false_ne_true] at p1 ⊢; exact ⟨ρ, G₀, H₀, G, h2, p1⟩
theorem pS_whl (po : PassesOwn (model X.prog X.w) X.A X.env X.xe) {t : Expr} {b : List Stmt} {rt : Env → Rs PyData} {rb : Env → Rs Fl} {m : Nat} {pos : Pos} (ht : PT X t (tTs c rt)) (hb : PSs X b (tS c n rb)) :
    PS X (.While t b [] pos) (tS c n fun ρ => whlD (fun ρ => (rt (viewE ρ)).bind asB) rb m ρ) := by
  refine PS.mono (ps_while po ht hb) fun D σ H ⟨ρ, G₀, H₀, G, h, p⟩ => ?_
  refine ⟨fun k σ H => ∃ ρ G, StR c.kx n G₀ H₀ ρ σ G H ∧ PoS c n G₀ H₀ D (whlD (fun ρ => (rt (viewE ρ)).bind asB) rb k ρ), ⟨m, ρ, G, h, p⟩, fun k σ H ⟨ρ, G, h, p⟩ => ?_⟩
  cases k with
  | zero => exact p.elim
  | succ k =>
    obtain ⟨G', s', h'⟩ := h.frz fun _ => true
    rw [← view_eq] at h'
    refine tS.expr (r := fun ρ => (rt ρ).bind asB) h' p fun q u G1 H1 _ s rd p1 => ?_
    subst rd
    have h2 := h.keep s
    cases q with
    | true =>
      rw [if_pos rfl] at p1 ⊢
      refine ⟨fun σ' H' => ∃ ρ G, StR c.kx n G₀ H₀ ρ σ' G H' ∧ PoS c n G₀ H₀ D (whlD (fun ρ => (rt (viewE ρ)).bind asB) rb k ρ), fun σ' H' hN => ⟨k, Nat.lt_succ_self k, hN⟩, ρ, G₀, H₀, G, h2, ?_⟩
      refine PoS.ends p1 fun f e p2 => ?_
      cases f with
      | nx ρ1 => exact fun σ' G' H' h' => ⟨ρ1, G', h', p2⟩
      | ct ρ1 => exact fun σ' G' H' h' => ⟨ρ1, G', h', p2⟩
      | bk ρ1 => exact p2
      | rt d => exact p2
    | false =>
      rw [if_neg Bool.false_ne_true] at p1 ⊢
      exact p1 σ G H1 h2
theorem quiet_okI {α : Type} {x : Rs α} {a : α} (h : x.quiet = .ok a) : x = .ok a := by
  cases x <;> first | exact h | cases h
/-- a target in a statement -/
theorem tT_of {t : Tg} {K : Kx} {G₀ H₀ G H : Hp} {ρ ρ' : Env} {σ : L2.St} {v : V} {d : PyData} {Q : L2.St → Hp → Prop} (hk : c.K = K.1) (h : StR K n G₀ H₀ ρ σ G H) (r : Dp c.K G v d) (e : (setTg t d ρ).quiet = .ok ρ')
    (hq : ∀ σ', StR K n G₀ H₀ ρ' σ' G H → Q σ' H) : tT c t v σ H Q := by
  obtain ⟨bs, e1, e2⟩ := map_okI (quiet_okI e)
  refine ⟨G, d, h.st.gh, r, ?_⟩
  rw [e1]
  intro vs hb
  refine hq _ ?_
  rw [← e2]
  exact StR.setAll h (by rw [← hk]; exact hb)
theorem pS_for (po : PassesOwn (model X.prog X.w) X.A X.env X.xe) (hc : X.calm = true) {tg iter : Expr} {b : List Stmt} {t : Tg} {ri : Env → Rs (List PyData)} {rb : Env → Rs Fl} {fr : List Nat} {pos : Pos} (hi : PI X tg iter (tI c ri)) (hg : PG X tg (tT c t)) (hb : PSs X b (tS c n rb)) (hp : plE iter = true) :
    PS X (.For tg iter b [] pos) (tS c n fun ρ => (ri (frzL fr ρ)).bind fun its => forD (fun d ρ1 => (setTg t d ρ1).quiet.bind fun ρ2 => rb ρ2) its (frzL fr ρ)) := by
  refine PS.mono (ps_for po hc hi hg hb (setI hp)) fun D σ H ⟨ρ, G₀, H₀, G, h, p⟩ => ?_
  obtain ⟨G', h'⟩ := h.frzL fr
  refine tS.expr h' p fun its J G1 H1 _ s wk p1 => ?_
  have h1 := h'.step s
  generalize frzL fr ρ = ρ0 at h1 p1
  generalize hst : (fun d ρ1 => (setTg t d ρ1).quiet.bind fun ρ2 => rb ρ2) = step at p1
  have h2 : StR c.kx n G1 H₀ ρ0 σ G1 H1 := ⟨h1.ln, ⟨h1.st.hh, Same.refl G1, h1.st.gh, fun a o e z => by rw [e] at z; cases z⟩, h1.en, h1.ow, h1.dj⟩
  have p2 : PoS c n G1 H₀ D (forD step its ρ0) := PoS.rebase h1.st p1
  refine ⟨fun i m σ H => m = its.length - i ∧ i ≤ its.length ∧ ∃ ρ G, StR c.kx n G1 H₀ ρ σ G H ∧ PoS c n G1 H₀ D (forD step (its.drop i) ρ), ⟨its.length, by simp, Nat.zero_le _, ρ0, G1, h2, p2⟩, fun i m σ2 H2 hW => ?_⟩
  obtain ⟨hm, hi2, ρ2, G2, h3, p3⟩ := hW
  by_cases hlt : i < its.length
  · have sGH : Same G1 H2 := h3.st.gg.trans h3.st.gh
    refine .inr ⟨wk.go i H2 hlt sGH, fun σ' H' => ∃ ρ G, StR c.kx n G1 H₀ ρ σ' G H' ∧ PoS c n G1 H₀ D (forD step (its.drop (i + 1)) ρ), fun σ' H' hN => ⟨its.length - (i + 1), by omega, rfl, by omega, hN⟩, fun x H3 hy => ?_⟩
    obtain ⟨d, G3, ed, st3, hx⟩ := wk.yld i H2 x H3 G2 hlt h3.st.gg h3.st.gh hy
    have hdrop : its.drop i = d :: its.drop (i + 1) := by
      have e1 : its[i] = d := by
        have := List.getElem?_eq_getElem hlt
        rw [this] at ed
        exact Option.some.inj ed
      rw [List.drop_eq_getElem_cons hlt, e1]
    rw [hdrop] at p3
    have p3 : PoS c n G1 H₀ D ((step d ρ2).bind fun f => match f with
      | .nx ρ1 => forD step (its.drop (i + 1)) ρ1
      | .ct ρ1 => forD step (its.drop (i + 1)) ρ1
      | .bk ρ1 => .ok (.nx ρ1)
      | .rt x => .ok (.rt x)) := p3
    rw [← hst] at p3
    cases e : (setTg t d ρ2).quiet with
    | ok ρ3 =>
      rw [hst] at p3
      have e4 : step d ρ2 = rb ρ3 := by rw [← hst]; show ((setTg t d ρ2).quiet.bind fun ρ2 => rb ρ2) = _; rw [e]; rfl
      rw [e4] at p3
      refine tT_of rfl (h3.step st3) hx e fun σ4 h4 => ⟨ρ3, G1, H₀, G3, h4, PoS.ends p3 fun f ef p5 => ?_⟩
      cases f with
      | nx ρ1 => exact fun σ' G' H' h' => ⟨ρ1, G', h', p5⟩
      | ct ρ1 => exact fun σ' G' H' h' => ⟨ρ1, G', h', p5⟩
      | bk ρ1 => exact p5
      | rt d => exact p5
    | ex y => cases q : (setTg t d ρ2) <;> rw [q] at e <;> cases e
    | no => dsimp only at p3; rw [e] at p3; exact p3.elim
  · have ei : i = its.length := by omega
    subst ei
    rw [List.drop_length] at p3
    exact .inl ⟨wk.stop H2 (h3.st.gg.trans h3.st.gh), p3 σ2 G2 H2 h3⟩
end
end Rf
set_option Elab.async false
set_option linter.all false
set_option maxRecDepth 100000
set_option maxHeartbeats 4000000
namespace Rf
open PySem PySem.Spec PyProof.Rows L2
section
variable {X : Cx} {c : Cw} {n : Nat}
theorem swapN {e : Expr} {t : Option Expr} {l : Nat} {env : PySem.Env} (h : notComp e = true) : swapsWith e t l env = pure false := by
  cases e <;> first | rfl | cases h
theorem swapSole {e tg : Expr} {l : Nat} {env : PySem.Env} (h : notComp e = true) : swapsWithSole [tg] e l env = pure false := swapN h
theorem storesN {e tg : Expr} {env : PySem.Env} (h : (tgt tg = true) ∨ (∀ a b d, e ≠ .Tuple a b d)) (h2 : tgt tg = true ∨ ∃ a b d, tg = .Tuple a b d) : swappedStores [tg] e env = pure none := by
  rcases h with h | h
  · cases tg <;> first | rfl | (cases h; done)
  · rcases h2 with h2 | ⟨a, b, d, rfl⟩
    · cases tg <;> first | rfl | (cases h2; done)
    · cases e <;> first | rfl | exact absurd rfl (h _ _ _)
/-- target = value -/
theorem asgRead {tg : TG} {t : Tg} {te : TE} {r : Env → Rs PyData} {fr : List Nat} (hg : ∀ v σ H Q, tT c t v σ H Q → tg v σ H Q) (he : ∀ σ H Q, tE c r σ H Q → te σ H Q) : ∀ D σ H, tS c n (fun ρ => (r (frzL fr ρ)).bind fun d => (setTg t d (frzL fr ρ)).quiet.map .nx) D σ H → tAsg te tg D σ H := by
  intro D σ H ⟨ρ, G₀, H₀, G, h, p⟩
  obtain ⟨G', h'⟩ := h.frzL fr
  refine he _ _ _ (tS.expr h' p fun d u G1 H1 _ s rd p1 => hg _ _ _ _ ?_)
  have h1 := h'.step s
  cases e : (setTg t d (frzL fr ρ)).quiet with
  | ok ρ' =>
    rw [e] at p1
    exact tT_of rfl h1 rd e fun σ' h2 => p1 σ' G1 H1 h2
  | ex y => cases q : setTg t d (frzL fr ρ) <;> rw [q] at e <;> cases e
  | no => rw [e] at p1; exact p1.elim
theorem pS_asg {tg e : Expr} {t : Tg} {r : Env → Rs PyData} {fr : List Nat} {pos : Pos} (he : PE X e (tE c r)) (hg : PG X tg (tT c t)) (hc : notComp e = true) (hp : plT tg = true) (hs : swappedStores [tg] e X.env = pure none) :
    PS X (.Assign [tg] e pos) (tS c n fun ρ => (r (frzL fr ρ)).bind fun d => (setTg t d (frzL fr ρ)).quiet.map .nx) :=
  PS.mono (ps_asg he hg (swapSole hc) hs (by rw [asg_cons hp]; rfl)) (asgRead (fun _ _ _ _ q => q) fun _ _ _ q => q)
/-- name = [.. for ..] -/
theorem pS_asgLc (nd : X.N.Nodup) (kd : X.env.scope.kind = .function) {e : Expr} {i : Nat} {y : Str} {py pos : Pos} {r : Env → Rs PyData} {fr : List Nat} (he : LcP X c e r) (hi : X.N[i]? = some y) (hl : X.env.scope.names.lookup y = some .local ∨ (X.env.scope.names.lookup y = some .cell ∧ X.fn y = true)) :
    PS X (.Assign [.Name y py] e pos) (tS c n fun ρ => (r (frzL fr ρ)).bind fun d => (setTg (.nm i) d (frzL fr ρ)).quiet.map .nx) := by
  have heE := he.e nd
  obtain ⟨⟨elt, gens, scope, lp, e1⟩, _, ha⟩ := he
  subst e1
  have hb : X.env.blockKind = .function := by unfold Env.blockKind; rw [kd]; rfl
  have nm : ∀ v σ H Q, tT c (.nm i) v σ H Q → gName i v σ H Q := fun v σ H Q ⟨G, d, sg, h, p⟩ => p [(i, v)] (.cons h .nil)
  have lx : Loc X.env.scope y := by rcases hl with h | h; exact .inl h; exact .inr h.1
  have fx : X.fn y = true ∨ X.env.scope.names.lookup y = some .local := by rcases hl with h | h; exact .inr h; exact .inl h.2
  by_cases sw : ((X.env.kindOf y == some .local) && (py.line == lp.line) && !(scope.names.any fun (n, k) => n == y && (k == .local || k == .cell))) = true
  · have hsw : swapsWith (.ListComp elt gens scope lp) (some (.Name y py)) pos.line X.env = pure true := by
      show (pure (X.env.blockKind == .function && X.env.kindOf y == some .local && py.line == lp.line && !(scope.names.any fun (n, k) => n == y && (k == .local || k == .cell))) : Sem Bool) = pure true
      rw [hb]
      congr 1
    simp only [Bool.and_eq_true, Bool.not_eq_true', beq_iff_eq] at sw
    obtain ⟨⟨s1, s2⟩, s3⟩ := sw
    exact PS.mono (ha nd i y py pos hi s1 hsw) (asgRead nm fun _ _ _ q => q)
  · have hsw : swapsWith (.ListComp elt gens scope lp) (some (.Name y py)) pos.line X.env = pure false := by
      have sw := Bool.eq_false_iff.mpr sw
      show (pure (X.env.blockKind == .function && X.env.kindOf y == some .local && py.line == lp.line && !(scope.names.any fun (n, k) => n == y && (k == .local || k == .cell))) : Sem Bool) = pure false
      rw [hb]
      congr 1
    exact PS.mono (ps_set nd hi lx heE hsw fx) (asgRead nm fun _ _ _ q => q)
theorem pS_aug (hK : c.K = X.K) {i : Nat} {o : Operator} {y : Str} {e : Expr} {r : Env → Rs PyData} {py pos : Pos} (nd : X.N.Nodup) (hi : X.N[i]? = some y) (hl : Loc X.env.scope y) (fl : X.fn y = true ∨ X.env.scope.names.lookup y = some .local) (ho : o = .Add ∨ o = .Sub) (he : PE X e (tE c r)) :
    PS X (.AugAssign (.Name y py) o e pos) (tS c n fun ρ => (varD ρ[i]?).bind fun x => (r ρ).bind fun z => (binIntD o x z).quiet.map fun w => .nx (ρ.set i (.fz w))) := by
  have key : ∀ D σ H, tS c n (fun ρ => (varD ρ[i]?).bind fun x => (r ρ).bind fun z => (binIntD o x z).quiet.map fun w => .nx (ρ.set i (.fz w))) D σ H → tAug i (tE c r) (ipI fun a b => match o with | .Add => a + b | _ => a - b) D σ H := by
    intro D σ H ⟨ρ, G₀, H₀, G, h, p⟩
    dsimp only at p
    cases q : ρ[i]? with
    | none => rw [q] at p; exact p.elim
    | some s =>
      rw [q] at p
      cases s with
      | fz d =>
        obtain ⟨v, hv, u, e1, rd⟩ := h.en.get q
        subst e1
        have p : PoS c n G₀ H₀ D ((r ρ).bind fun z => (binIntD o d z).quiet.map fun w => .nx (ρ.set i (.fz w))) := p
        refine ⟨u, hv, tS.expr h p fun z w G1 H1 _ s rz p1 => ?_⟩
        have rd : Dp c.K G u d := rd
        cases d with
        | int a =>
          cases z with
          | int b =>
            refine ⟨a, b, dp_int rd, dp_int rz, ?_⟩
            have h1 : StR c.kx n G₀ H₀ (ρ.set i (.fz (.int (match o with | .Add => a + b | _ => a - b)))) (σ.set i (some (.int (match o with | .Add => a + b | _ => a - b)))) G1 H1 := h.setF s (.int _)
            rcases ho with rfl | rfl
            · exact p1 _ _ _ h1
            · exact p1 _ _ _ h1
          | _ => rcases ho with rfl | rfl <;> exact p1.elim
        | _ => rcases ho with rfl | rfl <;> exact p1.elim
      | un => exact p.elim
      | ow ds => exact p.elim
      | xn e => exact p.elim
  rcases ho with rfl | rfl
  · exact PS.mono (ps_aug nd hi hl he ip_add fl) key
  · exact PS.mono (ps_aug nd hi hl he ip_sub fl) key
/-! ### lists of a name's own -/
def tO (c : Cw) (r : Env → Rs Sl) : TE := fun σ H Q => ∃ ρ G, Same G H ∧ EnvR c.kx G H ρ σ ∧ match r ρ with
  | .ok s => ∀ u G' H', Stp G H G' H' → SlotR c.kx G' H' s (some u) → (∀ a ds, s = .ow ds → u = .ref a → H a = none) → Q u H'
  | .ex e => ∀ G' H', Stp G H G' H' → XW c.ca c.W σ e H'
  | .no => False
theorem pO_v {e : Expr} {r : Env → Rs PyData} (h : PE X e (tE c r)) : PE X e (tO c fun ρ => (r ρ).map .fz) := by
  refine PE.mono h fun σ H Q ⟨ρ, G, sg, en, p⟩ => ⟨ρ, G, sg, en, ?_⟩
  dsimp only at p
  cases q : r ρ with
  | ok d => rw [q] at p; exact fun u G' H' s rd => p u G' H' s ⟨u, rfl, rd⟩ fun _ _ z => nomatch z
  | ex y => rw [q] at p; exact p
  | no => rw [q] at p; exact p
theorem pO_o {es : List Expr} {rs : Env → Rs (List PyData)} {pos : Pos} (m : Nat) (hm : m ≤ 1000) (hl : ∀ ρ ds, rs ρ = .ok ds → ds.length = m) (hs : PA X es (tL c rs)) : PE X (.List es pos) (tO c fun ρ => (rs ρ).map .ow) := by
  refine PE.mono (pe_lst hs) fun σ H Q ⟨ρ, G, sg, en, p⟩ => ⟨ρ, G, sg, en, ?_⟩
  dsimp only at p
  cases q : rs ρ with
  | ok ds =>
    rw [q] at p
    intro us G1 H1 s rd
    refine ⟨by rw [DpAll_len rd, hl ρ ds q]; exact Nat.le_trans hm (by decide), fun a ha => ?_⟩
    have s2 := Stp.beside (o := .lst us) s.gh ha
    exact p (.ref a) G1 _ (s.trans s2) ⟨a, us, rfl, upd_same, s.gh.free ha, rd⟩ fun b es e1 e2 => by
      have e3 : a = b := by injection e2
      rw [← e3]
      exact s.hh.free ha
  | ex y => rw [q] at p; exact p
  | no => rw [q] at p; exact p
/-- such a value in a statement -/
theorem tO.stmt {r : Env → Rs Sl} {k : Sl → Rs Fl} {G₀ H₀ G H : Hp} {ρ : Env} {σ : L2.St} {D : Ends} {Q : VK} (h : StR c.kx n G₀ H₀ ρ σ G H) (p : PoS c n G₀ H₀ D ((r ρ).bind k))
    (hq : ∀ s u G1 H1, r ρ = .ok s → Stp G H G1 H1 → SlotR c.kx G1 H1 s (some u) → (∀ a ds, s = .ow ds → u = .ref a → H a = none) → PoS c n G₀ H₀ D (k s) → Q u H1) : tO c r σ H Q := by
  refine ⟨ρ, G, h.st.gh, h.en, ?_⟩
  cases q : r ρ with
  | ok s => rw [q] at p; exact fun u G1 H1 st sr nw => hq s u G1 H1 q st sr nw p
  | ex e => rw [q] at p; exact fun G1 H1 s => p σ G1 H1 (h.en.len.symm.trans h.ln) (h.st.trans s)
  | no => rw [q] at p; exact p
theorem pS_own {i : Nat} {y : Str} {es : List Expr} {rs : Env → Rs (List PyData)} {py lp pos : Pos} {fr : List Nat} (nd : X.N.Nodup) (hi : X.N[i]? = some y) (hl : Loc X.env.scope y) (fl : X.fn y = true ∨ X.env.scope.names.lookup y = some .local) (m : Nat) (hm : m ≤ 1000) (hln : ∀ ρ ds, rs ρ = .ok ds → ds.length = m) (hs : PA X es (tL c rs)) :
    PS X (.Assign [.Name y py] (.List es lp) pos) (tS c n fun ρ => (rs (frzL fr ρ)).map fun ds => .nx ((frzL fr ρ).set i (.ow ds))) := by
  refine PS.mono (ps_set nd hi hl (pO_o m hm hln hs) rfl fl) fun D σ H ⟨ρ, G₀, H₀, G, h, p⟩ => ?_
  obtain ⟨G', h'⟩ := h.frzL fr
  have p : PoS c n G₀ H₀ D (((rs (frzL fr ρ)).map Sl.ow).bind fun s => .ok (.nx ((frzL fr ρ).set i s))) := by
    dsimp only at p
    cases q : rs (frzL fr ρ) with
    | ok ds => rw [q] at p; exact p
    | ex e => rw [q] at p; exact p
    | no => rw [q] at p; exact p
  exact tO.stmt (r := fun ρ => (rs ρ).map .ow) h' p fun s u G1 H1 _ st sr nw p1 => p1 _ _ _ (h'.set st sr nw)
/-- x, y = a, b -/
theorem pS_par (hc : X.calm = true) (kd : X.env.scope.kind = .function) (nd : X.N.Nodup) {i j : Nat} {x y : Str} {a b : Expr} {ra rb : Env → Rs Sl} {fr : List Nat} {px py pt pt2 pos : Pos} {kt k2 : Nat} (hij : i ≠ j) (hi : X.N[i]? = some x) (hj : X.N[j]? = some y)
    (hx : Loc X.env.scope x) (hy : Loc X.env.scope y) (fx : X.fn x = true ∨ X.env.scope.names.lookup x = some .local) (fy : X.fn y = true ∨ X.env.scope.names.lookup y = some .local) (pa : plE a = true) (pb : plE b = true) (hw : (swap2 X.env.scope x y px py a b).isSome = true) (ha : PE X a (tO c ra)) (hb : PE X b (tO c rb)) :
    PS X (.Assign [.Tuple [.Name x px, .Name y py] kt pt] (.Tuple [a, b] k2 pt2) pos) (tS c n fun ρ => (ra (frzL fr ρ)).bind fun s => (rb (frzL fr ρ)).map fun t => .nx (((frzL fr ρ).set i s).set j t)) := by
  have hA : PA X [a, b] (tCons (tO c ra) (tCons (tO c rb) tNil)) := pa_cons ha (pa_cons hb pa_nil (starB pb)) (starB pa)
  have key : ∀ (D : Ends) σ H (Q : List V → Hp → Prop), tS c n (fun ρ => (ra (frzL fr ρ)).bind fun s => (rb (frzL fr ρ)).map fun t => .nx (((frzL fr ρ).set i s).set j t)) D σ H →
      (∀ v w H1 G₀ H₀ G1 ρ', StR c.kx n G₀ H₀ ρ' ((σ.set i (some v)).set j (some w)) G1 H1 → (∀ σ2 G2 H2, StR c.kx n G₀ H₀ ρ' σ2 G2 H2 → D.nx σ2 H2) → Q [v, w] H1) → tCons (tO c ra) (tCons (tO c rb) tNil) σ H Q := by
    intro D σ H Q ⟨ρ, G₀, H₀, G, h, p⟩ hQ
    obtain ⟨G', h'⟩ := h.frzL fr
    refine tO.stmt h' p fun s u G1 H1 _ st sr nw p1 => ?_
    have h1 := h'.step st
    refine tO.stmt (k := fun t => .ok (.nx (((frzL fr ρ).set i s).set j t))) h1 p1 fun t w G2 H2 _ st2 sr2 nw2 p2 => ?_
    exact hQ u w H2 G₀ H₀ G2 _ ((h'.set st sr nw).set st2 sr2 nw2) p2
  cases q : swap2 X.env.scope x y px py a b with
  | none => rw [q] at hw; cases hw
  | some r =>
    have sw := swapped2 (kt := kt) (k2 := k2) (pt := pt) (pt2 := pt2) kd pa pb q
    cases r with
    | true =>
      rw [if_pos rfl] at sw
      have lx : X.env.scope.names.lookup x = some .local ∧ X.env.scope.names.lookup y = some .local := by
        unfold swap2 at q
        split at q
        · cases q
        · rename_i g
          cases hx : locB X.env.scope x <;> cases hy : locB X.env.scope y <;> rw [hx, hy] at g <;> first | exact absurd rfl g | skip
          exact ⟨locL hx, locL hy⟩
      refine PS.mono (ps_par hc nd hi hj hij lx.1 lx.2 hA sw) fun D σ H q => ?_
      exact key D σ H _ q fun v w H1 G₀ H₀ G1 ρ' h hn => ⟨v, w, rfl, hn _ _ _ h⟩
    | false =>
      rw [if_neg Bool.false_ne_true] at sw
      refine PS.mono (ps_asg (pe_tup hA) (pg_tup (n := 2) hc (pgs_cons (pg_name nd hi hx fx) (pgs_cons (pg_name nd hj hy fy) pgs_nil))) rfl sw) fun D σ H q => ?_
      refine key D σ H (fun xs H1 => xs.length ≤ sizeLine ∧ ∀ p, H1 p = none → gTup X.K 2 (gCons (gName i) (gCons (gName j) gNil)) (.ref p) σ (upd H1 p (.tup xs)) D.nx) q fun v w H1 G₀ H₀ G1 ρ' h hn => ⟨by show 2 ≤ sizeLine; decide, fun p hp => ⟨p, [v, w], rfl, SqT.of upd_same, rfl, v, [w], rfl, w, [], rfl, rfl, ?_⟩⟩
      exact hn _ G1 _ (h.step (Stp.beside h.st.gh hp))
/-- x, y, z = a, b, d -/
theorem pS_par3 (hc : X.calm = true) (kd : X.env.scope.kind = .function) (nd : X.N.Nodup) {i j l : Nat} {x y z : Str} {a b d : Expr} {ra rb rd : Env → Rs Sl} {fr : List Nat} {px py pz pt pt2 pos : Pos} {kt k2 : Nat} (hij : i ≠ j) (hil : i ≠ l) (hjl : j ≠ l) (hi : X.N[i]? = some x) (hj : X.N[j]? = some y) (hz : X.N[l]? = some z)
    (pa : plE a = true) (pb : plE b = true) (pd : plE d = true) (hw : swap3 X.env.scope x y z px py pz a b d = true) (ha : PE X a (tO c ra)) (hb : PE X b (tO c rb)) (hd : PE X d (tO c rd)) :
    PS X (.Assign [.Tuple [.Name x px, .Name y py, .Name z pz] kt pt] (.Tuple [a, b, d] k2 pt2) pos) (tS c n fun ρ => (ra (frzL fr ρ)).bind fun s => (rb (frzL fr ρ)).bind fun t => (rd (frzL fr ρ)).map fun w => .nx ((((frzL fr ρ).set i s).set j t).set l w)) := by
  have hA : PA X [a, b, d] (tCons (tO c ra) (tCons (tO c rb) (tCons (tO c rd) tNil))) := pa_cons ha (pa_cons hb (pa_cons hd pa_nil (starB pd)) (starB pb)) (starB pa)
  have sw := swapped3 (kt := kt) (k2 := k2) (pt := pt) (pt2 := pt2) kd pa pb pd hw
  have lx : locB X.env.scope x = true ∧ locB X.env.scope y = true ∧ locB X.env.scope z = true := by
    unfold swap3 at hw
    simp only [Bool.and_eq_true] at hw
    exact ⟨hw.1.1, hw.1.2.1, hw.1.2.2.1⟩
  refine PS.mono (ps_par3 hc nd hi hj hz hij hil hjl (locL lx.1) (locL lx.2.1) (locL lx.2.2) hA sw) fun D σ H ⟨ρ, G₀, H₀, G, h, p⟩ => ?_
  obtain ⟨G', h'⟩ := h.frzL fr
  show tCons (tO c ra) (tCons (tO c rb) (tCons (tO c rd) tNil)) σ H _
  refine tO.stmt h' p fun s u G1 H1 _ st sr nw p1 => ?_
  have h1 := h'.step st
  refine tO.stmt (k := fun t => (rd (frzL fr ρ)).map fun w => .nx ((((frzL fr ρ).set i s).set j t).set l w)) h1 p1 fun t w G2 H2 _ st2 sr2 nw2 p2 => ?_
  have h2 := h1.step st2
  refine tO.stmt (k := fun w => .ok (.nx ((((frzL fr ρ).set i s).set j t).set l w))) h2 p2 fun w' v3 G3 H3 _ st3 sr3 nw3 p3 => ?_
  exact ⟨u, w, v3, rfl, p3 _ _ _ (((h'.set st sr nw).set st2 sr2 nw2).set st3 sr3 nw3)⟩
set_option maxHeartbeats 200000 in
theorem pS_star (hc : X.calm = true) (hK : c.K = X.K) (nd : X.N.Nodup) (o : Bool) {i j : Nat} {x y : Str} {e : Expr} {r : Env → Rs PyData} {fr : List Nat} {px py sp pt pos : Pos} {kt : Nat} (hij : i ≠ j) (hi : X.N[i]? = some x) (hj : X.N[j]? = some y)
    (hx : Loc X.env.scope x) (hy : Loc X.env.scope y) (fx : X.fn x = true ∨ X.env.scope.names.lookup x = some .local) (fy : X.fn y = true ∨ X.env.scope.names.lookup y = some .local) (hn : notComp e = true) (ht : ∀ a b d, e ≠ .Tuple a b d) (he : PE X e (tE c r)) :
    PS X (.Assign [.Tuple [.Name x px, .Starred (.Name y py) sp] kt pt] e pos) (tS c n fun ρ => (r (frzL fr ρ)).bind fun d => (starD d).map fun q => .nx (((frzL fr ρ).set i (.fz q.1)).set j (starS o q.2))) := by
  refine PS.mono (ps_asg he (pg_star hc (pgs_cons (pg_name nd hi hx fx) (pgs_cons (pg_name nd hj hy fy) pgs_nil)) rfl) (swapSole hn) (storesN (.inr ht) (.inr ⟨_, _, _, rfl⟩)) rfl) fun D σ H ⟨ρ, G₀, H₀, G, h, p⟩ => ?_
  obtain ⟨G', h'⟩ := h.frzL fr
  refine tS.expr h' p fun d u G1 H1 _ s rd p1 => ?_
  have h1 := h'.step s
  have fin : ∀ (dx : PyData) (ds : List PyData) (vx : V) (vs : List V), Dp c.K G1 vx dx → DpAll c.K G1 vs ds → PoS c n G₀ H₀ D (.ok (.nx (((frzL fr ρ).set i (.fz dx)).set j (starS o ds)))) → ∀ q, H1 q = none → gCons (gName i) (gCons (gName j) gNil) [vx, .ref q] σ (L2.upd H1 q (.lst vs)) D.nx := by
    intro dx ds vx vs hx hs p2 q hq
    refine ⟨vx, [.ref q], rfl, .ref q, [], rfl, rfl, ?_⟩
    have hA := h1.setF (Stp.refl h1.st.gh) hx (i := i)
    cases o with
    | true =>
      have st := Stp.beside (o := .lst vs) h1.st.gh hq
      exact p2 _ G1 _ (hA.set st (sl := .ow ds) (u := .ref q) ⟨q, vs, rfl, upd_same, h1.st.gh.free hq, hs⟩ fun b es e1 e2 => by
        have e3 : q = b := by injection e2
        rw [← e3]; exact hq)
    | false =>
      have st := Stp.new (o := .lst vs) h1.st.gh hq
      exact p2 _ _ _ (hA.setF st (.lst (SqL.of upd_same) (DpAll_mono st.gg hs)))
  cases d with
  | list l =>
    cases l with
    | cons dx ds =>
      cases rd with
      | lst q rr =>
        cases rr with
        | cons a b =>
          rw [hK] at q
          exact ⟨_, _, _, rfl, .inl (h1.st.gh.seq q), fin dx ds _ _ a b p1⟩
    | nil => exact p1.elim
  | tuple l =>
    cases l with
    | cons dx ds =>
      cases rd with
      | tup q rr =>
        cases rr with
        | cons a b =>
          rw [hK] at q
          exact ⟨_, _, _, rfl, .inr (Same.seqT h1.st.gh q), fin dx ds _ _ a b p1⟩
    | nil => exact p1.elim
  | _ => exact p1.elim
/-! ### append -/
theorem pS_app (hc : X.calm = true) {i : Nat} {y : Str} {e : Expr} {r : Env → Rs PyData} {yp ap cp pos : Pos} {fr : List Nat} (hi : X.N[i]? = some y) (hv : Vis X.env.scope y) (hd : ndb y = true) (hl : (ap.endLine == cp.line) = true) (hp : plE e = true) (he : PE X e (tE c r)) :
    PS X (.Expr (.Call (.Attribute (.Name y yp) "append" ap) [e] [] cp) pos) (tS c n fun ρ => appD r i (frzL fr ρ)) := by
  have hfew : ((backTo cp (starEach [e] X.env)).all (fun x => !x.1) && (backToKw cp (keywordEach [] X.env)).all (fun x => x.1.isSome)
      && decide ([e].length + ([] : List Keyword).length + (if ([] : List Keyword).isEmpty then 0 else 1) < 30)) = true := by
    rw [backA (by rw [List.all_cons, hp]; rfl)]; rfl
  refine PS.mono (ps_expr (pe_bm PySem.F.plainAttrs_list PySem.F.slot_list_append PySem.F.type_list_append mt_append (pe_var hi hv (ndb1 hd).1 (ndb1 hd).2) (pa_cons he pa_nil (starB hp)) rfl hfew hl (starB hp) rfl) rfl) fun D σ H ⟨ρ, G₀, H₀, G, h, p⟩ => ?_
  obtain ⟨G', h'⟩ := h.frzL fr
  dsimp only at p
  generalize frzL fr ρ = ρ0 at h' p
  unfold appD at p
  cases q : ρ0[i]? with
  | none => rw [q] at p; exact p.elim
  | some s =>
    rw [q] at p
    cases s with
    | ow ds =>
      have p : PoS c n G₀ H₀ D ((r ρ0).bind fun d => grd (few (ds.length + 1)) (.ok (.nx (ρ0.set i (.ow (ds ++ [d])))))) := p
      obtain ⟨v, hv', a, vs, ev, hA, gA, rd⟩ := h'.en.get q
      subst ev
      refine ⟨.ref a, hv', .inl ⟨rfl, vs, SqL.of hA⟩, tS.expr h' p fun d u G1 H1 _ st rd2 p1 => ?_⟩
      have h1 := h'.step st
      obtain ⟨v2, hv2, a2, vs2, ev2, hA2, gA2, rd3⟩ := h1.en.get q
      rw [hv'] at hv2
      have e5 := Option.some.inj hv2
      rw [← e5] at ev2
      have e6 : V.ref a = V.ref a2 := Option.some.inj ev2
      injection e6 with e6
      subst e6
      rw [st.hh a _ hA] at hA2
      have e7 : vs = vs2 := by injection hA2 with e7; injection e7
      subst e7
      by_cases g : few (ds.length + 1) = true
      · rw [g] at p1
        have hlt : vs.length < sizeLine := by
          have := few_lt g
          rw [DpAll_len rd3]
          omega
        refine ⟨a, vs, u, rfl, rfl, st.hh a _ hA, hlt, ?_⟩
        refine p1 σ G1 _ ?_
        have hH₀ : H₀ a = none := h'.ow i ds a q hv'
        have stN : Stp G₀ H₀ G1 (upd H1 a (.lst (vs ++ [u]))) := ⟨fun b o e => by
            have ne : b ≠ a := fun z => by rw [z, hH₀] at e; cases e
            rw [upd_ne ne]
            exact h1.st.hh b o e, h1.st.gg, fun b o e => by
            have ne : b ≠ a := fun z => by rw [z, gA2] at e; cases e
            rw [upd_ne ne]
            exact h1.st.gh b o e, h1.st.nw⟩
        have others : ∀ (k : Nat) s w, k ≠ i → ρ0[k]? = some s → σ[k]? = some w → SlotR c.kx G1 (upd H1 a (.lst (vs ++ [u]))) s w := fun k s w nk k1 k2 => by
          have r0 := h1.en.at_ k s w k1 k2
          cases s with
          | ow es =>
            obtain ⟨b, ws, e1, e2, e3, e4⟩ := r0
            have ne : b ≠ a := fun z => by
              subst z
              exact h1.dj k i es ds b nk k1 q (by rw [k2, e1]) hv'
            exact ⟨b, ws, e1, by rw [upd_ne ne]; exact e2, e3, e4⟩
          | un => exact r0
          | fz => exact r0
          | xn => exact r0
        have il : i < ρ0.length := (List.getElem?_eq_some_iff.mp q).1
        refine ⟨by rw [List.length_set]; exact h1.ln, stN, ⟨by rw [List.length_set]; exact h1.en.len, fun k s w k1 k2 => ?_⟩, fun k fs b k1 k2 => ?_, fun k m fs gs b nk k1 k2 k3 k4 => ?_⟩
        · rcases getset k1 with ⟨e, e'⟩ | ⟨e, e'⟩
          · subst e e'
            rw [hv'] at k2
            have e8 := Option.some.inj k2
            exact ⟨a, vs ++ [u], e8.symm, upd_same, gA2, DpAll_app rd3 (.cons rd2 .nil)⟩
          · exact others k s w (Ne.symm e) e' k2
        · rcases getset k1 with ⟨e, e'⟩ | ⟨e, e'⟩
          · subst e
            exact h1.ow i ds b q k2
          · exact h1.ow k fs b e' k2
        · have back : ∀ (z : Nat) hs, (ρ0.set i (.ow (ds ++ [d])))[z]? = some (.ow hs) → ∃ hs', ρ0[z]? = some (.ow hs') := fun z hs z1 => by
            rcases getset z1 with ⟨e, e'⟩ | ⟨e, e'⟩
            · subst e; exact ⟨ds, q⟩
            · exact ⟨hs, e'⟩
          obtain ⟨f1, b1⟩ := back k fs k1
          obtain ⟨f2, b2⟩ := back m gs k2
          exact h1.dj k m f1 f2 b nk b1 b2 k3 k4
      · rw [Bool.eq_false_iff.mpr g] at p1; exact p1.elim
    | un => exact p.elim
    | fz => exact p.elim
    | xn => exact p.elim
/-! ### raise -/
theorem pS_rais {T : Tb} {k : Nat} (ok : Okx T c k false X) {cl : Nat} {y m : Str} {yp mp cp pos : Pos} {j : Nat} (hc : T.cls[cl]? = some y) (hg : Gl X y) (hd : ndb y = true) :
    PS X (.Raise (some (.Call (.Name y yp) [.Constant (.str m) j mp] [] cp)) none pos) (tS c n fun _ => grd (decide (cl < T.cls.length)) (.ex (cl, none))) := by
  have x := ok.tb.cls cl y hc
  refine PS.mono (ps_raise (ok.cm rfl) ok.tk (pmk_own PySem.F.excBase_ValueError x.xi x.mg x.kp (raises_own x.sb x.ty) hg (ndb1 hd).1)) fun D σ H ⟨ρ, G₀, H₀, G, h, p⟩ => ?_
  dsimp only at p
  by_cases g : decide (cl < T.cls.length) = true
  · rw [g] at p
    exact p σ G H (h.en.len.symm.trans h.ln) h.st
  · rw [Bool.eq_false_iff.mpr g] at p; exact p.elim
end
end Rf
set_option Elab.async false
set_option linter.all false
set_option maxRecDepth 100000
set_option maxHeartbeats 4000000
namespace Rf
open PySem PySem.Spec PyProof.Rows L2
def Cw.suite (c : Cw) (a : Addr) (e : Xn) : Cw := { c with xa := some (a, e), W := fun _ _ _ _ => False }
def Cw.wi (c : Cw) (W : WX) : Cw := { c with W := W }
section
variable {X : Cx} {c : Cw} {n : Nat}
theorem pS_try {T : Tb} {k : Nat} (ok : Oks T c k false X) {cl i : Nat} {y nm : Str} {body suite : List Stmt} {b0 : Stmt} {yp pos' pos : Pos} {rb rh : Env → Rs Fl} (hi : X.N[i]? = some nm) (hln : X.env.scope.names.lookup nm = some .local) (hcl : T.cls[cl]? = some y) (hg : Gl X y) (hd : ndb y = true)
    (hb : ∀ (W : WX) (pn : List (Addr × Obj)) (xe : Value → Shared → Prop), Takes (X.tr pn xe) W → PassesOwn (model X.prog X.w) X.A X.env xe → PSs (X.tr pn xe) body (tS (c.wi W) n rb))
    (hsu : ∀ (a : Addr) (e : Xn) (oe : Obj) (pn : List (Addr × Obj)), Zc (.ref (c.ca e.1)) none oe → (∃ vs, oe.data = .fields vs) → e.1 < T.cls.length → PSs (X.suite a ((a, oe) :: pn)) (b0 :: suite) (tS (c.suite a e) n rh)) :
    PS X (.Try body [.ExceptHandler (some (.Name y yp)) (some nm) (b0 :: suite) pos'] [] [] pos) (tS c n fun ρ => tryD T cl (fun e => rh ((blank ρ).set i (.xn e))) (rb ρ)) := by
  have xc := ok.tb.cls cl y hcl
  have hlt : cl < T.cls.length := (List.getElem?_eq_some_iff.mp hcl).1
  refine PS.mono (ps_try_as (tb := fun W => tS (c.wi W) n rb) (ts := fun a cls d D σ H => ∃ e : Xn, cls = .ref (c.ca e.1) ∧ d = none ∧ e.1 < T.cls.length ∧ tS (c.suite a e) n rh D σ H)
    ok.hs ok.hf ok.nd hi hln ⟨hg, (ndb1 hd).1, .inl xc.mg⟩ ok.tk hb (fun a oe cls d pn hz hf => ?_)) fun D σ H ⟨ρ, G₀, H₀, G, h, p⟩ => ⟨ρ, G₀, H₀, G, h, ?_⟩
  · constructor
    intro pins s σ H D I ⟨e, e1, e2, e3, q⟩
    subst e1 e2
    exact (hsu a e oe pn hz hf e3).run pins s σ H D I q
  · dsimp only at p
    cases q : rb ρ with
    | ok f => rw [q] at p; cases f <;> exact p
    | no => rw [q] at p; exact p.elim
    | ex e =>
      rw [q] at p
      have p : PoS c n G₀ H₀ D (grd (decide (e.1 < T.cls.length) && decide (cl < T.cls.length) && e.2.isNone) (if T.isa e.1 cl = true then caught (rh ((blank ρ).set i (.xn e))) else .ex e)) := p
      by_cases g : (decide (e.1 < T.cls.length) && decide (cl < T.cls.length) && e.2.isNone) = true
      · rw [g] at p
        have p : PoS c n G₀ H₀ D (if T.isa e.1 cl = true then caught (rh ((blank ρ).set i (.xn e))) else .ex e) := p
        rw [Bool.and_eq_true, Bool.and_eq_true, decide_eq_true_eq, decide_eq_true_eq] at g
        obtain ⟨⟨g1, _⟩, g2⟩ := g
        have g2 : e.2 = none := by cases z : e.2 with | none => rfl | some v => rw [z] at g2; cases g2
        intro σ' G' H' hl st
        unfold XW
        rw [g2]
        refine ⟨T.isa e.1 cl, (ok.tb.isa e.1 cl g1 hlt).2, fun hy a ha => ⟨e, rfl, rfl, g1, (blank ρ).set i (.xn e), G₀, H₀, G', ?_, ?_⟩, fun hno => ?_⟩
        · refine ⟨by rw [List.length_set]; unfold blank; rw [List.length_map]; exact h.ln, st, ⟨by rw [List.length_set, List.length_set]; unfold blank; rw [List.length_map, h.ln, hl], fun j s v e1 e2 => ?_⟩, fun j ds b e1 e2 => ?_, fun j m ds es b ne e1 e2 e3 e4 => ?_⟩
          · rcases getset e1 with ⟨z, z'⟩ | ⟨z, z'⟩
            · rcases getset e2 with ⟨_, w'⟩ | ⟨w1, _⟩
              · subst z' w'
                exact ⟨a, rfl, rfl⟩
              · exact absurd z w1
            · unfold blank at z'
              rw [List.getElem?_map] at z'
              cases y : ρ[j]? with
              | none => rw [y] at z'; cases z'
              | some s0 => rw [y] at z'; have z' := Option.some.inj z'; subst z'; trivial
          · rcases getset e1 with ⟨z, z'⟩ | ⟨z, z'⟩
            · cases z'
            · unfold blank at z'
              rw [List.getElem?_map] at z'
              cases y : ρ[j]? with
              | none => rw [y] at z'; cases z'
              | some s0 => rw [y] at z'; cases z'
          · rcases getset e1 with ⟨z, z'⟩ | ⟨z, z'⟩
            · cases z'
            · unfold blank at z'
              rw [List.getElem?_map] at z'
              cases y : ρ[j]? with
              | none => rw [y] at z'; cases z'
              | some s0 => rw [y] at z'; cases z'
        · rw [hy, if_pos rfl] at p
          cases z : rh ((blank ρ).set i (.xn e)) with
          | ok f =>
            rw [z] at p
            cases f with
            | rt d => exact p
            | nx _ => exact p.elim
            | bk _ => exact p.elim
            | ct _ => exact p.elim
          | ex y => rw [z] at p; exact p.elim
          | no => rw [z] at p; exact p.elim
        · rw [hno, if_neg Bool.false_ne_true] at p
          have p := p σ' G' H' hl st
          unfold XW at p
          rw [g2] at p
          exact p
      · rw [Bool.eq_false_iff.mpr g] at p; exact p.elim
theorem Oks.tr {T : Tb} {k : Nat} (ok : Oks T c k false X) {W : WX} {pn : List (Addr × Obj)} {xe : Value → Shared → Prop} (tk : Takes (X.tr pn xe) W) (po : PassesOwn (model X.prog X.w) X.A X.env xe) : Oks T (c.wi W) k false (X.tr pn xe) :=
  { hK := ok.hK, nd := ok.nd, tk := tk, rm := ok.rm, cm := ok.cm, hu := ok.hu, isE := (fun _ _ _ h => nomatch h), tb := ok.tb, kd := ok.kd, po := po, hs := ok.hs, hf := ok.hf, fn := ok.fn }
theorem Oks.suite {T : Tb} {k : Nat} (ok : Oks T c k false X) {a : Addr} {e : Xn} {oe : Obj} {pn : List (Addr × Obj)} (hz : Zc (.ref (c.ca e.1)) none oe) (hf : ∃ vs, oe.data = .fields vs) (hl : e.1 < T.cls.length) : Oks T (c.suite a e) k true (X.suite a ((a, oe) :: pn)) :=
  { hK := ok.hK, nd := ok.nd, tk := takes0, rm := (fun h => nomatch h), cm := (fun h => nomatch h), hu := ok.hu, kd := ok.kd, po := PassesOwn.never, hs := ok.hs, hf := ok.hf, fn := ok.fn, tb := ok.tb
    isE := fun a' e' h _ _ => by
      have h : some (a, e) = some (a', e') := h
      injection h with h
      injection h with h1 h2
      subst h1 h2
      obtain ⟨z, hz2⟩ : ∃ z, T.cls[e.1]? = some z := ⟨_, List.getElem?_eq_getElem hl⟩
      exact call_isE (ok.tb.cls e.1 z hz2).ec hz hf }
/-- what is walked, in a statement -/
theorem itS {T : Tb} {k : Nat} {hot : Bool} (ok : Okx T c k hot X) (cm : X.calm = true) {kd : It} {is : Es} {tg iter : Expr} (h : itChk T hot X.N X.env.scope kd is tg iter = true) : PI X tg iter (tI c fun ρ => (is.ev T ρ).bind fun ds => (itD kd ds).quiet) := by
  unfold itChk at h
  cases q : itForm kd tg X.env.scope iter with
  | none => rw [q] at h; cases h
  | some l =>
    rw [q] at h
    have hl := plL is _ _ _ h
    have hs := Es.sound T k _ is X c _ ok h
    refine itPI (r1 := oneEv T is) ok.hK cm (fun x hx => ok.bl (by rcases hx with e | e | e <;> rw [e] <;> decide +kernel)) q hs.1 hl.1 (fun ρ ds hd => (evs_len T is ρ ds hd).trans hl.2.symm) fun e1 e2 => ?_
    subst e1
    obtain ⟨a, ea⟩ := seq1 is _ _ iter h
    have i := (hs.2.2 a iter ea rfl).e
    rw [ea]
    exact ⟨i, oneEv_eq T a⟩
theorem nmTgt {N : List Str} {sc : Scope} {fn : Str → Bool} {t : Tg} {tg : Expr} (h : t.chk N sc fn tg = true) (hn : isNm t = true) : ∃ i x p, t = .nm i ∧ tg = .Name x p ∧ N[i]? = some x ∧ lcB sc fn x = true := by
  cases t with
  | nm i =>
    unfold Tg.chk at h
    split at h
    · obtain ⟨h1, h2⟩ := and2 h
      exact ⟨i, _, _, rfl, rfl, of_decide_eq_true h1, h2⟩
    · cases h
  | t2 => cases hn
  | t3 => cases hn
theorem tgtOr {N : List Str} {sc : Scope} {fn : Str → Bool} {t : Tg} {tg : Expr} (h : t.chk N sc fn tg = true) : tgt tg = true ∨ ∃ a b d, tg = .Tuple a b d := by
  cases t with
  | nm i =>
    obtain ⟨_, _, _, _, e, _⟩ := nmTgt h rfl
    subst e; exact .inl rfl
  | t2 =>
    unfold Tg.chk at h
    split at h
    · exact .inr ⟨_, _, _, rfl⟩
    · cases h
  | t3 =>
    unfold Tg.chk at h
    split at h
    · exact .inr ⟨_, _, _, rfl⟩
    · cases h
theorem Pv.sound {T : Tb} {k : Nat} {hot : Bool} (ok : Okx T c k hot X) {a : Pv} {e : Expr} (h : a.chk T hot X.N X.env.scope e = true) : PE X e (tO c (a.ev T)) := by
  cases a with
  | v x => exact pO_v (E.sound T k hot x X c e ok h).e
  | o es =>
    cases e with
    | List l p =>
      have h : (es.chk T hot X.N X.env.scope l && decide (es.len ≤ 1000)) = true := h
      obtain ⟨h1, h2⟩ := and2 h
      exact pO_o es.len (of_decide_eq_true h2) (evs_len T es) (Es.sound T k hot es X c _ ok h1).1
    | _ => cases h
end
theorem capp {m : Mf} : True := trivial
mutual
theorem S.sound (T : Tb) (k n : Nat) (hot : Bool) : ∀ (s : S) (X : Cx) (c : Cw) (st : Stmt), Oks T c k hot X → s.chk T hot X.N X.env.scope st = true → PS X st (tS c n (s.ex T))
  | .asg t e fr, X, c, st, ok, h => by
    unfold S.chk at h
    split at h
    · rename_i tg v pos
      obtain ⟨h, h6⟩ := and2 h
      obtain ⟨h, h5⟩ := and2 h
      obtain ⟨h, h4⟩ := and2 h
      obtain ⟨h, h3⟩ := and2 h
      obtain ⟨h1, h2⟩ := and2 h
      have i := E.sound T k hot e X c v ok.toOkx h2
      have hfn : ∀ x, (fun (_ : Str) => true) x = true → X.fn x = true := fun x _ => by rw [ok.fn]
      by_cases hlc : ∃ a b d f, v = .ListComp a b d f
      · obtain ⟨a, b, d, f, ev⟩ := hlc
        subst ev
        dsimp only at h6
        obtain ⟨i', x, p, et, eg, hN, hl⟩ := nmTgt h3 h6
        subst et eg
        have ll := lcL hfn hl
        refine pS_asgLc ok.nd ok.kd (i.l a b d f rfl) hN ?_
        rcases ll.1 with q | q
        · exact .inl q
        · exact .inr ⟨q, by rw [ok.fn]⟩
      · have hnc : notComp v = true := by
          cases v <;> first | rfl | (exact absurd ⟨_, _, _, _, rfl⟩ hlc) | (cases h6; done)
        have hsw : swappedStores [tg] v X.env = pure none := by
          by_cases hv : ∃ a b d, v = .Tuple a b d
          · obtain ⟨a, b, d, ev⟩ := hv
            subst ev
            dsimp only at h6
            obtain ⟨_, _, _, _, eg, _⟩ := nmTgt h3 h6
            subst eg
            exact storesN (.inl rfl) (.inl rfl)
          · exact storesN (.inr fun a b d e => hv ⟨a, b, d, e⟩) (tgtOr h3)
        refine pS_asg i.e ?_ hnc h5 hsw
        by_cases hn : isNm t = true
        · obtain ⟨i', x, p, et, eg, hN, hl⟩ := nmTgt h3 hn
          subst et eg
          exact pG_nm ok.hK ok.nd hN (lcL hfn hl).1 (lcL hfn hl).2
        · have hh : hot = false := by
            cases hot with
            | false => rfl
            | true => exact absurd (by simpa using h4) hn
          exact Tg.sound ok.hK ok.nd (ok.cm hh) _ hfn t tg h3
    · cases h
  | .own i es fr, X, c, st, ok, h => by
    unfold S.chk at h
    split at h
    · obtain ⟨h, h4⟩ := and2 h
      obtain ⟨h, h3⟩ := and2 h
      obtain ⟨h1, h2⟩ := and2 h
      have hfn : ∀ x, (fun (_ : Str) => true) x = true → X.fn x = true := fun x _ => by rw [ok.fn]
      exact pS_own ok.nd (of_decide_eq_true h1) (lcL hfn h2).1 (lcL hfn h2).2 es.len (of_decide_eq_true h4) (evs_len T es) (Es.sound T k hot es X c _ ok.toOkx h3).1
    · cases h
  | .par i j a b fr, X, c, st, ok, h => by
    unfold S.chk at h
    split at h
    · obtain ⟨h, h11⟩ := and2 h
      obtain ⟨h, h10⟩ := and2 h
      obtain ⟨h, h9⟩ := and2 h
      obtain ⟨h, h8⟩ := and2 h
      obtain ⟨h, h7⟩ := and2 h
      obtain ⟨h, h6⟩ := and2 h
      obtain ⟨h, h5⟩ := and2 h
      obtain ⟨h, h4⟩ := and2 h
      obtain ⟨h, h3⟩ := and2 h
      obtain ⟨h1, h2⟩ := and2 h
      have hh := hotF h1
      subst hh
      have hfn : ∀ x, (fun (_ : Str) => true) x = true → X.fn x = true := fun x _ => by rw [ok.fn]
      exact pS_par (ok.cm rfl) ok.kd ok.nd (of_decide_eq_true h2) (of_decide_eq_true h3) (of_decide_eq_true h4) (lcL hfn h5).1 (lcL hfn h6).1 (lcL hfn h5).2 (lcL hfn h6).2 h7 h8 h9 (Pv.sound ok.toOkx h10) (Pv.sound ok.toOkx h11)
    · cases h
  | .star o i j e fr, X, c, st, ok, h => by
    unfold S.chk at h
    split at h
    · obtain ⟨h, h10⟩ := and2 h
      obtain ⟨h, h9⟩ := and2 h
      obtain ⟨h, h8⟩ := and2 h
      obtain ⟨h, h7⟩ := and2 h
      obtain ⟨h, h6⟩ := and2 h
      obtain ⟨h, h5⟩ := and2 h
      obtain ⟨h, h4⟩ := and2 h
      obtain ⟨h, h3⟩ := and2 h
      obtain ⟨h1, h2⟩ := and2 h
      have hh := hotF h1
      subst hh
      have hfn : ∀ x, (fun (_ : Str) => true) x = true → X.fn x = true := fun x _ => by rw [ok.fn]
      refine pS_star (ok.cm rfl) ok.hK ok.nd o (of_decide_eq_true h2) (of_decide_eq_true h3) (of_decide_eq_true h4) (lcL hfn h5).1 (lcL hfn h6).1 (lcL hfn h5).2 (lcL hfn h6).2 h8 (fun a b d ev => ?_) (E.sound T k _ e X c _ ok.toOkx h10).e
      subst ev
      cases h9
    · cases h
  | .par3 i j l a b d fr, X, c, st, ok, h => by
    unfold S.chk at h
    split at h
    · obtain ⟨h, h14⟩ := and2 h
      obtain ⟨h, h13⟩ := and2 h
      obtain ⟨h, h12⟩ := and2 h
      obtain ⟨h, h11⟩ := and2 h
      obtain ⟨h, h10⟩ := and2 h
      obtain ⟨h, h9⟩ := and2 h
      obtain ⟨h, h8⟩ := and2 h
      obtain ⟨h, h7⟩ := and2 h
      obtain ⟨h, h6⟩ := and2 h
      obtain ⟨h, h5⟩ := and2 h
      obtain ⟨h, h4⟩ := and2 h
      obtain ⟨h, h3⟩ := and2 h
      obtain ⟨h1, h2⟩ := and2 h
      have hh := hotF h1
      subst hh
      exact pS_par3 (ok.cm rfl) ok.kd ok.nd (of_decide_eq_true h2) (of_decide_eq_true h3) (of_decide_eq_true h4) (of_decide_eq_true h5) (of_decide_eq_true h6) (of_decide_eq_true h7) h8 h9 h10 h11 (Pv.sound ok.toOkx h12) (Pv.sound ok.toOkx h13) (Pv.sound ok.toOkx h14)
    · cases h
  | .aug i o e, X, c, st, ok, h => by
    unfold S.chk at h
    split at h
    · obtain ⟨h, h6⟩ := and2 h
      obtain ⟨h, h5⟩ := and2 h
      obtain ⟨h, h4⟩ := and2 h
      obtain ⟨h, h3⟩ := and2 h
      obtain ⟨h1, h2⟩ := and2 h
      have e1 := opB_eq h1
      subst e1
      have hfn : ∀ x, (fun (_ : Str) => true) x = true → X.fn x = true := fun x _ => by rw [ok.fn]
      refine pS_aug ok.hK ok.nd (of_decide_eq_true h3) (lcL hfn h4).1 (lcL hfn h4).2 ?_ (E.sound T k hot e X c _ ok.toOkx h6).e
      cases o <;> first | exact .inl rfl | exact .inr rfl | (cases h2; done)
    · cases h
  | .app i e fr, X, c, st, ok, h => by
    unfold S.chk at h
    split at h
    · obtain ⟨h, h8⟩ := and2 h
      obtain ⟨h, h7⟩ := and2 h
      obtain ⟨h, h6⟩ := and2 h
      obtain ⟨h, h5⟩ := and2 h
      obtain ⟨h, h4⟩ := and2 h
      obtain ⟨h, h3⟩ := and2 h
      obtain ⟨h1, h2⟩ := and2 h
      have hh := hotF h1
      subst hh
      have e1 := of_decide_eq_true h2
      subst e1
      exact pS_app (ok.cm rfl) (of_decide_eq_true h4) (visV h5) h6 h3 h7 (E.sound T k _ e X c _ ok.toOkx h8).e
    · cases h
  | .exp e, X, c, st, ok, h => by
    unfold S.chk at h
    split at h
    · obtain ⟨h, h3⟩ := and2 h
      obtain ⟨h1, h2⟩ := and2 h
      exact pS_exp (E.sound T k hot e X c _ ok.toOkx h3).e (swapN h1)
    · cases h
  | .ret e fr, X, c, st, ok, h => by
    unfold S.chk at h
    split at h
    · exact pS_ret (E.sound T k hot e X c _ ok.toOkx h).e
    · cases h
  | .ite t a b, X, c, st, ok, h => by
    unfold S.chk at h
    split at h
    · obtain ⟨h, h3⟩ := and2 h
      obtain ⟨h1, h2⟩ := and2 h
      exact pS_ite (E.sound T k hot t X c _ ok.toOkx h1).t (Ss.sound T k n hot a X c _ ok h2) (Ss.sound T k n hot b X c _ ok h3)
    · cases h
  | .forl t kd is b fr, X, c, st, ok, h => by
    unfold S.chk at h
    split at h
    · obtain ⟨h, h5⟩ := and2 h
      obtain ⟨h, h4⟩ := and2 h
      obtain ⟨h, h3⟩ := and2 h
      obtain ⟨h1, h2⟩ := and2 h
      have hh := hotF h1
      subst hh
      have hfn : ∀ x, (fun (_ : Str) => true) x = true → X.fn x = true := fun x _ => by rw [ok.fn]
      exact pS_for ok.po (ok.cm rfl) (itS ok.toOkx (ok.cm rfl) h3) (Tg.sound ok.hK ok.nd (ok.cm rfl) _ hfn t _ h4) (Ss.sound T k n _ b X c _ ok h5) h2
    · cases h
  | .whl m t b, X, c, st, ok, h => by
    unfold S.chk at h
    split at h
    · obtain ⟨h, h3⟩ := and2 h
      obtain ⟨h1, h2⟩ := and2 h
      exact pS_whl ok.po (E.sound T k hot t X c _ ok.toOkx h2).t (Ss.sound T k n hot b X c _ ok h3)
    · cases h
  | .rais cl, X, c, st, ok, h => by
    unfold S.chk at h
    split at h
    · obtain ⟨h, h4⟩ := and2 h
      obtain ⟨h, h3⟩ := and2 h
      obtain ⟨h1, h2⟩ := and2 h
      have hh := hotF h1
      subst hh
      exact pS_rais ok.toOkx (of_decide_eq_true h2) (glG h3) h4
    · cases h
  | .brk, X, c, st, ok, h => by
    unfold S.chk at h
    split at h
    · exact pS_brk
    · cases h
  | .pass, X, c, st, ok, h => by
    unfold S.chk at h
    split at h
    · exact pS_pass
    · cases h
  | .tryx b cl i hd, X, c, st, ok, h => by
    unfold S.chk at h
    split at h
    · obtain ⟨h, h8⟩ := and2 h
      obtain ⟨h, h7⟩ := and2 h
      obtain ⟨h, h6⟩ := and2 h
      obtain ⟨h, h5⟩ := and2 h
      obtain ⟨h, h4⟩ := and2 h
      obtain ⟨h, h3⟩ := and2 h
      obtain ⟨h1, h2⟩ := and2 h
      have hh := hotF h1
      subst hh
      exact pS_try ok (of_decide_eq_true h5) (locL h6) (of_decide_eq_true h2) (glG h3) h4 (fun W pn xe tk po => Ss.sound T k n false b (X.tr pn xe) (c.wi W) _ (ok.tr tk po) h7)
        (fun a e oe pn hz hf hl => Ss.sound T k n true hd (X.suite a ((a, oe) :: pn)) (c.suite a e) _ (ok.suite hz hf hl) h8)
    · cases h
theorem Ss.sound (T : Tb) (k n : Nat) (hot : Bool) : ∀ (ss : Ss) (X : Cx) (c : Cw) (l : List Stmt), Oks T c k hot X → ss.chk T hot X.N X.env.scope l = true → PSs X l (tS c n (ss.ex T))
  | .nil, X, c, l, ok, h => by
    unfold Ss.chk at h
    split at h
    · exact pSs_nil
    · cases h
    · cases h
  | .cons s ss, X, c, l, ok, h => by
    unfold Ss.chk at h
    split at h
    · obtain ⟨h1, h2⟩ := and2 h
      exact pSs_cons (S.sound T k n hot s X c _ ok h1) (Ss.sound T k n hot ss X c _ ok h2)
    · cases h
end
end Rf
set_option Elab.async false
set_option linter.all false
set_option maxRecDepth 100000
set_option maxHeartbeats 4000000
namespace Rf
open PySem PySem.Spec PyProof.Rows L2
/-! ### a def of the text -/
theorem undocOk {X : Cx} {t : TS} : ∀ {l : List Stmt}, PSs X (undoc l) t → PSs X l t := by
  intro l h
  unfold undoc at h
  split at h
  · exact PSs.mono (pss_cons ps_doc h) fun D σ H q => q
  · exact h
theorem start_len {N : List Str} {vs : List V} : (L2.start N vs).length = vs.length + (N.length - vs.length) := by
  unfold L2.start
  rw [List.length_append, List.length_map, List.length_replicate]
theorem start_env {K : Kx} {G H : Hp} {N : List Str} : ∀ {vs : List V} {ds : List D} {m : Nat}, DpAll K.1 G vs ds → EnvR K G H (ds.map Sl.fz ++ List.replicate m Sl.un) (vs.map some ++ List.replicate m none)
  | _, _, m, .nil => by
    refine ⟨by simp, fun i s v e1 e2 => ?_⟩
    simp only [List.map_nil, List.nil_append] at e1
    rw [List.getElem?_replicate] at e1
    split at e1
    · have := Option.some.inj e1; subst this; trivial
    · cases e1
  | v :: vs, d :: ds, m, .cons a b => by
    have ih := start_env (H := H) (N := N) (m := m) b
    refine ⟨by simp [DpAll_len b], fun i s w e1 e2 => ?_⟩
    cases i with
    | zero =>
      have e1 : some (Sl.fz d) = some s := e1
      have e2 : some (some v) = some w := e2
      injection e1 with e1
      injection e2 with e2
      subst e1 e2
      exact ⟨v, rfl, a⟩
    | succ i => exact ih.at_ i s w e1 e2
theorem bodyOk {Z : Wd} {T : Tb} {k : Nat} (Tk : Tok T Z k) {x qual : Str} {scope : Scope} {body : List Stmt} {N ps : List Str} {b : Ss} {pl : Bool} (S : FnScope N ps scope) (hchk : b.chk T false N scope (undoc body) = true) {f : Addr}
    (cdv : Value) (A : Around) (outer : List PySem.Env) (s : Shared) (H : Hp) (vs : List V) (Q : VK) (E : XK) (hr : Room k (A.deeper (envOfC qual scope s.heap.objs.size f cdv))) (hsp : spF Z.K Z.ca ⟨x, ps.length, runD T ps.length N.length b, pl⟩ vs H Q E) :
    ∃ t, PSs (cxOf (L2.CX Z.P Z.w) Z.P Z.w Z.K Z.mg Z.base N qual scope f cdv A outer s H E) body t ∧ t { nx := fun _ H' => Q .non H', rt := Q } (L2.start N vs) H := by
  obtain ⟨ds, G, hl, sg, rd, p⟩ := hsp
  have hpl : ps.length ≤ N.length := by have := congrArg List.length S.pre; rw [List.length_take] at this; omega
  let c : Cw := ⟨Z.K, Z.ca, fun cls d _ H => E cls d H, none⟩
  have ok : Oks T c k false (cxOf (L2.CX Z.P Z.w) Z.P Z.w Z.K Z.mg Z.base N qual scope f cdv A outer s H E) :=
    { hK := rfl, nd := S.nd, tk := takes_of rfl rfl rfl rfl, rm := fun _ => hr, cm := fun _ => rfl, hu := by have := hr.un; show (A.deeper (envOfC qual scope s.heap.objs.size f cdv)).units + 65 < cLine; omega
      isE := (fun _ _ h => nomatch h), tb := Tk, kd := S.kind, po := passes_of rfl, hs := rfl, hf := rfl, fn := rfl }
  refine ⟨tS c N.length (b.ex T), undocOk (Ss.sound T k N.length false b _ c _ ok hchk), ?_⟩
  have hl : ds.length = ps.length := hl
  have hvl : vs.length = ps.length := by rw [DpAll_len rd]; exact hl
  refine ⟨ds.map .fz ++ List.replicate (N.length - ps.length) .un, G, H, G, ⟨by rw [List.length_append, List.length_map, List.length_replicate, hl]; omega, Stp.refl sg, ?_, fun i es a e1 e2 => ?_, fun i j es fs a ne e1 => ?_⟩, ?_⟩
  · have : L2.start N vs = vs.map some ++ List.replicate (N.length - ps.length) none := by unfold L2.start; rw [hvl]
    rw [this]
    exact start_env (K := c.kx) (N := N) rd
  · have noOw : ∀ (i : Nat) es, (ds.map Sl.fz ++ List.replicate (N.length - ps.length) Sl.un)[i]? ≠ some (.ow es) := fun i es e => by
      rcases List.mem_append.mp (List.mem_of_getElem? e) with q | q
      · obtain ⟨_, _, z⟩ := List.mem_map.mp q; cases z
      · have := (List.mem_replicate.mp q).2; cases this
    exact absurd e1 (noOw i es)
  · have noOw : ∀ (i : Nat) es, (ds.map Sl.fz ++ List.replicate (N.length - ps.length) Sl.un)[i]? ≠ some (.ow es) := fun i es e => by
      rcases List.mem_append.mp (List.mem_of_getElem? e) with q | q
      · obtain ⟨_, _, z⟩ := List.mem_map.mp q; cases z
      · have := (List.mem_replicate.mp q).2; cases this
    exact absurd e1 (noOw i es)
  · have p : PoG (Dp Z.K) ⟨Z.K, Z.ca, fun cls d _ H => E cls d H, none⟩ [] G H (runD T ps.length N.length b ds) Q := p
    unfold runD at p
    rw [if_pos hl] at p
    cases q : b.ex T (ds.map .fz ++ List.replicate (N.length - ps.length) .un) with
    | ok fl =>
      rw [q] at p
      cases fl with
      | nx ρ => exact fun σ' G' H' h => p .non G' H' h.st .non
      | rt d => exact fun u G' H' st r => p u G' H' st r
      | bk ρ => exact p.elim
      | ct ρ => exact p.elim
    | ex e =>
      rw [q] at p
      intro σ' G' H' _ st
      have p := p G' H' st
      unfold XW at p ⊢
      cases z : e.2 with
      | none => rw [z] at p; exact p
      | some v => rw [z] at p; exact p
    | no => rw [q] at p; exact p.elim
theorem def_ok {Z : Wd} {T : Tb} {k : Nat} (Tk : Tok T Z k) {x qual : Str} {params : Arguments} {body : List Stmt} {scope : Scope} {dvs : List V} {kws : List (Str × V)} {fa : Addr} {fd : FuncData} {N ps : List Str} {b : Ss} {pl : Bool} (F : L2.FunD Z.K x qual params body scope dvs kws fa fd) (S : FnScope N ps scope) (hchk : b.chk T false N scope (undoc body) = true) :
    FnOk Z.P Z.w Z.K Z.mg Z.base (L2.CX Z.P Z.w) (k + 1) fa fd ps (spF Z.K Z.ca ⟨x, ps.length, runD T ps.length N.length b, pl⟩) := by
  refine F.ok S (fun vs H Q E h => ?_) (fun cdv A outer s H vs Q E hr h => bodyOk Tk S hchk cdv A outer s H vs Q E hr h)
  obtain ⟨ds, G, hl, sg, rd, p⟩ := h
  rw [DpAll_len rd]; exact hl
theorem Tok.mono {T : Tb} {Z : Wd} {j k : Nat} (h : Tok T Z j) (hk : j ≤ k) : Tok T Z k := ⟨h.cls, h.isa, fun i f e q => (h.fns i f e q).mono hk, fun i s f e1 e2 => (h.shs i s f e1 e2).mono hk, h.gls, h.blt⟩
/-- one def more -/
theorem Tok.push {T T' : Tb} {Z : Wd} {k : Nat} (h : Tok T Z k) {f : Fn} (hf : f.pl = true → Fok Z (k + 1) f) (e1 : T'.fns = T.fns ++ [f]) (e2 : T'.shs = T.shs) (e3 : T'.gls = T.gls) (e4 : T'.cls = T.cls) (e5 : T'.isa = T.isa)
    (hs : ∀ s ∈ T.shs, s.1 = T.fns.length → Sok Z (k + 1) f s) : Tok T' Z (k + 1) := by
  have h := h.mono (Nat.le_succ k)
  refine ⟨by rw [e4]; exact h.cls, by rw [e4, e5]; exact h.isa, fun i g e => ?_, fun i s g e6 e7 => ?_, by rw [e3]; exact h.gls, h.blt⟩
  · rw [e1] at e
    by_cases hi : i < T.fns.length
    · rw [List.getElem?_append_left hi] at e; exact h.fns i g e
    · rw [List.getElem?_append_right (by omega)] at e
      cases q : i - T.fns.length with
      | zero => rw [q] at e; cases e; exact hf
      | succ n => rw [q] at e; cases e
  · rw [e2] at e6
    rw [e1] at e7
    by_cases hi : s.1 < T.fns.length
    · rw [List.getElem?_append_left hi] at e7; exact h.shs i s g e6 e7
    · rw [List.getElem?_append_right (by omega)] at e7
      cases q : s.1 - T.fns.length with
      | zero => rw [q] at e7; cases e7; exact hs s (List.mem_of_getElem? e6) (by omega)
      | succ n => rw [q] at e7; cases e7
/-- a def without defaults, called by places alone -/
theorem Tok.def {T T' : Tb} {Z : Wd} {k : Nat} (h : Tok T Z k) {x qual : Str} {params : Arguments} {body : List Stmt} {scope : Scope} {fa : Addr} {fd : FuncData} {N ps : List Str} {b : Ss} (F : L2.FunD Z.K x qual params body scope [] [] fa fd) (S : FnScope N ps scope) (hchk : b.chk T false N scope (undoc body) = true)
    (hm : Z.mg x = some (.ref fa)) (hb : L2.Binds Z.K fd ps []) (e1 : T'.fns = T.fns ++ [⟨x, ps.length, runD T ps.length N.length b, true⟩]) (e2 : T'.shs = T.shs) (e3 : T'.gls = T.gls) (e4 : T'.cls = T.cls) (e5 : T'.isa = T.isa) (hs : (T.shs.all fun s => s.1 != T.fns.length) = true) : Tok T' Z (k + 1) :=
  h.push (fun _ => ⟨fa, fd, ps, def_ok h F S hchk, rfl, hm, F.kp, hb⟩) e1 e2 e3 e4 e5 fun s hs1 e => by
    have := List.all_eq_true.mp hs s hs1
    rw [e] at this
    simp at this
/-! ### keywords -/
/-- the keyword-only ones in order: (true, j): the j-th keyword, (false, j): the j-th that lacks -/
def pick {α : Type} (sel : List (Bool × Nat)) (us mv ws : List α) : List α := us ++ sel.filterMap fun p => if p.1 = true then ws[p.2]? else mv[p.2]?
theorem paired_pick {α β : Type} {R : α → β → Prop} {P : List α → List β → Prop} (hn : P [] []) (hc : ∀ a b l m, R a b → P l m → P (a :: l) (b :: m)) (sel : List (Bool × Nat)) {mz zs : List α} {mv ws : List β}
    (h1 : ∀ j : Nat, (mz[j]? = none ∧ mv[j]? = none) ∨ ∃ a b, mz[j]? = some a ∧ mv[j]? = some b ∧ R a b) (h2 : ∀ j : Nat, (zs[j]? = none ∧ ws[j]? = none) ∨ ∃ a b, zs[j]? = some a ∧ ws[j]? = some b ∧ R a b) :
    P (sel.filterMap fun p => if p.1 = true then zs[p.2]? else mz[p.2]?) (sel.filterMap fun p => if p.1 = true then ws[p.2]? else mv[p.2]?) := by
  induction sel with
  | nil => exact hn
  | cons p sel ih =>
    rw [List.filterMap_cons, List.filterMap_cons]
    cases hp : p.1 with
    | true =>
      simp only [if_true]
      rcases h2 p.2 with ⟨e1, e2⟩ | ⟨a, b, e1, e2, r⟩
      · rw [e1, e2]; exact ih
      · rw [e1, e2]; exact hc _ _ _ _ r ih
    | false =>
      simp only [Bool.false_eq_true, if_false]
      rcases h1 p.2 with ⟨e1, e2⟩ | ⟨a, b, e1, e2, r⟩
      · rw [e1, e2]; exact ih
      · rw [e1, e2]; exact hc _ _ _ _ r ih
theorem vals_at {vs : List V} {us : List Value} (h : Vals vs us) : ∀ j : Nat, (vs[j]? = none ∧ us[j]? = none) ∨ ∃ a b, vs[j]? = some a ∧ us[j]? = some b ∧ RelV a b := fun j => by
  cases q : vs[j]? with
  | none =>
    have := List.getElem?_eq_none_iff.mp q
    exact .inl ⟨rfl, List.getElem?_eq_none_iff.mpr (by rw [← h.length]; exact this)⟩
  | some a => obtain ⟨u, e, r⟩ := h.get q; exact .inr ⟨a, u, rfl, e, r⟩
theorem dp_at {K : PySem.W.Frag} {G : Hp} {vs : List V} {ds : List D} (h : DpAll K G vs ds) : ∀ j : Nat, (vs[j]? = none ∧ ds[j]? = none) ∨ ∃ a b, vs[j]? = some a ∧ ds[j]? = some b ∧ Dp K G a b := fun j => by
  cases q : vs[j]? with
  | none =>
    have := List.getElem?_eq_none_iff.mp q
    exact .inl ⟨rfl, List.getElem?_eq_none_iff.mpr (by rw [← DpAll_len h]; exact this)⟩
  | some a => obtain ⟨u, e, r⟩ := DpAll_getV h q; exact .inr ⟨a, u, rfl, e, r⟩
theorem pick_vals {sel : List (Bool × Nat)} {vs mz zs : List V} {us mv ws : List Value} (a : Vals vs us) (b : Vals mz mv) (c : Vals zs ws) : Vals (pick sel vs mz zs) (pick sel us mv ws) :=
  Vals.append a (paired_pick (P := Vals) .nil (fun _ _ _ _ r t => .cons r t) sel (vals_at b) (vals_at c))
theorem pick_dp {K : PySem.W.Frag} {G : Hp} {sel : List (Bool × Nat)} {vs mz zs : List V} {us mv ws : List D} (a : DpAll K G vs us) (b : DpAll K G mz mv) (c : DpAll K G zs ws) : DpAll K G (pick sel vs mz zs) (pick sel us mv ws) :=
  DpAll_app a (paired_pick (P := DpAll K G) .nil (fun _ _ _ _ r t => .cons r t) sel (dp_at b) (dp_at c))
/-- a default as data -/
def dvD : He.Dv → D
  | .non => .none
  | .bl b => .bool b
  | .int i => .int i
  | .str x => .str x
  | _ => .none
def dvOk : He.Dv → Bool
  | .non => true | .bl _ => true | .int _ => true | .str _ => true
  | _ => false
theorem dv_dp {K : PySem.W.Frag} {G : Hp} {d : He.Dv} (h : dvOk d = true) : Dp K G (d.v K) (dvD d) := by
  cases d with
  | non => exact .non
  | bl b => exact .bl b
  | int i => exact .int i
  | str x => exact .str x
  | _ => cases h
theorem dvs_dp {K : PySem.W.Frag} {G : Hp} : ∀ {l : List (Str × He.Dv)}, (l.all fun q => dvOk q.2) = true → DpAll K G (l.map fun q => q.2.v K) (l.map fun q => dvD q.2)
  | [], _ => .nil
  | q :: l, h => by
    rw [List.all_cons, Bool.and_eq_true] at h
    exact .cons (dv_dp h.1) (dvs_dp h.2)
/-- one way to call a def that has keyword-only parameters -/
structure Sh where
  f : Nat
  n : Nat
  ks : List Str
  ms : List (Str × He.Dv)
  sel : List (Bool × Nat)
def Sh.tup (s : Sh) : Nat × Nat × List Str × (List D → List D → List D) := (s.f, s.n, s.ks, fun ds es => pick s.sel ds (s.ms.map fun q => dvD q.2) es)
theorem sok_mk {Z : Wd} {k : Nat} {f : Fn} {s : Sh} {x qual : Str} {params : Arguments} {body : List Stmt} {scope : Scope} {kwd : List (Str × He.Dv)} {fa : Addr} {fd : FuncData} {ps : List Str}
    (F : L2.FunD Z.K x qual params body scope [] (kwd.map fun q => (q.1, q.2.v Z.K)) fa fd) (hf : FnOk Z.P Z.w Z.K Z.mg Z.base (L2.CX Z.P Z.w) k fa fd ps (spF Z.K Z.ca f)) (hl : ps.length = f.ar) (hm : Z.mg f.name = some (.ref fa)) (hk : kwd ≠ []) (hms : ∀ q ∈ s.ms, q ∈ kwd) (hd : (s.ms.all fun q => dvOk q.2) = true)
    (hlen : ∀ ds es : List D, ds.length = s.n → es.length = s.ks.length → (pick s.sel ds (s.ms.map fun q => dvD q.2) es).length = f.ar)
    (h : ∀ (D : Addr) (doc pm : Value) (an : Option Addr) (cdv ct : Value) (us mv ws : List Value), us.length = s.n → mv.length = (s.ms.map fun q => (q.1, q.2.v Z.K)).length → ws.length = s.ks.length →
      KwChain D (((s.ms.map fun q => (q.1, q.2.v Z.K)).map (·.1)).zip mv) (bindArgs (PySem.W.fnOf x qual params body scope .none (.ref D) doc pm an cdv ct) ⟨us, s.ks.zip ws⟩) (ps.zip (pick s.sel us mv ws))) : Sok Z k f s.tup := by
  obtain ⟨mv, hb⟩ := F.kbinds0 (ps := ps) s.n s.ks (s.ms.map fun q => (q.1, q.2.v Z.K)) (fun us mv ws => pick s.sel us mv ws) (by intro e; exact hk (List.map_eq_nil_iff.mp e)) (fun q hq => by
    obtain ⟨z, hz, e⟩ := List.mem_map.mp hq
    exact e ▸ List.mem_map.mpr ⟨z, hms z hz, rfl⟩) (fun a b c => pick_vals a b c) h
  refine ⟨fa, fd, ps, _, _, hf, hl, hm, F.kp, hb, fun G vs ds zs es r1 r2 l1 l2 => ⟨?_, hlen ds es l1 l2⟩⟩
  have e : ((s.ms.map fun q => (q.1, q.2.v Z.K)).map (·.2)) = s.ms.map fun q => q.2.v Z.K := by rw [List.map_map]; rfl
  show DpAll Z.K G (pick s.sel vs ((s.ms.map fun q => (q.1, q.2.v Z.K)).map (·.2)) zs) _
  rw [e]
  exact pick_dp r1 (dvs_dp hd) r2
/-- a def with keyword-only parameters -/
theorem Tok.defK {T T' : Tb} {Z : Wd} {k : Nat} (h : Tok T Z k) {x qual : Str} {params : Arguments} {body : List Stmt} {scope : Scope} {kwd : List (Str × He.Dv)} {fa : Addr} {fd : FuncData} {N ps : List Str} {b : Ss} (F : L2.FunD Z.K x qual params body scope [] (kwd.map fun q => (q.1, q.2.v Z.K)) fa fd) (S : FnScope N ps scope) (hchk : b.chk T false N scope (undoc body) = true)
    (hm : Z.mg x = some (.ref fa)) (e1 : T'.fns = T.fns ++ [⟨x, ps.length, runD T ps.length N.length b, false⟩]) (e2 : T'.shs = T.shs) (e3 : T'.gls = T.gls) (e4 : T'.cls = T.cls) (e5 : T'.isa = T.isa)
    (hs : FnOk Z.P Z.w Z.K Z.mg Z.base (L2.CX Z.P Z.w) (k + 1) fa fd ps (spF Z.K Z.ca ⟨x, ps.length, runD T ps.length N.length b, false⟩) → ∀ s ∈ T.shs, s.1 = T.fns.length → Sok Z (k + 1) ⟨x, ps.length, runD T ps.length N.length b, false⟩ s) : Tok T' Z (k + 1) :=
  h.push (fun q => absurd q Bool.false_ne_true) e1 e2 e3 e4 e5 (hs (def_ok h F S hchk))
/-! ### classes of refusals -/
theorem xok_mk {Z : Wd} {C : Addr} {x : Str} (a : Z.mg x = some (.ref C)) (xi : PySem.W.excIn Z.K C [.type "ValueError", .type "Exception", .type "BaseException", .type "object"] "ValueError.__new__" = true) (kp : PySem.W.keepIn Z.K (.ref C) = true)
    (sb : PySem.W.subIn Z.K (.ref C) (.type "BaseException") = some true) (sv : PySem.W.subIn Z.K (.ref C) (.type "ValueError") = some true) (ty : PySem.W.typeIn Z.K (.ref C) = some (.type "type")) (hd : PySem.W.hasDictIn Z.K C = true)
    (hg : PySem.W.findIn Z.K (.ref C) "__getattribute__" = some (some (.builtin "BaseException.__getattribute__"))) (hk : PySem.W.findIn Z.K (.ref C) "__getattr__" = some none) (ha : PySem.W.findIn Z.K (.ref C) "__class__" = some (some (.builtin "object.__class__")))
    (hn : PySem.W.specialIn Z.K (.builtin "object.__class__") "__get__" = some (some (.builtin "getset_descriptor.__get__"))) (ht : PySem.W.takesIn Z.K (.builtin "object.__class__") = some true) (hm : PySem.W.mroIn Z.K C (.type "object") = some true) : Xok Z C x := by
  refine ⟨a, xi, kp, sb, ty, ?_, ⟨hg, hk, sb, hd, ha, hn, ht, hm⟩⟩
  have h : PySem.W.kitMeta "ValueError" = true := by decide +kernel
  show (if (Value.ref C == Value.type "ValueError") = true then some true else PySem.W.kitCls Z.K (.ref C) (.type "ValueError")) = some true
  rw [if_neg (show ¬ ((Value.ref C == Value.type "ValueError") = true) from by simp)]
  unfold PySem.W.kitCls
  simp only [h, if_true]
  exact sv
theorem isa_mk {K : PySem.W.Frag} {C C' : Addr} {b : Bool} (h1 : PySem.W.subIn K (.ref C) (.type "BaseException") = some true) (hd : PySem.W.hasDictIn K C = true) (ht : PySem.W.typeIn K (.ref C) = some (.type "type")) (h4 : PySem.W.subIn K (.ref C') (.ref C) = some b) (hb : C' = C → b = true) :
    PySem.W.kitOne K (.ref C') (.ref C) = some b ∧ PySem.W.exmOne K (.ref C') (.ref C) = some b := by
  refine ⟨?_, PySem.W.exm_ref h1 hd ht h4⟩
  obtain ⟨cd, hc, _⟩ := PySem.W.any_some hd
  have e2 : ((PySem.W.clsIn K C).isSome && PySem.W.typeIn K (.ref C) == some (.type "type")) = true := by rw [hc, ht] <;> rfl
  unfold PySem.W.kitOne
  split
  · rename_i z
    have z : Value.ref C' = Value.ref C := eq_of_beq z
    injection z with z
    rw [hb z]
  · show (if ((PySem.W.clsIn K C).isSome && PySem.W.typeIn K (.ref C) == some (.type "type")) = true then PySem.W.subIn K (.ref C') (.ref C) else none) = some b
    rw [if_pos e2]; exact h4
/-! ### facts of the top, by one look -/
def isOk (K : PySem.W.Frag) (C : Addr) (x : Str) : Bool := decide (PySem.W.nsIn K mainGlobals x = some (some (.ref C)))
def xokB (K : PySem.W.Frag) (C : Addr) (x : Str) : Bool :=
  isOk K C x && (PySem.W.excIn K C [.type "ValueError", .type "Exception", .type "BaseException", .type "object"] "ValueError.__new__" && (PySem.W.keepIn K (.ref C) && (decide (PySem.W.subIn K (.ref C) (.type "BaseException") = some true) &&
  (decide (PySem.W.subIn K (.ref C) (.type "ValueError") = some true) && (decide (PySem.W.typeIn K (.ref C) = some (.type "type")) && (PySem.W.hasDictIn K C && (decide (PySem.W.findIn K (.ref C) "__getattribute__" = some (some (.builtin "BaseException.__getattribute__"))) &&
  (decide (PySem.W.findIn K (.ref C) "__getattr__" = some none) && (decide (PySem.W.findIn K (.ref C) "__class__" = some (some (.builtin "object.__class__"))) && (decide (PySem.W.specialIn K (.builtin "object.__class__") "__get__" = some (some (.builtin "getset_descriptor.__get__"))) &&
  (decide (PySem.W.takesIn K (.builtin "object.__class__") = some true) && decide (PySem.W.mroIn K C (.type "object") = some true))))))))))))
theorem xokB_ok {Z : Wd} {C : Addr} {x : Str} {h : Heap} (X : Z.K.In h) (G : h.Ns mainGlobals Z.mg) (c : xokB Z.K C x = true) : Xok Z C x := by
  unfold xokB isOk at c
  simp only [Bool.and_eq_true, decide_eq_true_eq] at c
  obtain ⟨c1, c2, c3, c4, c5, c6, c7, c8, c9, c10, c11, c12, c13⟩ := c
  exact xok_mk (PySem.W.mg_of X G c1) c2 c3 c4 c5 c6 c7 c8 c9 c10 c11 c12 c13
/-- a module's constant -/
inductive Gc where
  | dv (d : He.Dv) | tup (ds : List He.Dv)
def Gc.d : Gc → D
  | .dv d => dvD d
  | .tup ds => .tuple (ds.map dvD)
def gcB (K : PySem.W.Frag) (x : Str) : Gc → Bool
  | .dv d => dvOk d && (match PySem.W.nsIn K mainGlobals x with | some (some u) => He.relB (d.v K) u | _ => false)
  | .tup ds => ds.all dvOk && (decide (PySem.W.nsIn K mainGlobals x = some (some (.ref (He.ga K x)))) && He.tupB K x ds)
theorem dvAll_dp {K : PySem.W.Frag} {G : Hp} : ∀ {l : List He.Dv}, l.all dvOk = true → DpAll K G (l.map (He.Dv.v K)) (l.map dvD)
  | [], _ => .nil
  | q :: l, h => by
    rw [List.all_cons, Bool.and_eq_true] at h
    exact .cons (dv_dp h.1) (dvAll_dp h.2)
theorem gcB_ok {Z : Wd} {x : Str} {g : Gc} {h : Heap} (X : Z.K.In h) (G : h.Ns mainGlobals Z.mg) (c : gcB Z.K x g = true) : ∃ v u, Z.mg x = some u ∧ RelV v u ∧ ∀ G, Dp Z.K G v g.d := by
  cases g with
  | dv d =>
    unfold gcB at c
    rw [Bool.and_eq_true] at c
    cases q : PySem.W.nsIn Z.K mainGlobals x with
    | none => rw [q] at c; cases c.2
    | some o =>
      cases o with
      | none => rw [q] at c; cases c.2
      | some u => rw [q] at c; exact ⟨d.v Z.K, u, PySem.W.mg_of X G q, He.relB_ok c.2, fun G => dv_dp c.1⟩
  | tup ds =>
    unfold gcB at c
    simp only [Bool.and_eq_true, decide_eq_true_eq] at c
    obtain ⟨c1, c2, c3⟩ := c
    exact ⟨.ref (He.ga Z.K x), _, PySem.W.mg_of X G c2, rfl, fun G => .tup (He.tupB_ok c3 G) (dvAll_dp c1)⟩
def isaB (K : PySem.W.Frag) (a b : Addr) (r : Bool) : Bool := decide (PySem.W.kitOne K (.ref a) (.ref b) = some r) && decide (PySem.W.exmOne K (.ref a) (.ref b) = some r)
/-- the classes' places by their names -/
def caOf (K : PySem.W.Frag) (cls : List Str) (i : Nat) : Addr := He.ga K (cls.getD i default)
def topB (cls : List Str) (isa : Nat → Nat → Bool) (gls : List (Str × Gc)) (K : PySem.W.Frag) : Bool :=
  ((List.range cls.length).all fun i => xokB K (caOf K cls i) (cls.getD i default)) && (((List.range cls.length).all fun i => (List.range cls.length).all fun j => isaB K (caOf K cls i) (caOf K cls j) (isa i j)) &&
  ((gls.all fun p => gcB K p.1 p.2) && bnames.all fun x => decide (PySem.W.nsIn K mainGlobals x = some none)))
def tb0 (cls : List Str) (isa : Nat → Nat → Bool) (gls : List (Str × Gc)) (shs : List Sh) : Tb := { fns := [], shs := shs.map Sh.tup, gls := gls.map fun p => (p.1, p.2.d), cls := cls, isa := isa }
theorem tok0 {Z : Wd} {h : Heap} {cls : List Str} {isa : Nat → Nat → Bool} {gls : List (Str × Gc)} {shs : List Sh} (X : Z.K.In h) (G : h.Ns mainGlobals Z.mg) (c : topB cls isa gls Z.K = true) (hca : Z.ca = caOf Z.K cls) : Tok (tb0 cls isa gls shs) Z 0 := by
  unfold topB at c
  simp only [Bool.and_eq_true] at c
  obtain ⟨c1, c2, c3, c4⟩ := c
  refine ⟨fun i x e => ?_, fun i j hi hj => ?_, fun i f e => ?_, fun i s f e1 e2 => ?_, fun i p e => ?_, fun x hx => ?_⟩
  · have hi : i < cls.length := (List.getElem?_eq_some_iff.mp e).1
    have q := List.all_eq_true.mp c1 i (List.mem_range.mpr hi)
    have e : cls[i]? = some x := e
    have e2 : cls.getD i default = x := by rw [List.getD_eq_getElem?_getD, e]; rfl
    rw [e2] at q
    rw [hca]
    exact xokB_ok X G q
  · have q := List.all_eq_true.mp (List.all_eq_true.mp c2 i (List.mem_range.mpr hi)) j (List.mem_range.mpr hj)
    unfold isaB at q
    simp only [Bool.and_eq_true, decide_eq_true_eq] at q
    rw [hca]; exact q
  · cases e
  · cases e2
  · have e : (gls.map fun p => (p.1, p.2.d))[i]? = some p := e
    rw [List.getElem?_map] at e
    cases q : gls[i]? with
    | none => rw [q] at e; cases e
    | some g =>
      rw [q] at e
      have e : (g.1, g.2.d) = p := Option.some.inj e
      subst e
      exact gcB_ok X G (List.all_eq_true.mp c3 g (List.mem_of_getElem? q))
  · have q := of_decide_eq_true (List.all_eq_true.mp c4 x hx)
    exact PySem.W.mg_none_of X G q
/-- what is looked at behind the top: the defs, and more -/
def obsR (fn : List He.DefD) (m : PySem.W.Frag → Bool) (K : PySem.W.Frag) : He.AlD := ((fn.all fun d => d.ok K && isOk K (He.fAd K d.at_) d.name) && m K, fn.map fun d => He.fnW K d.at_)
def SaysR (fn : List He.DefD) (m : PySem.W.Frag → Bool) (K : PySem.W.Frag) : Prop := obsR fn m K = He.valD fn
def obsRG (n : Nat) (fn : List He.DefD) (m : PySem.W.Frag → Bool) (g : Addr → Option Obj) : He.AlD := obsR fn m (He.frG g (He.asD g n))
def hookR (n : Nat) (fn : List He.DefD) (m : PySem.W.Frag → Bool) : PySem.W.Hook where
  α := He.AlD
  obs := fun s => obsRG n fn m s.heap.get?
  val := fun _ => He.valD fn
  says := fun _ h => ∃ K : PySem.W.Frag, K.In h ∧ SaysR fn m K
  of := fun _ _ e => ⟨_, He.frG_in, e⟩
  keeps := fun _ _ _ ⟨K, hK, c⟩ k => ⟨K, PySem.W.Frag.In.keeps hK k, c⟩
theorem obsRG_eq {n : Nat} {fn : List He.DefD} {m : PySem.W.Frag → Bool} {g : Addr → Option Obj} {s : Shared} (h : ∀ a, g a = s.heap.get? a) : obsRG n fn m g = (hookR n fn m).obs s := by
  have e : g = s.heap.get? := funext h
  rw [e]; rfl
section
variable {fn : List He.DefD} {m : PySem.W.Frag → Bool} {K : PySem.W.Frag}
theorem SaysR.more (c : SaysR fn m K) : m K = true := (He.ba (show ((fn.all fun d => d.ok K && isOk K (He.fAd K d.at_) d.name) && m K) = true from congrArg (fun z : He.AlD => z.1) c)).2
theorem SaysR.def_ (c : SaysR fn m K) (i : Nat) {d : He.DefD} (h : fn[i]? = some d := by rfl) : ∃ fd, FunD K d.name d.qual d.params d.body d.scope (d.dvs K) (d.kws K) (He.fAd K d.at_) fd ∧ PySem.W.nsIn K mainGlobals d.name = some (some (.ref (He.fAd K d.at_))) := by
  have c2 := (He.ba (show ((fn.all fun d => d.ok K && isOk K (He.fAd K d.at_) d.name) && m K) = true from congrArg (fun z : He.AlD => z.1) c)).1
  have e : fn.map (fun d => He.fnW K d.at_) = fn.map He.DefD.val := congrArg (fun z : He.AlD => z.2) c
  have e2 : (fn.map fun d => He.fnW K d.at_)[i]? = (fn.map He.DefD.val)[i]? := by rw [e]
  rw [List.getElem?_map, List.getElem?_map, h] at e2
  have c3 := List.all_eq_true.mp c2 d (List.mem_of_getElem? h)
  rw [Bool.and_eq_true] at c3
  obtain ⟨fd, F⟩ := He.DefD.funD (Option.some.inj e2) c3.1
  exact ⟨fd, F, of_decide_eq_true c3.2⟩
end
/-- a plain def of the text by its place -/
def dd (x : String) (st : Stmt) (kwd : List (Str × He.Dv) := []) : He.DefD := ⟨(Str.ofString x, none), Str.ofString x, Str.ofString x, defArgs st, defBody st, defScope st, [], kwd⟩
/-- the law's own run -/
theorem law_spec {Z : Wd} {T : Tb} {k : Nat} {f : Fn} {ps : List Str} {fa : Addr} {fd : FuncData} (hf : FnOk Z.P Z.w Z.K Z.mg Z.base (L2.CX Z.P Z.w) k fa fd ps (spF Z.K Z.ca f)) : True := trivial
theorem ints_dp {K : PySem.W.Frag} {G : Hp} : ∀ ns : List Int, DpAll K G (ns.map V.int) (ns.map PyData.int)
  | [] => .nil
  | n :: ns => .cons (.int n) (ints_dp ns)
theorem law_asks {K : PySem.W.Frag} {ca : Nat → Addr} {f : Fn} (har : f.ar = 1) (hm : ∀ ns : List Int, ns.length ≤ 63 → f.m [.list (ns.map PyData.int)] = .ok (.bool true)) (H : Hp) (a : Addr) (ns : List Int) (hl : ns.length ≤ 63) (hS : SqL K H a (ns.map V.int)) :
    spF K ca f [.ref a] H (fun v _ => v = .bl true) fun _ _ _ => False := by
  refine ⟨[.list (ns.map PyData.int)], H, har.symm, Same.refl H, .cons (.lst hS (ints_dp ns)) .nil, ?_⟩
  show PoG (Dp K) _ _ H H (f.m [.list (ns.map PyData.int)]) _
  rw [hm ns hl]
  intro u G' H' _ r
  cases r
  rfl
theorem law_walk {l : PySem.W.OpenLaw} {n k : Nat} {q : Program} {loose : List Str} {XP : (Str → Option Value) → Heap → Prop} {YP : World → Heap → Prop} {d : DefRec} {x : Str} (hn : l.most = some n) (hn2 : n ≤ sizeLine) (hdf : d.params.defaults = []) (hr : Room k callerA)
    (F : ∀ (w : World) (mg : Str → Option Value) (fa : Addr) (h : Heap), YP w h → h.Ns mainGlobals mg → mg d.name = some (.ref fa) → ∃ (K : PySem.W.Frag) (fd : FuncData) (sp : Sp), K.In h ∧ (∀ (s : Shared) (u : Value), BindsTo s fd ⟨[u], []⟩ [(x, u)]) ∧
      (∀ (H : Hp) (a : Addr) (ns : List Int), ns.length ≤ n → SqL K H a (ns.map V.int) → sp [.ref a] H (fun v _ => v = .bl true) fun _ _ _ => False) ∧ ∀ base : Heap, K.In base → base.Ns mainGlobals mg → FnOk l.prog w K mg base (L2.CX l.prog w) k fa fd [x] sp) :
    PySem.W.WalkO q loose XP YP l.row.toRowW d [] (fun f vs => PySem.call f vs) := by
  refine Att.attach_callB hn hdf fun w s₀ s₁ mg mb fa o pm cd doc a vs ns G Y ho hd hcd hmg hobj hints hlen _ hg => ?_
  obtain ⟨K, fd, sp, KX, hb, hsp, hF⟩ := F w mg fa _ Y G.T.g hmg
  exact law_call KX G.T.g G.T.b G.T.builtins G.T.nolimit hg hobj hints (Nat.le_trans hlen hn2) hr hF hb (fun H _ hS => hsp H a ns hlen hS) fun H e s' ⟨_, _, _, _, _, _, _, _, _, _, _, _, z⟩ => z
end Rf
set_option linter.all false
namespace Rf
open PySem
/-- a def -/
def B_law_at : Ss := (.cons (.ret (.idx (.idx (.var 0) (.bcl .max (.cons (.cst (.int 0)) (.cons (.bcl .min (.cons (.bin .Sub (.bcl .len (.cons (.var 0) .nil)) (.cst (.int 1))) (.cons (.var 2) .nil))) .nil)))) (.bcl .max (.cons (.cst (.int 0)) (.cons (.bcl .min (.cons (.bin .Sub (.bcl .len (.cons (.idx (.var 0) (.cst (.int 0))) .nil)) (.cst (.int 1))) (.cons (.var 1) .nil))) .nil)))) []) .nil)
/-- a def -/
def B_law_best (f__law_ways f__law_signs f__law_cost : Nat) : Ss := (.cons (.asg (.nm 3) (.cst .none) []) (.cons (.forl (.nm 4) .seq (.cons (.fcl f__law_ways (.cons (.bcl .len (.cons (.idx (.var 0) (.cst (.int 0))) .nil)) (.cons (.bcl .len (.cons (.var 0) .nil)) .nil))) .nil) (.cons (.ite (.cmp .Eq (.fcl f__law_signs (.cons (.var 2) (.cons (.var 4) (.cons (.cst (.int 1)) .nil)))) (.cst (.int 0))) (.cons (.asg (.nm 5) (.tup (.cons (.neg (.fcl f__law_signs (.cons (.var 2) (.cons (.var 4) (.cons (.cst (.int 2)) .nil))))) (.cons (.fcl f__law_cost (.cons (.var 0) (.cons (.var 1) (.cons (.var 4) .nil)))) (.cons (.var 4) .nil)))) []) (.cons (.asg (.nm 3) (.ite (.or (.cmp .Is (.var 3) (.cst .none)) (.cmp .Lt (.var 5) (.var 3))) (.var 5) (.var 3)) []) .nil)) .nil) .nil) []) (.cons (.ret (.ite (.cmp .Is (.var 3) (.cst .none)) (.cst .none) (.idx (.var 3) (.cst (.int 2)))) []) .nil)))
/-- a def -/
def B_law_cell_due (f__law_step : Nat) : Ss := (.cons (.ite (.cmp .Eq (.idx (.idx (.var 1) (.var 5)) (.var 4)) (.cst (.int 1))) (.cons (.ret (.cst .none) []) .nil) .nil) (.cons (.asg (.nm 6) (.bcl .int (.cons (.cmp .Eq (.idx (.idx (.var 1) (.var 5)) (.var 4)) (.cst (.int 2))) .nil)) []) (.cons (.ite (.cmp .Eq (.var 5) (.bin .Sub (.bcl .len (.cons (.var 0) .nil)) (.cst (.int 1)))) (.cons (.ret (.tup (.cons (.var 6) (.cons (.cst (.int 0)) .nil))) []) .nil) .nil) (.cons (.asg (.nm 7) (.cst .none) []) (.cons (.forl (.nm 8) .seq (.cons (.tup (.cons (.bin .Sub (.var 4) (.cst (.int 1))) (.cons (.var 4) (.cons (.bin .Add (.var 4) (.cst (.int 1))) .nil)))) .nil) (.cons (.ite (.and (.cmp .LtE (.cst (.int 0)) (.var 8)) (.and (.cmp .Lt (.var 8) (.bcl .len (.cons (.idx (.var 0) (.cst (.int 0))) .nil))) (.cmp .IsNot (.idx (.idx (.var 3) (.bin .Add (.var 5) (.cst (.int 1)))) (.var 8)) (.cst .none)))) (.cons (.asg (.t2 (.nm 9) (.nm 10)) (.idx (.idx (.var 3) (.bin .Add (.var 5) (.cst (.int 1)))) (.var 8)) []) (.cons (.asg (.nm 11) (.tup (.cons (.bin .Sub (.neg (.var 9)) (.var 6)) (.cons (.bin .Add (.var 10) (.fcl f__law_step (.cons (.var 0) (.cons (.var 2) (.cons (.var 8) (.cons (.bin .Add (.var 5) (.cst (.int 1))) (.cons (.var 4) .nil))))))) .nil))) []) (.cons (.asg (.nm 7) (.ite (.or (.cmp .Is (.var 7) (.cst .none)) (.cmp .Lt (.var 11) (.var 7))) (.var 11) (.var 7)) []) .nil))) .nil) .nil) []) (.cons (.ret (.ite (.cmp .Is (.var 7) (.cst .none)) (.cst .none) (.tup (.cons (.neg (.idx (.var 7) (.cst (.int 0)))) (.cons (.idx (.var 7) (.cst (.int 1))) .nil)))) []) .nil))))))
/-- a def -/
def B_law_cost (f__law_step : Nat) : Ss := (.cons (.asg (.nm 3) (.bin .Add (.tup (.cons (.cst .none) .nil)) (.sl01 (.var 2) (.neg (.cst (.int 1))))) []) (.cons (.ret (.bcl .sum (.cons (.cmpr (.fcl f__law_step (.cons (.var 0) (.cons (.var 1) (.cons (.var 5) (.cons (.var 4) (.cons (.idx (.var 3) (.var 4)) .nil)))))) (.t2 (.nm 4) (.nm 5)) .enum (.cons (.var 2) .nil) .nil [4, 5]) .nil)) []) .nil))
/-- a def -/
def B_law_cut : Ss := (.cons (.ret (.bcl .tuple (.cons (.cmpr (.bcl .tuple (.cons (.cmpr (.var 5) (.t2 (.nm 4) (.nm 5)) .enum (.cons (.var 2) .nil) (.cons (.cmp .NotEq (.var 4) (.var 3)) .nil) [4, 5]) .nil)) (.t2 (.nm 2) (.nm 3)) .zip (.cons (.var 0) (.cons (.var 1) .nil)) .nil [2, 3]) .nil)) []) .nil)
/-- a def -/
def B_law_drawn : Ss := (.cons (.asg (.nm 3) (.bin .Mult (.cst (.int 7)) (.var 1)) []) (.cons (.ite (.cmp .NotEq (.var 0) (.lst .nil)) (.cons (.asg (.nm 3) (.idx (.var 0) (.bin .Mod (.var 1) (.bcl .len (.cons (.var 0) .nil)))) []) (.cons (.asg (.nm 4) (.bin .FloorDiv (.var 1) (.bcl .len (.cons (.var 0) .nil))) []) (.cons (.ite (.and (.cmp .GtE (.var 3) (.bin .Pow (.cst (.int 10)) (.cst (.int 18)))) (.cmp .Lt (.var 4) (.cst (.int 60)))) (.cons (.asg (.nm 5) (.bin .FloorDiv (.var 3) (.bin .Pow (.cst (.int 10)) (.cst (.int 18)))) []) (.cons (.whl 10000 (.and (.cmp .Gt (.var 5) (.cst (.int 0))) (.cmp .Gt (.var 4) (.cst (.int 0)))) (.cons (.asg (.nm 5) (.bin .FloorDiv (.var 5) (.cst (.int 1000000))) []) (.cons (.asg (.nm 4) (.bin .Sub (.var 4) (.cst (.int 1))) []) .nil))) (.cons (.ite (.cmp .Gt (.var 5) (.cst (.int 0))) (.cons (.ret (.bin .Mod (.bin .Mod (.var 5) (.cst (.int 1000000))) (.var 2)) []) .nil) .nil) .nil))) .nil) (.cons (.asg (.nm 3) (.bin .Add (.var 3) (.bin .Mult (.cst (.int 6553)) (.bin .FloorDiv (.var 1) (.bcl .len (.cons (.var 0) .nil))))) []) .nil)))) .nil) (.cons (.asg (.nm 3) (.bin .Mod (.bin .Add (.bin .Mult (.bin .Mod (.var 3) (.cst (.int 2147483563))) (.cst (.int 69069))) (.bin .Mult (.cst (.int 104723)) (.bin .Add (.var 1) (.cst (.int 1))))) (.cst (.int 2147483563))) []) (.cons (.asg (.nm 3) (.bin .Mod (.bin .Add (.bin .Mult (.var 3) (.var 3)) (.bin .FloorDiv (.var 3) (.cst (.int 3)))) (.cst (.int 2147483399))) []) (.cons (.ret (.bin .Mod (.bin .FloorDiv (.bin .Mod (.bin .Add (.bin .Mult (.var 3) (.var 3)) (.bin .FloorDiv (.var 3) (.cst (.int 7)))) (.cst (.int 2147483647))) (.cst (.int 11))) (.var 2)) []) .nil)))))
/-- a def -/
def B_law_due_k34 (f__law_cut f__law_best : Nat) : Ss := (.cons (.own 3 .nil []) (.cons (.whl 10000 (.cmp .NotEq (.cmpr (.var 5) (.nm 5) .seq (.cons (.var 1) .nil) (.cons (.cmp .In (.cst (.int 2)) (.var 5)) .nil) [5]) (.lst .nil)) (.cons (.asg (.nm 4) (.fcl f__law_best (.cons (.var 0) (.cons (.var 2) (.cons (.var 1) .nil)))) []) (.cons (.ite (.or (.cmp .Is (.var 4) (.cst .none)) (.cmp .Eq (.bcl .len (.cons (.idx (.var 0) (.cst (.int 0))) .nil)) (.cst (.int 1)))) (.cons (.ret (.cst .none) []) .nil) .nil) (.cons (.app 3 (.var 4) []) (.cons (.par 0 1 (.v (.fcl f__law_cut (.cons (.var 0) (.cons (.var 4) .nil)))) (.v (.fcl f__law_cut (.cons (.var 1) (.cons (.var 4) .nil)))) []) .nil))))) (.cons (.ret (.var 3) [3]) .nil)))
/-- a def -/
def B_law_flat : Ss := (.cons (.asg (.nm 1) (.lst .nil) []) (.cons (.forl (.nm 2) .seq (.cons (.var 0) .nil) (.cons (.asg (.nm 1) (.bin .Add (.var 1) (.bcl .list (.cons (.var 2) .nil))) []) .nil) []) (.cons (.ret (.var 1) []) .nil)))
/-- a def -/
def B_law_free : Ss := (.cons (.ret (.bcl .tuple (.cons (.cmpr (.bin .Mult (.tup (.cons (.cst (.int 0)) .nil)) (.bcl .len (.cons (.var 1) .nil))) (.nm 1) .seq (.cons (.var 0) .nil) .nil [1]) .nil)) []) .nil)
/-- a def -/
def B_law_manner (f__law_drawn : Nat) : Ss := (.cons (.ret (.idx (.lst (.cons (.cst (.str (Str.ofString "worth"))) (.cons (.cst (.str (Str.ofString "joins"))) .nil))) (.fcl f__law_drawn (.cons (.var 0) (.cons (.var 1) (.cons (.cst (.int 2)) .nil))))) []) .nil)
/-- a def -/
def B_law_marks (f__law_drawn : Nat) : Ss := (.cons (.own 3 .nil []) (.cons (.asg (.nm 4) (.idx (.lst (.cons (.lst (.cons (.cst (.int 0)) (.cons (.cst (.int 0)) (.cons (.cst (.int 0)) (.cons (.cst (.int 1)) (.cons (.cst (.int 2)) .nil)))))) (.cons (.lst (.cons (.cst (.int 0)) (.cons (.cst (.int 0)) (.cons (.cst (.int 0)) (.cons (.cst (.int 0)) (.cons (.cst (.int 1)) .nil)))))) (.cons (.lst (.cons (.cst (.int 0)) (.cons (.cst (.int 0)) (.cons (.cst (.int 2)) (.cons (.cst (.int 0)) (.cons (.cst (.int 0)) .nil)))))) (.cons (.lst (.cons (.cst (.int 0)) .nil)) .nil))))) (.fcl f__law_drawn (.cons (.var 0) (.cons (.var 1) (.cons (.cst (.int 4)) .nil))))) []) (.cons (.forl (.t2 (.nm 5) (.nm 6)) .enum (.cons (.var 2) .nil) (.cons (.asg (.nm 7) (.bin .Add (.bin .Add (.var 1) (.cst (.int 1))) (.bin .Mult (.bcl .len (.cons (.var 6) .nil)) (.var 5))) []) (.cons (.app 3 (.bcl .tuple (.cons (.cmpr (.idx (.var 4) (.fcl f__law_drawn (.cons (.var 0) (.cons (.bin .Add (.var 7) (.var 8)) (.cons (.bcl .len (.cons (.var 4) .nil)) .nil))))) (.nm 8) .rng (.cons (.bcl .len (.cons (.var 6) .nil)) .nil) .nil [8]) .nil)) []) .nil)) []) (.cons (.ret (.bcl .tuple (.cons (.var 3) .nil)) [3]) .nil))))
/-- a def -/
def B_law_no_k01 (f_size_of f_turned f_mirrored f_counted f_brightness c_SeamError c_NoMarks c_NoPicture : Nat) : Ss := (.cons (.tryx (.cons (.ite (.cmp .Eq (.var 0) (.cst (.int 0))) (.cons (.exp (.fcl f_size_of (.cons (.var 1) .nil))) .nil) (.cons (.ite (.cmp .Eq (.var 0) (.cst (.int 1))) (.cons (.exp (.fcl f_turned (.cons (.var 1) .nil))) .nil) (.cons (.ite (.cmp .Eq (.var 0) (.cst (.int 2))) (.cons (.exp (.fcl f_mirrored (.cons (.var 1) .nil))) .nil) (.cons (.ite (.cmp .Eq (.var 0) (.cst (.int 3))) (.cons (.exp (.fcl f_counted (.cons (.var 1) .nil))) .nil) (.cons (.exp (.fcl f_brightness (.cons (.var 1) .nil))) .nil)) .nil)) .nil)) .nil)) .nil) c_SeamError 2 (.cons (.ite (.nt (.and (.isx 2 c_NoPicture) (.nt (.isx 2 c_NoMarks)))) (.cons (.ret (.cst (.bool false)) []) .nil) .nil) (.cons (.ret (.isv 2) []) .nil))) (.cons (.ret (.cst (.bool false)) []) .nil))
/-- a def -/
def B_law_no_k30 (f_narrowed s_narrowed_2 f_history s_history_2 f_loss s_loss_2 c_SeamError c_NoDeeds c_NoWidth : Nat) : Ss := (.cons (.tryx (.cons (.ite (.cmp .Eq (.var 0) (.cst (.int 0))) (.cons (.exp (.kcl f_narrowed s_narrowed_2 (.cons (.var 1) (.cons (.var 2) .nil)) .nil)) .nil) (.cons (.ite (.cmp .Eq (.var 0) (.cst (.int 1))) (.cons (.exp (.kcl f_history s_history_2 (.cons (.var 1) (.cons (.var 2) .nil)) .nil)) .nil) (.cons (.exp (.kcl f_loss s_loss_2 (.cons (.var 1) (.cons (.var 2) .nil)) .nil)) .nil)) .nil)) .nil) c_SeamError 3 (.cons (.ret (.and (.isx 3 c_NoWidth) (.nt (.isx 3 c_NoDeeds))) []) .nil)) (.cons (.ret (.cst (.bool false)) []) .nil))
/-- a def -/
def B_law_picture (f__law_drawn : Nat) : Ss := (.cons (.par 4 5 (.v (.idx (.lst (.cons (.cst (.int 2)) (.cons (.cst (.int 5)) (.cons (.cst (.int 100)) (.cons (.cst (.int 10)) .nil))))) (.fcl f__law_drawn (.cons (.var 0) (.cons (.var 1) (.cons (.cst (.int 4)) .nil)))))) (.o .nil) []) (.cons (.forl (.nm 6) .rng (.cons (.var 3) .nil) (.cons (.app 5 (.bcl .tuple (.cons (.cmpr (.fcl f__law_drawn (.cons (.var 0) (.cons (.bin .Add (.bin .Add (.bin .Add (.var 1) (.cst (.int 1))) (.bin .Mult (.var 2) (.var 6))) (.var 7)) (.cons (.var 4) .nil)))) (.nm 7) .rng (.cons (.var 2) .nil) .nil [7]) .nil)) []) .nil) []) (.cons (.ret (.bcl .tuple (.cons (.var 5) .nil)) [5]) .nil)))
/-- a def -/
def B_law_signs : Ss := (.cons (.ret (.bcl .len (.cons (.cmpr (.var 4) (.t2 (.nm 3) (.nm 4)) .zip (.cons (.var 0) (.cons (.var 1) .nil)) (.cons (.cmp .Eq (.idx (.var 3) (.var 4)) (.var 2)) .nil) [3, 4]) .nil)) []) .nil)
/-- a def -/
def B_law_some (f__law_picture f__law_drawn : Nat) : Ss := (.cons (.ret (.fcl f__law_picture (.cons (.var 0) (.cons (.bin .Add (.var 1) (.cst (.int 2))) (.cons (.bin .Add (.cst (.int 1)) (.fcl f__law_drawn (.cons (.var 0) (.cons (.var 1) (.cons (.var 2) .nil))))) (.cons (.bin .Add (.cst (.int 1)) (.fcl f__law_drawn (.cons (.var 0) (.cons (.bin .Add (.var 1) (.cst (.int 1))) (.cons (.var 3) .nil))))) .nil))))) []) .nil)
/-- a def -/
def B_law_step (f__law_at : Nat) : Ss := (.cons (.asg (.nm 5) (.bcl .abs (.cons (.bin .Sub (.fcl f__law_at (.cons (.var 0) (.cons (.bin .Sub (.var 2) (.cst (.int 1))) (.cons (.var 3) .nil)))) (.fcl f__law_at (.cons (.var 0) (.cons (.bin .Add (.var 2) (.cst (.int 1))) (.cons (.var 3) .nil))))) .nil)) []) (.cons (.ite (.cmp .Eq (.var 1) (.cst (.str (Str.ofString "worth")))) (.cons (.ret (.bin .Add (.var 5) (.bcl .abs (.cons (.bin .Sub (.fcl f__law_at (.cons (.var 0) (.cons (.var 2) (.cons (.bin .Sub (.var 3) (.cst (.int 1))) .nil)))) (.fcl f__law_at (.cons (.var 0) (.cons (.var 2) (.cons (.bin .Add (.var 3) (.cst (.int 1))) .nil))))) .nil))) []) .nil) .nil) (.cons (.ite (.and (.cmp .IsNot (.var 4) (.cst .none)) (.cmp .NotEq (.var 4) (.var 2))) (.cons (.asg (.nm 5) (.bin .Add (.var 5) (.bcl .abs (.cons (.bin .Sub (.idx (.idx (.var 0) (.bin .Sub (.var 3) (.cst (.int 1)))) (.var 2)) (.idx (.idx (.var 0) (.var 3)) (.ite (.cmp .Lt (.var 4) (.var 2)) (.bin .Sub (.var 2) (.cst (.int 1))) (.bin .Add (.var 2) (.cst (.int 1)))))) .nil))) []) .nil) .nil) (.cons (.ret (.var 5) []) .nil))))
/-- a def -/
def B_law_steps (f__law_cut f__law_best : Nat) : Ss := (.cons (.own 4 .nil []) (.cons (.whl 10000 (.cmp .Gt (.bcl .len (.cons (.idx (.var 0) (.cst (.int 0))) .nil)) (.var 1)) (.cons (.asg (.nm 5) (.fcl f__law_best (.cons (.var 0) (.cons (.var 2) (.cons (.var 3) .nil)))) []) (.cons (.ite (.cmp .Is (.var 5) (.cst .none)) (.cons (.ret (.cst .none) []) .nil) .nil) (.cons (.app 4 (.tup (.cons (.var 5) (.cons (.bcl .tuple (.cons (.cmpr (.idx (.var 6) (.var 7)) (.t2 (.nm 6) (.nm 7)) .zip (.cons (.var 0) (.cons (.var 5) .nil)) .nil [6, 7]) .nil)) .nil))) []) (.cons (.par 0 3 (.v (.fcl f__law_cut (.cons (.var 0) (.cons (.var 5) .nil)))) (.v (.fcl f__law_cut (.cons (.var 3) (.cons (.var 5) .nil)))) []) .nil))))) (.cons (.ret (.tup (.cons (.var 4) (.cons (.var 0) .nil))) [4]) .nil)))
/-- a def -/
def B_law_turned : Ss := (.cons (.ret (.bcl .tuple (.cons (.cmpr (.bcl .tuple (.cons (.cmpr (.idx (.var 2) (.var 1)) (.nm 2) .seq (.cons (.var 0) .nil) .nil [2]) .nil)) (.nm 1) .rng (.cons (.bcl .len (.cons (.idx (.var 0) (.cst (.int 0))) .nil)) .nil) .nil [1]) .nil)) []) .nil)
/-- a def -/
def B_law_way (f__law_drawn : Nat) : Ss := (.cons (.own 4 (.cons (.fcl f__law_drawn (.cons (.var 0) (.cons (.var 1) (.cons (.var 2) .nil)))) .nil) []) (.cons (.forl (.nm 5) .rng (.cons (.bin .Sub (.var 3) (.cst (.int 1))) .nil) (.cons (.app 4 (.bcl .max (.cons (.cst (.int 0)) (.cons (.bcl .min (.cons (.bin .Sub (.var 2) (.cst (.int 1))) (.cons (.bin .Sub (.bin .Add (.vdx 4 (.neg (.cst (.int 1)))) (.fcl f__law_drawn (.cons (.var 0) (.cons (.bin .Add (.bin .Add (.var 1) (.cst (.int 1))) (.var 5)) (.cons (.cst (.int 3)) .nil))))) (.cst (.int 1))) .nil))) .nil))) []) .nil) []) (.cons (.ret (.bcl .tuple (.cons (.var 4) .nil)) [4]) .nil)))
/-- a def -/
def B_law_ways : Ss := (.cons (.asg (.nm 2) (.cmpr (.tup (.cons (.var 6) .nil)) (.nm 6) .rng (.cons (.var 0) .nil) .nil [6]) []) (.cons (.forl (.nm 3) .rng (.cons (.bin .Sub (.var 1) (.cst (.int 1))) .nil) (.cons (.asg (.nm 4) (.lst .nil) []) (.cons (.forl (.nm 5) .seq (.cons (.var 2) .nil) (.cons (.asg (.nm 4) (.bin .Add (.var 4) (.cmpr (.bin .Add (.var 5) (.tup (.cons (.var 6) .nil))) (.nm 6) .seq (.cons (.tup (.cons (.bin .Sub (.idx (.var 5) (.neg (.cst (.int 1)))) (.cst (.int 1))) (.cons (.idx (.var 5) (.neg (.cst (.int 1)))) (.cons (.bin .Add (.idx (.var 5) (.neg (.cst (.int 1)))) (.cst (.int 1))) .nil)))) .nil) (.cons (.and (.cmp .LtE (.cst (.int 0)) (.var 6)) (.cmp .Lt (.var 6) (.var 0))) .nil) [6])) []) .nil) []) (.cons (.asg (.nm 2) (.var 4) []) .nil))) []) (.cons (.ret (.var 2) []) .nil)))
/-- a def -/
def B_add : Ss := (.cons (.ret (.tup (.cons (.bin .Add (.idx (.var 0) (.cst (.int 0))) (.idx (.var 1) (.cst (.int 0)))) (.cons (.bin .Add (.idx (.var 0) (.cst (.int 1))) (.idx (.var 1) (.cst (.int 1)))) .nil))) []) .nil)
/-- a def -/
def B_best_way (f_next_ones f_add g_GONE f_step_cost f_starts f_downs : Nat) : Ss := (.cons (.asg (.nm 3) (.fcl f_downs (.cons (.var 0) (.cons (.var 1) (.cons (.var 2) .nil)))) []) (.cons (.asg (.nm 4) (.bcl .len (.cons (.idx (.var 3) (.cst (.int 0))) .nil)) []) (.cons (.asg (.nm 5) (.fcl f_starts (.cons (.var 0) (.cons (.var 1) (.cons (.var 3) .nil)))) []) (.cons (.asg (.nm 6) (.cmpr (.var 12) (.nm 12) .seq (.cons (.var 5) .nil) (.cons (.cmp .IsNot (.var 12) (.cst .none)) .nil) [12]) []) (.cons (.ite (.cmp .Eq (.var 6) (.lst .nil)) (.cons (.ret (.cst .none) []) .nil) .nil) (.cons (.own 7 (.cons (.met .index (.var 5) (.cons (.bcl .min (.cons (.var 6) .nil)) .nil)) .nil) []) (.cons (.forl (.nm 8) .rng (.cons (.bin .Sub (.bcl .len (.cons (.var 3) .nil)) (.cst (.int 1))) .nil) (.cons (.asg (.nm 9) (.vdx 7 (.neg (.cst (.int 1)))) []) (.cons (.forl (.nm 10) .seq (.cons (.fcl f_next_ones (.cons (.var 9) (.cons (.var 4) .nil))) .nil) (.cons (.ite (.cmp .IsNot (.idx (.idx (.var 3) (.bin .Add (.var 8) (.cst (.int 1)))) (.var 10)) (.cst .none)) (.cons (.asg (.nm 11) (.bcl .sum (.cons (.cmpr (.fcl f_step_cost (.cons (.var 13) (.cons (.var 10) (.cons (.bin .Add (.var 8) (.cst (.int 1))) (.cons (.var 9) (.cons (.var 1) .nil)))))) (.nm 13) .seq (.cons (.var 0) .nil) .nil [13]) .nil)) []) (.cons (.ite (.cmp .Eq (.fcl f_add (.cons (.idx (.idx (.var 3) (.bin .Add (.var 8) (.cst (.int 1)))) (.var 10)) (.cons (.tup (.cons (.neg (.bcl .int (.cons (.cmp .Eq (.idx (.idx (.var 2) (.var 8)) (.var 9)) (.glb g_GONE)) .nil))) (.cons (.var 11) .nil))) .nil))) (.idx (.idx (.var 3) (.var 8)) (.var 9))) (.cons (.app 7 (.var 10) []) (.cons .brk .nil)) .nil) .nil)) .nil) .nil) []) .nil)) []) (.cons (.ret (.bcl .tuple (.cons (.var 7) .nil)) [7]) .nil))))))))
/-- a def -/
def B_brightness (f_need_picture : Nat) : Ss := (.cons (.exp (.fcl f_need_picture (.cons (.var 0) .nil))) (.cons (.ret (.bcl .sum (.cons (.cm2 (.var 2) (.nm 1) .seq (.cons (.var 0) .nil) (.nm 2) .seq (.cons (.var 1) .nil) [1, 2] [2]) .nil)) []) .nil))
/-- a def -/
def B_cells_of (f_need_seam f_need_picture : Nat) : Ss := (.cons (.exp (.fcl f_need_picture (.cons (.var 0) .nil))) (.cons (.exp (.fcl f_need_seam (.cons (.var 0) (.cons (.var 1) .nil)))) (.cons (.ret (.bcl .tuple (.cons (.cmpr (.idx (.var 2) (.var 3)) (.t2 (.nm 2) (.nm 3)) .zip (.cons (.var 0) (.cons (.var 1) .nil)) .nil [2, 3]) .nil)) []) .nil)))
/-- a def -/
def B_cleared (g_GONE f_without f_best_way f_need_all : Nat) : Ss := (.cons (.asg (.nm 1) (.fcl f_need_all (.cons (.var 0) (.cons (.var 2) (.cons (.var 1) .nil)))) []) (.cons (.own 3 .nil []) (.cons (.whl 10000 (.cmp .NotEq (.cmpr (.var 5) (.nm 5) .seq (.cons (.var 1) .nil) (.cons (.cmp .In (.glb g_GONE) (.var 5)) .nil) [5]) (.lst .nil)) (.cons (.asg (.nm 4) (.fcl f_best_way (.cons (.lst (.cons (.var 0) .nil)) (.cons (.var 2) (.cons (.var 1) .nil)))) []) (.cons (.ite (.or (.cmp .Is (.var 4) (.cst .none)) (.cmp .Eq (.bcl .len (.cons (.idx (.var 0) (.cst (.int 0))) .nil)) (.cst (.int 1)))) (.cons (.ret (.cst .none) []) .nil) .nil) (.cons (.app 3 (.var 4) []) (.cons (.par 0 1 (.v (.fcl f_without (.cons (.var 0) (.cons (.var 4) .nil)))) (.v (.fcl f_without (.cons (.var 1) (.cons (.var 4) .nil)))) []) .nil))))) (.cons (.ret (.var 3) [3]) .nil))))
/-- a def -/
def B_cost_of (f_plain_cost f_need_seam f_need_manner f_need_picture : Nat) : Ss := (.cons (.exp (.fcl f_need_picture (.cons (.var 0) .nil))) (.cons (.exp (.fcl f_need_manner (.cons (.var 2) .nil))) (.cons (.exp (.fcl f_need_seam (.cons (.var 0) (.cons (.var 1) .nil)))) (.cons (.ret (.fcl f_plain_cost (.cons (.var 0) (.cons (.var 1) (.cons (.var 2) .nil)))) []) .nil))))
/-- a def -/
def B_costs_down (f_without f_plain_cost f_best_way f_free_marks f_need_width f_need_all : Nat) : Ss := (.cons (.exp (.fcl f_need_all (.cons (.var 0) (.cons (.var 2) (.cons (.cst .none) .nil))))) (.cons (.exp (.fcl f_need_width (.cons (.var 0) (.cons (.var 1) .nil)))) (.cons (.own 3 .nil []) (.cons (.whl 10000 (.cmp .Gt (.bcl .len (.cons (.idx (.var 0) (.cst (.int 0))) .nil)) (.var 1)) (.cons (.asg (.nm 4) (.fcl f_best_way (.cons (.lst (.cons (.var 0) .nil)) (.cons (.var 2) (.cons (.fcl f_free_marks (.cons (.var 0) .nil)) .nil)))) []) (.cons (.app 3 (.fcl f_plain_cost (.cons (.var 0) (.cons (.var 4) (.cons (.var 2) .nil)))) []) (.cons (.asg (.nm 0) (.fcl f_without (.cons (.var 0) (.cons (.var 4) .nil))) []) .nil)))) (.cons (.ret (.var 3) [3]) .nil)))))
/-- a def -/
def B_counted (f_need_picture : Nat) : Ss := (.cons (.exp (.fcl f_need_picture (.cons (.var 0) .nil))) (.cons (.asg (.nm 1) (.cm2 (.var 3) (.nm 2) .seq (.cons (.var 0) .nil) (.nm 3) .seq (.cons (.var 2) .nil) [2, 3] [3]) []) (.cons (.ret (.cmpr (.tup (.cons (.var 3) (.cons (.met .count (.var 1) (.cons (.var 3) .nil)) .nil))) (.nm 3) .seq (.cons (.ssc false (.var 3) (.nm 3) .seq (.cons (.var 1) .nil) [3]) .nil) .nil [3]) []) .nil)))
/-- a def -/
def B_cut (f_without f_need_seam f_need_picture : Nat) : Ss := (.cons (.exp (.fcl f_need_picture (.cons (.var 0) .nil))) (.cons (.exp (.fcl f_need_seam (.cons (.var 0) (.cons (.var 1) .nil)))) (.cons (.ret (.ite (.cmp .Gt (.bcl .len (.cons (.idx (.var 0) (.cst (.int 0))) .nil)) (.cst (.int 1))) (.fcl f_without (.cons (.var 0) (.cons (.var 1) .nil))) (.cst .none)) []) .nil)))
/-- a def -/
def B_doubled (g_MOST_SIDE f_put_in f_means f_need_seam f_need_picture : Nat) : Ss := (.cons (.exp (.fcl f_need_picture (.cons (.var 0) .nil))) (.cons (.exp (.fcl f_need_seam (.cons (.var 0) (.cons (.var 1) .nil)))) (.cons (.asg (.nm 2) (.bcl .tuple (.cons (.cmpr (.bin .Add (.var 3) (.cst (.int 1))) (.nm 3) .seq (.cons (.var 1) .nil) .nil [3]) .nil)) []) (.cons (.ret (.ite (.cmp .Lt (.bcl .len (.cons (.idx (.var 0) (.cst (.int 0))) .nil)) (.glb g_MOST_SIDE)) (.fcl f_put_in (.cons (.var 0) (.cons (.var 2) (.cons (.fcl f_means (.cons (.var 0) (.cons (.var 1) .nil))) .nil)))) (.cst .none)) []) .nil))))
/-- a def -/
def B_downs (f_next_ones g_KEPT f_add g_GONE f_step_cost : Nat) : Ss := (.cons (.par 3 4 (.v (.bcl .len (.cons (.idx (.idx (.var 0) (.cst (.int 0))) (.cst (.int 0))) .nil))) (.v (.bcl .len (.cons (.idx (.var 0) (.cst (.int 0))) .nil))) []) (.cons (.asg (.nm 5) (.lst (.cons (.cmpr (.ite (.cmp .Eq (.idx (.idx (.var 2) (.bin .Sub (.var 4) (.cst (.int 1)))) (.var 9)) (.glb g_KEPT)) (.cst .none) (.tup (.cons (.neg (.bcl .int (.cons (.cmp .Eq (.idx (.idx (.var 2) (.bin .Sub (.var 4) (.cst (.int 1)))) (.var 9)) (.glb g_GONE)) .nil))) (.cons (.cst (.int 0)) .nil)))) (.nm 9) .rng (.cons (.var 3) .nil) .nil [9]) .nil)) []) (.cons (.forl (.nm 6) .rng (.cons (.bin .Sub (.var 4) (.cst (.int 2))) (.cons (.neg (.cst (.int 1))) (.cons (.neg (.cst (.int 1))) .nil))) (.cons (.par 7 8 (.v (.idx (.var 5) (.cst (.int 0)))) (.o .nil) []) (.cons (.forl (.nm 9) .rng (.cons (.var 3) .nil) (.cons (.asg (.nm 10) (.cst .none) []) (.cons (.forl (.nm 11) .seq (.cons (.fcl f_next_ones (.cons (.var 9) (.cons (.var 3) .nil))) .nil) (.cons (.ite (.and (.cmp .IsNot (.idx (.var 7) (.var 11)) (.cst .none)) (.cmp .NotEq (.idx (.idx (.var 2) (.var 6)) (.var 9)) (.glb g_KEPT))) (.cons (.asg (.nm 12) (.bcl .sum (.cons (.cmpr (.fcl f_step_cost (.cons (.var 14) (.cons (.var 11) (.cons (.bin .Add (.var 6) (.cst (.int 1))) (.cons (.var 9) (.cons (.var 1) .nil)))))) (.nm 14) .seq (.cons (.var 0) .nil) .nil [14]) .nil)) []) (.cons (.asg (.nm 13) (.fcl f_add (.cons (.idx (.var 7) (.var 11)) (.cons (.tup (.cons (.neg (.bcl .int (.cons (.cmp .Eq (.idx (.idx (.var 2) (.var 6)) (.var 9)) (.glb g_GONE)) .nil))) (.cons (.var 12) .nil))) .nil))) []) (.cons (.asg (.nm 10) (.ite (.or (.cmp .Is (.var 10) (.cst .none)) (.cmp .Lt (.var 13) (.var 10))) (.var 13) (.var 10)) []) .nil))) .nil) .nil) []) (.cons (.app 8 (.var 10) []) .nil))) []) (.cons (.asg (.nm 5) (.bin .Add (.lst (.cons (.var 8) .nil)) (.var 5)) [8]) .nil))) []) (.cons (.ret (.var 5) []) .nil))))
/-- a def -/
def B_free_marks (g_FREE : Nat) : Ss := (.cons (.ret (.bcl .tuple (.cons (.cmpr (.bcl .tuple (.cons (.cmpr (.glb g_FREE) (.nm 2) .seq (.cons (.var 1) .nil) .nil [2]) .nil)) (.nm 1) .seq (.cons (.var 0) .nil) .nil [1]) .nil)) []) .nil)
/-- a def -/
def B_history (f_steps_to f_need_width f_need_all : Nat) : Ss := (.cons (.asg (.nm 3) (.fcl f_need_all (.cons (.var 0) (.cons (.var 2) (.cons (.var 3) .nil)))) []) (.cons (.exp (.fcl f_need_width (.cons (.var 0) (.cons (.var 1) .nil)))) (.cons (.asg (.nm 4) (.fcl f_steps_to (.cons (.var 0) (.cons (.var 1) (.cons (.var 2) (.cons (.var 3) .nil))))) []) (.cons (.ret (.ite (.cmp .Is (.var 4) (.cst .none)) (.cst .none) (.idx (.var 4) (.cst (.int 0)))) []) .nil))))
/-- a def -/
def B_how_many (f_tails f_marks_for f_need_picture : Nat) : Ss := (.cons (.exp (.fcl f_need_picture (.cons (.var 0) .nil))) (.cons (.ret (.bcl .sum (.cons (.idx (.fcl f_tails (.cons (.fcl f_marks_for (.cons (.var 0) (.cons (.var 1) .nil))) .nil)) (.cst (.int 0))) .nil)) []) .nil))
/-- a def -/
def B_is_cells (f_is_number g_MOST_CELL : Nat) : Ss := (.cons (.ret (.and (.isi (.var 0) "tuple") (.and (.cmp .Eq (.bcl .len (.cons (.var 0) .nil)) (.var 1)) (.bcl .all (.cons (.cmpr (.fcl f_is_number (.cons (.var 2) (.cons (.cst (.int 0)) (.cons (.glb g_MOST_CELL) .nil)))) (.nm 2) .seq (.cons (.var 0) .nil) .nil [2]) .nil)))) []) .nil)
/-- a def -/
def B_is_history (g_MOST_SIDE f_is_cells f_is_way : Nat) : Ss := (.cons (.ite (.nt (.isi (.var 0) "list")) (.cons (.ret (.cst (.bool false)) []) .nil) .nil) (.cons (.forl (.t2 (.nm 3) (.nm 4)) .enum (.cons (.rev (.var 0)) .nil) (.cons (.ite (.or (.nt (.isi (.var 4) "tuple")) (.or (.cmp .NotEq (.bcl .len (.cons (.var 4) .nil)) (.cst (.int 2))) (.nt (.fcl f_is_way (.cons (.idx (.var 4) (.cst (.int 0))) (.cons (.bin .Add (.bin .Add (.var 1) (.var 3)) (.cst (.int 1))) (.cons (.var 2) .nil))))))) (.cons (.ret (.cst (.bool false)) []) .nil) .nil) (.cons (.ite (.nt (.fcl f_is_cells (.cons (.idx (.var 4) (.cst (.int 1))) (.cons (.var 2) .nil)))) (.cons (.ret (.cst (.bool false)) []) .nil) .nil) .nil)) []) (.cons (.ret (.cmp .LtE (.bin .Add (.var 1) (.bcl .len (.cons (.var 0) .nil))) (.glb g_MOST_SIDE)) []) .nil)))
/-- a def -/
def B_is_marks (f_is_number g_GONE g_FREE : Nat) : Ss := (.cons (.ite (.or (.nt (.isi (.var 0) "tuple")) (.cmp .NotEq (.bcl .len (.cons (.var 0) .nil)) (.var 2))) (.cons (.ret (.cst (.bool false)) []) .nil) .nil) (.cons (.forl (.nm 3) .seq (.cons (.var 0) .nil) (.cons (.ite (.or (.nt (.isi (.var 3) "tuple")) (.or (.cmp .NotEq (.bcl .len (.cons (.var 3) .nil)) (.var 1)) (.nt (.bcl .all (.cons (.cmpr (.fcl f_is_number (.cons (.var 4) (.cons (.glb g_FREE) (.cons (.glb g_GONE) .nil)))) (.nm 4) .seq (.cons (.var 3) .nil) .nil [4]) .nil))))) (.cons (.ret (.cst (.bool false)) []) .nil) .nil) .nil) []) (.cons (.ret (.cst (.bool true)) []) .nil)))
/-- a def -/
def B_is_number : Ss := (.cons (.ret (.and (.isi (.var 0) "int") (.and (.nt (.isi (.var 0) "bool")) (.chn .LtE .LtE (.var 1) (.var 0) (.var 2)))) []) .nil)
/-- a def -/
def B_is_picture (f_is_row g_MOST_SIDE : Nat) : Ss := (.cons (.ite (.or (.nt (.isi (.var 0) "tuple")) (.or (.nt (.chn .LtE .LtE (.cst (.int 1)) (.bcl .len (.cons (.var 0) .nil)) (.glb g_MOST_SIDE))) (.nt (.isi (.idx (.var 0) (.cst (.int 0))) "tuple")))) (.cons (.ret (.cst (.bool false)) []) .nil) .nil) (.cons (.ret (.and (.chn .LtE .LtE (.cst (.int 1)) (.bcl .len (.cons (.idx (.var 0) (.cst (.int 0))) .nil)) (.glb g_MOST_SIDE)) (.bcl .all (.cons (.cmpr (.fcl f_is_row (.cons (.var 1) (.cons (.bcl .len (.cons (.idx (.var 0) (.cst (.int 0))) .nil)) .nil))) (.nm 1) .seq (.cons (.var 0) .nil) .nil [1]) .nil))) []) .nil))
/-- a def -/
def B_is_row (f_is_number g_MOST_CELL : Nat) : Ss := (.cons (.ret (.and (.isi (.var 0) "tuple") (.and (.cmp .Eq (.bcl .len (.cons (.var 0) .nil)) (.var 1)) (.bcl .all (.cons (.cmpr (.fcl f_is_number (.cons (.var 2) (.cons (.cst (.int 0)) (.cons (.glb g_MOST_CELL) .nil)))) (.nm 2) .seq (.cons (.var 0) .nil) .nil [2]) .nil)))) []) .nil)
/-- a def -/
def B_is_seam (f_is_way f_need_picture : Nat) : Ss := (.cons (.exp (.fcl f_need_picture (.cons (.var 1) .nil))) (.cons (.ret (.fcl f_is_way (.cons (.var 0) (.cons (.bcl .len (.cons (.idx (.var 1) (.cst (.int 0))) .nil)) (.cons (.bcl .len (.cons (.var 1) .nil)) .nil)))) []) .nil))
/-- a def -/
def B_is_way (f_is_number : Nat) : Ss := (.cons (.ite (.or (.nt (.isi (.var 0) "tuple")) (.or (.cmp .NotEq (.bcl .len (.cons (.var 0) .nil)) (.var 2)) (.nt (.bcl .all (.cons (.cmpr (.fcl f_is_number (.cons (.var 3) (.cons (.cst (.int 0)) (.cons (.bin .Sub (.var 1) (.cst (.int 1))) .nil)))) (.nm 3) .seq (.cons (.var 0) .nil) .nil [3]) .nil))))) (.cons (.ret (.cst (.bool false)) []) .nil) .nil) (.cons (.ret (.bcl .all (.cons (.cmpr (.cmp .Lt (.bcl .abs (.cons (.bin .Sub (.var 4) (.var 5)) .nil)) (.cst (.int 2))) (.t2 (.nm 4) (.nm 5)) .zip (.cons (.var 0) (.cons (.sl10 (.var 0) (.cst (.int 1))) .nil)) .nil [4, 5]) .nil)) []) .nil))
/-- a def -/
def B_join_at (f_near : Nat) : Ss := (.cons (.ret (.bcl .abs (.cons (.bin .Sub (.fcl f_near (.cons (.idx (.var 0) (.var 2)) (.cons (.bin .Sub (.var 1) (.cst (.int 1))) .nil))) (.fcl f_near (.cons (.idx (.var 0) (.var 2)) (.cons (.bin .Add (.var 1) (.cst (.int 1))) .nil)))) .nil)) []) .nil)
/-- a def -/
def B_law_k01 (f_is_picture f__law_no f_brightness f_counted f_mirrored f_turned f__law_turned f_size_of f__law_some : Nat) : Ss := (.cons (.asg (.nm 1) (.fcl f__law_some (.cons (.var 0) (.cons (.cst (.int 0)) (.cons (.cst (.int 9)) (.cons (.cst (.int 7)) .nil))))) []) (.cons (.par 2 3 (.v (.bcl .len (.cons (.idx (.var 1) (.cst (.int 0))) .nil))) (.v (.bcl .len (.cons (.var 1) .nil))) []) (.cons (.ite (.or (.cmp .IsNot (.fcl f_is_picture (.cons (.var 1) .nil)) (.cst (.bool true))) (.cmp .NotEq (.fcl f_size_of (.cons (.var 1) .nil)) (.tup (.cons (.var 2) (.cons (.var 3) .nil))))) (.cons (.ret (.cst (.bool false)) []) .nil) .nil) (.cons (.ite (.cmp .NotEq (.fcl f_turned (.cons (.var 1) .nil)) (.fcl f__law_turned (.cons (.var 1) .nil))) (.cons (.ret (.cst (.bool false)) []) .nil) .nil) (.cons (.ite (.cmp .NotEq (.fcl f_mirrored (.cons (.var 1) .nil)) (.bcl .tuple (.cons (.cmpr (.rev (.var 5)) (.nm 5) .seq (.cons (.var 1) .nil) .nil [5]) .nil))) (.cons (.ret (.cst (.bool false)) []) .nil) .nil) (.cons (.asg (.nm 4) (.lst .nil) []) (.cons (.forl (.nm 5) .seq (.cons (.var 1) .nil) (.cons (.asg (.nm 4) (.bin .Add (.var 4) (.bcl .list (.cons (.var 5) .nil))) []) .nil) []) (.cons (.ite (.cmp .NotEq (.fcl f_counted (.cons (.var 1) .nil)) (.cmpr (.tup (.cons (.var 7) (.cons (.met .count (.var 4) (.cons (.var 7) .nil)) .nil))) (.nm 7) .seq (.cons (.sst (.var 4)) .nil) .nil [7])) (.cons (.ret (.cst (.bool false)) []) .nil) .nil) (.cons (.ite (.cmp .NotEq (.fcl f_brightness (.cons (.var 1) .nil)) (.bcl .sum (.cons (.var 4) .nil))) (.cons (.ret (.cst (.bool false)) []) .nil) .nil) (.cons (.asg (.nm 6) (.lst (.cons (.cst .none) (.cons (.tup .nil) (.cons (.tup (.cons (.tup .nil) .nil)) (.cons (.lst (.cons (.tup (.cons (.cst (.int 1)) .nil)) .nil)) (.cons (.tup (.cons (.lst (.cons (.cst (.int 1)) .nil)) .nil)) (.cons (.tup (.cons (.tup (.cons (.cst (.int 1)) .nil)) (.cons (.tup (.cons (.cst (.int 1)) (.cons (.cst (.int 2)) .nil))) .nil))) (.cons (.tup (.cons (.tup (.cons (.cst (.int 100)) .nil)) .nil)) (.cons (.tup (.cons (.tup (.cons (.neg (.cst (.int 1))) .nil)) .nil)) (.cons (.tup (.cons (.tup (.cons (.cst (.bool true)) .nil)) .nil)) .nil)))))))))) []) (.cons (.asg (.nm 6) (.bin .Add (.var 6) (.lst (.cons (.tup (.cons (.tup (.cons (.cst .none) .nil)) .nil)) (.cons (.bin .Mult (.tup (.cons (.tup (.cons (.cst (.int 1)) .nil)) .nil)) (.cst (.int 21))) .nil)))) []) (.cons (.asg (.nm 6) (.bin .Add (.var 6) (.lst (.cons (.tup (.cons (.bin .Mult (.tup (.cons (.cst (.int 1)) .nil)) (.cst (.int 21))) .nil)) (.cons (.cst (.str (Str.ofString "1"))) (.cons (.tup (.cons (.tup (.cons (.cst (.str (Str.ofString "1"))) .nil)) .nil)) (.cons (.tup (.cons (.tup (.cons (.cst (.int 1)) (.cons (.cst (.int 2)) .nil))) (.cons (.cst (.int 3)) .nil))) (.cons (.cst (.int 7)) .nil))))))) []) (.cons (.ite (.cmp .NotEq (.cmpr (.var 8) (.nm 8) .seq (.cons (.var 6) .nil) (.cons (.cmp .IsNot (.fcl f_is_picture (.cons (.var 8) .nil)) (.cst (.bool false))) .nil) [8]) (.lst .nil)) (.cons (.ret (.cst (.bool false)) []) .nil) .nil) (.cons (.ite (.nt (.cmp .Eq (.cmpr (.var 8) (.nm 8) .seq (.cons (.var 6) .nil) (.cons (.cmp .NotEq (.cmpr (.var 9) (.nm 9) .rng (.cons (.cst (.int 5)) .nil) (.cons (.nt (.fcl f__law_no (.cons (.var 9) (.cons (.var 8) .nil)))) .nil) [9]) (.lst .nil)) .nil) [8]) (.lst .nil))) (.cons (.ret (.cst (.bool false)) []) .nil) .nil) (.cons (.ret (.fcl f_is_picture (.cons (.bin .Mult (.tup (.cons (.bin .Mult (.tup (.cons (.cst (.int 0)) .nil)) (.cst (.int 20))) .nil)) (.cst (.int 20))) .nil)) []) .nil)))))))))))))))
/-- a def -/
def B_law_k03 (f_is_seam f_cost_of s_cost_of_2_manner f__law_cost s_cost_of_2 f__law_way f_worths f__law_step f__law_some : Nat) : Ss := (.cons (.asg (.nm 1) (.fcl f__law_some (.cons (.var 0) (.cons (.cst (.int 0)) (.cons (.cst (.int 7)) (.cons (.cst (.int 6)) .nil))))) []) (.cons (.par 2 3 (.v (.bcl .len (.cons (.idx (.var 1) (.cst (.int 0))) .nil))) (.v (.bcl .len (.cons (.var 1) .nil))) []) (.cons (.asg (.nm 4) (.cmpr (.bcl .tuple (.cons (.cmpr (.fcl f__law_step (.cons (.var 1) (.cons (.cst (.str (Str.ofString "worth"))) (.cons (.var 9) (.cons (.var 8) (.cons (.cst .none) .nil)))))) (.nm 9) .rng (.cons (.var 2) .nil) .nil [9]) .nil)) (.nm 8) .rng (.cons (.var 3) .nil) .nil [8]) []) (.cons (.ite (.cmp .NotEq (.fcl f_worths (.cons (.var 1) .nil)) (.bcl .tuple (.cons (.var 4) .nil))) (.cons (.ret (.cst (.bool false)) []) .nil) .nil) (.cons (.forl (.nm 5) .rng (.cons (.cst (.int 4)) .nil) (.cons (.asg (.nm 6) (.fcl f__law_way (.cons (.var 0) (.cons (.bin .Add (.cst (.int 60)) (.bin .Mult (.cst (.int 9)) (.var 5))) (.cons (.var 2) (.cons (.var 3) .nil))))) []) (.cons (.ite (.cmp .IsNot (.fcl f_is_seam (.cons (.var 6) (.cons (.var 1) .nil))) (.cst (.bool true))) (.cons (.ret (.cst (.bool false)) []) .nil) .nil) (.cons (.ite (.cmp .NotEq (.kcl f_cost_of s_cost_of_2 (.cons (.var 1) (.cons (.var 6) .nil)) .nil) (.fcl f__law_cost (.cons (.var 1) (.cons (.cst (.str (Str.ofString "worth"))) (.cons (.var 6) .nil))))) (.cons (.ret (.cst (.bool false)) []) .nil) .nil) (.cons (.ite (.cmp .NotEq (.kcl f_cost_of s_cost_of_2_manner (.cons (.var 1) (.cons (.var 6) .nil)) (.cons (.cst (.str (Str.ofString "joins"))) .nil)) (.fcl f__law_cost (.cons (.var 1) (.cons (.cst (.str (Str.ofString "joins"))) (.cons (.var 6) .nil))))) (.cons (.ret (.cst (.bool false)) []) .nil) .nil) (.cons (.ite (.cmp .NotEq (.kcl f_cost_of s_cost_of_2_manner (.cons (.var 1) (.cons (.var 6) .nil)) (.cons (.cst (.str (Str.ofString "worth"))) .nil)) (.bcl .sum (.cons (.cmpr (.idx (.idx (.var 4) (.var 8)) (.var 9)) (.t2 (.nm 8) (.nm 9)) .enum (.cons (.var 6) .nil) .nil [8, 9]) .nil))) (.cons (.ret (.cst (.bool false)) []) .nil) .nil) .nil))))) []) (.cons (.asg (.nm 7) (.lst (.cons (.cst .none) (.cons (.tup .nil) (.cons (.bcl .list (.cons (.var 6) .nil)) (.cons (.bin .Add (.var 6) (.tup (.cons (.cst (.int 0)) .nil))) (.cons (.sl10 (.var 6) (.cst (.int 1))) (.cons (.bin .Mult (.tup (.cons (.var 2) .nil)) (.var 3)) (.cons (.bin .Mult (.tup (.cons (.neg (.cst (.int 1))) .nil)) (.var 3)) .nil)))))))) []) (.cons (.asg (.nm 7) (.bin .Add (.var 7) (.lst (.cons (.bin .Mult (.tup (.cons (.cst .none) .nil)) (.var 3)) (.cons (.bin .Mult (.tup (.cons (.cst (.bool true)) .nil)) (.var 3)) (.cons (.bin .Mult (.cst (.str (Str.ofString "0"))) (.var 3)) .nil))))) []) (.cons (.ite (.and (.cmp .Gt (.var 3) (.cst (.int 1))) (.cmp .Gt (.var 2) (.cst (.int 2)))) (.cons (.asg (.nm 7) (.bin .Add (.var 7) (.lst (.cons (.bin .Add (.bin .Mult (.tup (.cons (.cst (.int 0)) .nil)) (.bin .Sub (.var 3) (.cst (.int 1)))) (.tup (.cons (.cst (.int 2)) .nil))) (.cons (.bin .Add (.tup (.cons (.cst (.int 2)) (.cons (.cst (.int 0)) .nil))) (.bin .Mult (.tup (.cons (.cst (.int 0)) .nil)) (.bin .Sub (.var 3) (.cst (.int 2))))) .nil)))) []) .nil) .nil) (.cons (.ite (.nt (.cmp .Eq (.cmpr (.var 10) (.nm 10) .seq (.cons (.var 7) .nil) (.cons (.cmp .IsNot (.fcl f_is_seam (.cons (.var 10) (.cons (.var 1) .nil))) (.cst (.bool false))) .nil) [10]) (.lst .nil))) (.cons (.ret (.cst (.bool false)) []) .nil) .nil) (.cons (.ret (.fcl f_is_seam (.cons (.bin .Mult (.tup (.cons (.cst (.int 0)) .nil)) (.var 3)) (.cons (.var 1) .nil))) []) .nil))))))))))
/-- a def -/
def B_law_k13 (f_many_least s_many_least_1_marks f__law_free s_many_least_1 s_many_least_1_manner f__law_ways f__law_cost s_many_least_1_manner_marks f__law_signs f__law_marks f__law_manner f__law_some : Nat) : Ss := (.cons (.asg (.nm 1) (.fcl f__law_some (.cons (.var 0) (.cons (.cst (.int 0)) (.cons (.cst (.int 4)) (.cons (.cst (.int 4)) .nil))))) []) (.cons (.par 2 3 (.v (.fcl f__law_marks (.cons (.var 0) (.cons (.cst (.int 40)) (.cons (.var 1) .nil))))) (.v (.fcl f__law_manner (.cons (.var 0) (.cons (.cst (.int 70)) .nil)))) []) (.cons (.own 4 .nil []) (.cons (.forl (.nm 5) .seq (.cons (.fcl f__law_ways (.cons (.bcl .len (.cons (.idx (.var 1) (.cst (.int 0))) .nil)) (.cons (.bcl .len (.cons (.var 1) .nil)) .nil))) .nil) (.cons (.ite (.cmp .Eq (.fcl f__law_signs (.cons (.var 2) (.cons (.var 5) (.cons (.cst (.int 1)) .nil)))) (.cst (.int 0))) (.cons (.app 4 (.tup (.cons (.neg (.fcl f__law_signs (.cons (.var 2) (.cons (.var 5) (.cons (.cst (.int 2)) .nil))))) (.cons (.fcl f__law_cost (.cons (.var 1) (.cons (.var 3) (.cons (.var 5) .nil)))) .nil))) []) .nil) .nil) .nil) []) (.cons (.ite (.cmp .NotEq (.kcl f_many_least s_many_least_1_manner_marks (.cons (.var 1) .nil) (.cons (.var 3) (.cons (.var 2) .nil))) (.ite (.cmp .NotEq (.var 4) (.lst .nil)) (.met .count (.var 4) (.cons (.bcl .min (.cons (.var 4) .nil)) .nil)) (.cst (.int 0)))) (.cons (.ret (.cst (.bool false)) []) .nil) .nil) (.cons (.asg (.nm 6) (.cmpr (.fcl f__law_cost (.cons (.var 1) (.cons (.var 3) (.cons (.var 5) .nil)))) (.nm 5) .seq (.cons (.fcl f__law_ways (.cons (.bcl .len (.cons (.idx (.var 1) (.cst (.int 0))) .nil)) (.cons (.bcl .len (.cons (.var 1) .nil)) .nil))) .nil) .nil [5]) []) (.cons (.ite (.cmp .NotEq (.kcl f_many_least s_many_least_1_manner (.cons (.var 1) .nil) (.cons (.var 3) .nil)) (.met .count (.var 6) (.cons (.bcl .min (.cons (.var 6) .nil)) .nil))) (.cons (.ret (.cst (.bool false)) []) .nil) .nil) (.cons (.asg (.nm 7) (.bin .Mult (.tup (.cons (.bin .Mult (.tup (.cons (.cst (.int 7)) .nil)) (.bcl .len (.cons (.idx (.var 1) (.cst (.int 0))) .nil))) .nil)) (.bcl .len (.cons (.var 1) .nil))) []) (.cons (.ite (.cmp .NotEq (.kcl f_many_least s_many_least_1 (.cons (.var 7) .nil) .nil) (.bcl .len (.cons (.var 6) .nil))) (.cons (.ret (.cst (.bool false)) []) .nil) .nil) (.cons (.ret (.cmp .Eq (.kcl f_many_least s_many_least_1_marks (.cons (.var 7) .nil) (.cons (.bin .Add (.tup (.cons (.bin .Mult (.tup (.cons (.cst (.int 1)) .nil)) (.bcl .len (.cons (.idx (.var 1) (.cst (.int 0))) .nil))) .nil)) (.sl10 (.fcl f__law_free (.cons (.var 1) .nil)) (.cst (.int 1)))) .nil)) (.cst (.int 0))) []) .nil))))))))))
/-- a def -/
def B_law_k30 (f_narrowed s_narrowed_2 f__law_no f__law_drawn f_loss s_loss_2_manner f__law_cost f__law_cut f__law_best f__law_free f_rebuilt f_history s_history_2 f__law_steps s_narrowed_2_manner_marks s_history_2_manner_marks f__law_marks f__law_manner f__law_some : Nat) : Ss := (.cons (.asg (.nm 1) (.fcl f__law_some (.cons (.var 0) (.cons (.cst (.int 0)) (.cons (.cst (.int 4)) (.cons (.cst (.int 3)) .nil))))) []) (.cons (.par 2 3 (.v (.fcl f__law_marks (.cons (.var 0) (.cons (.cst (.int 30)) (.cons (.var 1) .nil))))) (.v (.fcl f__law_manner (.cons (.var 0) (.cons (.cst (.int 60)) .nil)))) []) (.cons (.asg (.nm 4) (.bin .Add (.cst (.int 1)) (.fcl f__law_drawn (.cons (.var 0) (.cons (.cst (.int 61)) (.cons (.bcl .len (.cons (.idx (.var 1) (.cst (.int 0))) .nil)) .nil))))) []) (.cons (.asg (.nm 5) (.fcl f__law_steps (.cons (.var 1) (.cons (.var 4) (.cons (.var 3) (.cons (.var 2) .nil))))) []) (.cons (.asg (.nm 6) (.kcl f_history s_history_2_manner_marks (.cons (.var 1) (.cons (.var 4) .nil)) (.cons (.var 3) (.cons (.var 2) .nil))) []) (.cons (.asg (.nm 6) (.tup (.cons (.var 6) (.cons (.kcl f_narrowed s_narrowed_2_manner_marks (.cons (.var 1) (.cons (.var 4) .nil)) (.cons (.var 3) (.cons (.var 2) .nil))) .nil))) []) (.cons (.ite (.cmp .NotEq (.var 6) (.ite (.cmp .Is (.var 5) (.cst .none)) (.tup (.cons (.cst .none) (.cons (.cst .none) .nil))) (.var 5))) (.cons (.ret (.cst (.bool false)) []) .nil) .nil) (.cons (.asg (.t2 (.nm 7) (.nm 8)) (.fcl f__law_steps (.cons (.var 1) (.cons (.var 4) (.cons (.cst (.str (Str.ofString "worth"))) (.cons (.fcl f__law_free (.cons (.var 1) .nil)) .nil))))) []) (.cons (.ite (.or (.cmp .NotEq (.kcl f_history s_history_2 (.cons (.var 1) (.cons (.var 4) .nil)) .nil) (.var 7)) (.cmp .NotEq (.kcl f_narrowed s_narrowed_2 (.cons (.var 1) (.cons (.var 4) .nil)) .nil) (.var 8))) (.cons (.ret (.cst (.bool false)) []) .nil) .nil) (.cons (.ite (.cmp .NotEq (.fcl f_rebuilt (.cons (.var 8) (.cons (.var 7) .nil))) (.var 1)) (.cons (.ret (.cst (.bool false)) []) .nil) .nil) (.cons (.par 9 10 (.v (.var 1)) (.v (.cst (.int 0))) []) (.cons (.whl 10000 (.cmp .Gt (.bcl .len (.cons (.idx (.var 9) (.cst (.int 0))) .nil)) (.var 4)) (.cons (.asg (.nm 11) (.fcl f__law_best (.cons (.var 9) (.cons (.var 3) (.cons (.fcl f__law_free (.cons (.var 9) .nil)) .nil)))) []) (.cons (.par 10 9 (.v (.bin .Add (.var 10) (.fcl f__law_cost (.cons (.var 9) (.cons (.var 3) (.cons (.var 11) .nil)))))) (.v (.fcl f__law_cut (.cons (.var 9) (.cons (.var 11) .nil)))) []) .nil))) (.cons (.ite (.cmp .NotEq (.kcl f_loss s_loss_2_manner (.cons (.var 1) (.cons (.var 4) .nil)) (.cons (.var 3) .nil)) (.var 10)) (.cons (.ret (.cst (.bool false)) []) .nil) .nil) (.cons (.asg (.nm 12) (.idx (.lst (.cons (.cst (.int 0)) (.cons (.bin .Add (.bcl .len (.cons (.idx (.var 1) (.cst (.int 0))) .nil)) (.cst (.int 1))) (.cons (.cst .none) (.cons (.cst (.bool true)) (.cons (.cst (.str (Str.ofString "1"))) (.cons (.neg (.cst (.int 1))) .nil))))))) (.fcl f__law_drawn (.cons (.var 0) (.cons (.cst (.int 62)) (.cons (.cst (.int 6)) .nil))))) []) (.cons (.ite (.nt (.cmp .Eq (.cmpr (.var 13) (.nm 13) .rng (.cons (.cst (.int 3)) .nil) (.cons (.nt (.fcl f__law_no (.cons (.var 13) (.cons (.var 1) (.cons (.var 12) .nil))))) .nil) [13]) (.lst .nil))) (.cons (.ret (.cst (.bool false)) []) .nil) .nil) (.cons (.ret (.cmp .Eq (.kcl f_narrowed s_narrowed_2 (.cons (.var 1) (.cons (.bcl .len (.cons (.idx (.var 1) (.cst (.int 0))) .nil)) .nil)) .nil) (.var 1)) []) .nil))))))))))))))))
/-- a def -/
def B_least_seam (f_best_way f_need_all : Nat) : Ss := (.cons (.asg (.nm 2) (.fcl f_need_all (.cons (.var 0) (.cons (.var 1) (.cons (.var 2) .nil)))) []) (.cons (.ret (.fcl f_best_way (.cons (.lst (.cons (.var 0) .nil)) (.cons (.var 1) (.cons (.var 2) .nil)))) []) .nil))
/-- a def -/
def B_loss (f_costs_down : Nat) : Ss := (.cons (.ret (.bcl .sum (.cons (.fcl f_costs_down (.cons (.var 0) (.cons (.var 1) (.cons (.var 2) .nil)))) .nil)) []) .nil)
/-- a def -/
def B_many_least (f_next_ones f_add f_step_cost g_GONE f_starts f_downs f_need_all : Nat) : Ss := (.cons (.asg (.nm 2) (.fcl f_need_all (.cons (.var 0) (.cons (.var 1) (.cons (.var 2) .nil)))) []) (.cons (.asg (.nm 3) (.fcl f_downs (.cons (.lst (.cons (.var 0) .nil)) (.cons (.var 1) (.cons (.var 2) .nil)))) []) (.cons (.par 4 5 (.v (.bcl .len (.cons (.idx (.var 0) (.cst (.int 0))) .nil))) (.v (.bcl .len (.cons (.var 0) .nil))) []) (.cons (.asg (.nm 6) (.fcl f_starts (.cons (.lst (.cons (.var 0) .nil)) (.cons (.var 1) (.cons (.var 3) .nil)))) []) (.cons (.asg (.nm 7) (.cmpr (.var 15) (.nm 15) .seq (.cons (.var 6) .nil) (.cons (.cmp .IsNot (.var 15) (.cst .none)) .nil) [15]) []) (.cons (.ite (.cmp .Eq (.var 7) (.lst .nil)) (.cons (.ret (.cst (.int 0)) []) .nil) .nil) (.cons (.asg (.nm 8) (.cmpr (.cst (.int 1)) (.nm 11) .rng (.cons (.var 4) .nil) .nil [11]) []) (.cons (.forl (.nm 9) .rng (.cons (.bin .Sub (.var 5) (.cst (.int 2))) (.cons (.neg (.cst (.int 1))) (.cons (.neg (.cst (.int 1))) .nil))) (.cons (.own 10 .nil []) (.cons (.forl (.nm 11) .rng (.cons (.var 4) .nil) (.cons (.asg (.nm 12) (.cst (.int 0)) []) (.cons (.forl (.nm 13) .seq (.cons (.fcl f_next_ones (.cons (.var 11) (.cons (.var 4) .nil))) .nil) (.cons (.ite (.and (.cmp .IsNot (.idx (.idx (.var 3) (.var 9)) (.var 11)) (.cst .none)) (.cmp .IsNot (.idx (.idx (.var 3) (.bin .Add (.var 9) (.cst (.int 1)))) (.var 13)) (.cst .none))) (.cons (.asg (.nm 14) (.tup (.cons (.neg (.bcl .int (.cons (.cmp .Eq (.idx (.idx (.var 2) (.var 9)) (.var 11)) (.glb g_GONE)) .nil))) (.cons (.fcl f_step_cost (.cons (.var 0) (.cons (.var 13) (.cons (.bin .Add (.var 9) (.cst (.int 1))) (.cons (.var 11) (.cons (.var 1) .nil)))))) .nil))) []) (.cons (.aug 12 .Add (.ite (.cmp .Eq (.fcl f_add (.cons (.idx (.idx (.var 3) (.bin .Add (.var 9) (.cst (.int 1)))) (.var 13)) (.cons (.var 14) .nil))) (.idx (.idx (.var 3) (.var 9)) (.var 11))) (.idx (.var 8) (.var 13)) (.cst (.int 0)))) .nil)) .nil) .nil) []) (.cons (.app 10 (.var 12) []) .nil))) []) (.cons (.asg (.nm 8) (.var 10) [10]) .nil))) []) (.cons (.ret (.bcl .sum (.cons (.cmpr (.idx (.var 8) (.var 11)) (.nm 11) .rng (.cons (.var 4) .nil) (.cons (.cmp .Eq (.idx (.var 6) (.var 11)) (.bcl .min (.cons (.var 7) .nil))) .nil) [11]) .nil)) []) .nil)))))))))
/-- a def -/
def B_marks_for (f_is_marks c_NoMarks f_free_marks : Nat) : Ss := (.cons (.ite (.cmp .Is (.var 1) (.cst .none)) (.cons (.ret (.fcl f_free_marks (.cons (.var 0) .nil)) []) .nil) .nil) (.cons (.ite (.nt (.fcl f_is_marks (.cons (.var 1) (.cons (.bcl .len (.cons (.idx (.var 0) (.cst (.int 0))) .nil)) (.cons (.bcl .len (.cons (.var 0) .nil)) .nil))))) (.cons (.rais c_NoMarks) .nil) .nil) (.cons (.ret (.var 1) []) .nil)))
/-- a def -/
def B_means (f_near_next : Nat) : Ss := (.cons (.ret (.bcl .tuple (.cons (.cmpr (.bin .FloorDiv (.bin .Add (.idx (.var 2) (.var 3)) (.fcl f_near_next (.cons (.var 2) (.cons (.var 3) .nil)))) (.cst (.int 2))) (.t2 (.nm 2) (.nm 3)) .zip (.cons (.var 0) (.cons (.var 1) .nil)) .nil [2, 3]) .nil)) []) .nil)
/-- a def -/
def B_mirrored (f_need_picture : Nat) : Ss := (.cons (.exp (.fcl f_need_picture (.cons (.var 0) .nil))) (.cons (.ret (.bcl .tuple (.cons (.cmpr (.rev (.var 1)) (.nm 1) .seq (.cons (.var 0) .nil) .nil [1]) .nil)) []) .nil))
/-- a def -/
def B_narrowed (f_steps_to f_need_width f_need_all : Nat) : Ss := (.cons (.asg (.nm 3) (.fcl f_need_all (.cons (.var 0) (.cons (.var 2) (.cons (.var 3) .nil)))) []) (.cons (.exp (.fcl f_need_width (.cons (.var 0) (.cons (.var 1) .nil)))) (.cons (.asg (.nm 4) (.fcl f_steps_to (.cons (.var 0) (.cons (.var 1) (.cons (.var 2) (.cons (.var 3) .nil))))) []) (.cons (.ret (.ite (.cmp .Is (.var 4) (.cst .none)) (.cst .none) (.idx (.var 4) (.cst (.int 1)))) []) .nil))))
/-- a def -/
def B_near : Ss := (.cons (.ret (.idx (.var 0) (.bcl .max (.cons (.cst (.int 0)) (.cons (.bcl .min (.cons (.bin .Sub (.bcl .len (.cons (.var 0) .nil)) (.cst (.int 1))) (.cons (.var 1) .nil))) .nil)))) []) .nil)
/-- a def -/
def B_near_next : Ss := (.cons (.ret (.idx (.var 0) (.bcl .min (.cons (.bin .Sub (.bcl .len (.cons (.var 0) .nil)) (.cst (.int 1))) (.cons (.bin .Add (.var 1) (.cst (.int 1))) .nil)))) []) .nil)
/-- a def -/
def B_need_all (f_marks_for f_need_manner f_need_picture : Nat) : Ss := (.cons (.exp (.fcl f_need_picture (.cons (.var 0) .nil))) (.cons (.exp (.fcl f_need_manner (.cons (.var 1) .nil))) (.cons (.ret (.fcl f_marks_for (.cons (.var 0) (.cons (.var 2) .nil))) []) .nil)))
/-- a def -/
def B_need_manner (g_MANNERS c_NoManner : Nat) : Ss := (.cons (.ite (.or (.nt (.isi (.var 0) "str")) (.cmp .NotIn (.var 0) (.glb g_MANNERS))) (.cons (.rais c_NoManner) .nil) .nil) .nil)
/-- a def -/
def B_need_picture (f_is_picture c_NoPicture : Nat) : Ss := (.cons (.ite (.nt (.fcl f_is_picture (.cons (.var 0) .nil))) (.cons (.rais c_NoPicture) .nil) .nil) .nil)
/-- a def -/
def B_need_seam (f_is_seam c_NoSeam : Nat) : Ss := (.cons (.ite (.nt (.fcl f_is_seam (.cons (.var 1) (.cons (.var 0) .nil)))) (.cons (.rais c_NoSeam) .nil) .nil) .nil)
/-- a def -/
def B_need_width (f_is_number c_NoWidth : Nat) : Ss := (.cons (.ite (.nt (.fcl f_is_number (.cons (.var 1) (.cons (.cst (.int 1)) (.cons (.bcl .len (.cons (.idx (.var 0) (.cst (.int 0))) .nil)) .nil))))) (.cons (.rais c_NoWidth) .nil) .nil) .nil)
/-- a def -/
def B_next_ones : Ss := (.cons (.ret (.cmpr (.var 2) (.nm 2) .seq (.cons (.tup (.cons (.bin .Sub (.var 0) (.cst (.int 1))) (.cons (.var 0) (.cons (.bin .Add (.var 0) (.cst (.int 1))) .nil)))) .nil) (.cons (.chn .LtE .Lt (.cst (.int 0)) (.var 2) (.var 1)) .nil) [2]) []) .nil)
/-- a def -/
def B_number_of_k20 (f_next_ones f_tails g_KEPT f_need_seam f_marks_for f_need_picture : Nat) : Ss := (.cons (.exp (.fcl f_need_picture (.cons (.var 0) .nil))) (.cons (.asg (.nm 2) (.fcl f_marks_for (.cons (.var 0) (.cons (.var 2) .nil))) []) (.cons (.exp (.fcl f_need_seam (.cons (.var 0) (.cons (.var 1) .nil)))) (.cons (.ite (.cmp .NotEq (.cmpr (.var 7) (.t2 (.nm 6) (.nm 7)) .zip (.cons (.var 2) (.cons (.var 1) .nil)) (.cons (.cmp .Eq (.idx (.var 6) (.var 7)) (.glb g_KEPT)) .nil) [6, 7]) (.lst .nil)) (.cons (.ret (.cst .none) []) .nil) .nil) (.cons (.asg (.nm 3) (.fcl f_tails (.cons (.var 2) .nil)) []) (.cons (.asg (.nm 4) (.bcl .sum (.cons (.sl01 (.idx (.var 3) (.cst (.int 0))) (.idx (.var 1) (.cst (.int 0)))) .nil)) []) (.cons (.forl (.nm 5) .rng (.cons (.cst (.int 1)) (.cons (.bcl .len (.cons (.var 1) .nil)) .nil)) (.cons (.aug 4 .Add (.bcl .sum (.cons (.cmpr (.idx (.idx (.var 3) (.var 5)) (.var 7)) (.nm 7) .seq (.cons (.fcl f_next_ones (.cons (.idx (.var 1) (.bin .Sub (.var 5) (.cst (.int 1)))) (.cons (.bcl .len (.cons (.idx (.var 3) (.cst (.int 0))) .nil)) .nil))) .nil) (.cons (.cmp .Lt (.var 7) (.idx (.var 1) (.var 5))) .nil) [7]) .nil))) .nil) []) (.cons (.ret (.var 4) []) .nil))))))))
/-- a def -/
def B_paper (f_downs f_need_all : Nat) : Ss := (.cons (.asg (.nm 2) (.fcl f_need_all (.cons (.var 0) (.cons (.var 1) (.cons (.var 2) .nil)))) []) (.cons (.asg (.nm 3) (.fcl f_downs (.cons (.lst (.cons (.var 0) .nil)) (.cons (.var 1) (.cons (.var 2) .nil)))) []) (.cons (.ret (.bcl .tuple (.cons (.cmpr (.bcl .tuple (.cons (.cmpr (.ite (.cmp .Is (.var 5) (.cst .none)) (.cst .none) (.tup (.cons (.neg (.idx (.var 5) (.cst (.int 0)))) (.cons (.idx (.var 5) (.cst (.int 1))) .nil)))) (.nm 5) .seq (.cons (.var 4) .nil) .nil [5]) .nil)) (.nm 4) .seq (.cons (.var 3) .nil) .nil [4]) .nil)) []) .nil)))
/-- a def -/
def B_plain_cost (f_step_cost : Nat) : Ss := (.cons (.asg (.nm 3) (.fcl f_step_cost (.cons (.var 0) (.cons (.idx (.var 1) (.cst (.int 0))) (.cons (.cst (.int 0)) (.cons (.cst .none) (.cons (.var 2) .nil)))))) []) (.cons (.forl (.nm 4) .rng (.cons (.cst (.int 1)) (.cons (.bcl .len (.cons (.var 1) .nil)) .nil)) (.cons (.aug 3 .Add (.fcl f_step_cost (.cons (.var 0) (.cons (.idx (.var 1) (.var 4)) (.cons (.var 4) (.cons (.idx (.var 1) (.bin .Sub (.var 4) (.cst (.int 1)))) (.cons (.var 2) .nil))))))) .nil) []) (.cons (.ret (.var 3) []) .nil)))
/-- a def -/
def B_put_back (g_MOST_SIDE f_put_in f_is_cells c_NoCells f_is_way c_NoSeam f_need_picture : Nat) : Ss := (.cons (.exp (.fcl f_need_picture (.cons (.var 0) .nil))) (.cons (.ite (.nt (.fcl f_is_way (.cons (.var 1) (.cons (.bin .Add (.bcl .len (.cons (.idx (.var 0) (.cst (.int 0))) .nil)) (.cst (.int 1))) (.cons (.bcl .len (.cons (.var 0) .nil)) .nil))))) (.cons (.rais c_NoSeam) .nil) .nil) (.cons (.ite (.nt (.fcl f_is_cells (.cons (.var 2) (.cons (.bcl .len (.cons (.var 0) .nil)) .nil)))) (.cons (.rais c_NoCells) .nil) .nil) (.cons (.ret (.ite (.cmp .Lt (.bcl .len (.cons (.idx (.var 0) (.cst (.int 0))) .nil)) (.glb g_MOST_SIDE)) (.fcl f_put_in (.cons (.var 0) (.cons (.var 1) (.cons (.var 2) .nil)))) (.cst .none)) []) .nil))))
/-- a def -/
def B_put_in : Ss := (.cons (.ret (.bcl .tuple (.cons (.cmpr (.bin .Add (.bin .Add (.sl01 (.var 3) (.var 4)) (.tup (.cons (.var 5) .nil))) (.sl10 (.var 3) (.var 4))) (.t3 (.nm 3) (.nm 4) (.nm 5)) .zip (.cons (.var 0) (.cons (.var 1) (.cons (.var 2) .nil))) .nil [3, 4, 5]) .nil)) []) .nil)
/-- a def -/
def B_rebuilt (f_put_in f_is_history c_NoDeeds f_need_picture : Nat) : Ss := (.cons (.exp (.fcl f_need_picture (.cons (.var 0) .nil))) (.cons (.ite (.nt (.fcl f_is_history (.cons (.var 1) (.cons (.bcl .len (.cons (.idx (.var 0) (.cst (.int 0))) .nil)) (.cons (.bcl .len (.cons (.var 0) .nil)) .nil))))) (.cons (.rais c_NoDeeds) .nil) .nil) (.cons (.forl (.t2 (.nm 2) (.nm 3)) .seq (.cons (.rev (.var 1)) .nil) (.cons (.asg (.nm 0) (.fcl f_put_in (.cons (.var 0) (.cons (.var 2) (.cons (.var 3) .nil)))) []) .nil) []) (.cons (.ret (.var 0) []) .nil))))
/-- a def -/
def B_seam_at (f_next_ones f_is_number c_NoNumber f_tails f_marks_for f_need_picture : Nat) : Ss := (.cons (.exp (.fcl f_need_picture (.cons (.var 0) .nil))) (.cons (.asg (.nm 3) (.fcl f_tails (.cons (.fcl f_marks_for (.cons (.var 0) (.cons (.var 2) .nil))) .nil)) []) (.cons (.ite (.nt (.fcl f_is_number (.cons (.var 1) (.cons (.cst (.int 0)) (.cons (.bin .Sub (.bcl .sum (.cons (.idx (.var 3) (.cst (.int 0))) .nil)) (.cst (.int 1))) .nil))))) (.cons (.rais c_NoNumber) .nil) .nil) (.cons (.own 4 .nil []) (.cons (.forl (.t2 (.nm 5) (.nm 6)) .enum (.cons (.var 3) .nil) (.cons (.forl (.nm 7) .seq (.cons (.ite (.cmp .Eq (.var 5) (.cst (.int 0))) (.lrg1 false (.bcl .len (.cons (.var 6) .nil))) (.fcl f_next_ones (.cons (.vdx 4 (.neg (.cst (.int 1)))) (.cons (.bcl .len (.cons (.var 6) .nil)) .nil)))) .nil) (.cons (.ite (.cmp .Lt (.var 1) (.idx (.var 6) (.var 7))) (.cons (.app 4 (.var 7) []) (.cons .brk .nil)) .nil) (.cons (.aug 1 .Sub (.idx (.var 6) (.var 7))) .nil)) []) .nil) []) (.cons (.ret (.bcl .tuple (.cons (.var 4) .nil)) [4]) .nil))))))
/-- a def -/
def B_size_of (f_need_picture : Nat) : Ss := (.cons (.exp (.fcl f_need_picture (.cons (.var 0) .nil))) (.cons (.ret (.tup (.cons (.bcl .len (.cons (.idx (.var 0) (.cst (.int 0))) .nil)) (.cons (.bcl .len (.cons (.var 0) .nil)) .nil))) []) .nil))
/-- a def -/
def B_starts (f_add f_step_cost : Nat) : Ss := (.cons (.own 3 .nil []) (.cons (.forl (.t2 (.nm 4) (.nm 5)) .enum (.cons (.idx (.var 2) (.cst (.int 0))) .nil) (.cons (.asg (.nm 6) (.bcl .sum (.cons (.cmpr (.fcl f_step_cost (.cons (.var 7) (.cons (.var 4) (.cons (.cst (.int 0)) (.cons (.cst .none) (.cons (.var 1) .nil)))))) (.nm 7) .seq (.cons (.var 0) .nil) .nil [7]) .nil)) []) (.cons (.app 3 (.ite (.cmp .Is (.var 5) (.cst .none)) (.cst .none) (.fcl f_add (.cons (.var 5) (.cons (.tup (.cons (.cst (.int 0)) (.cons (.var 6) .nil))) .nil)))) []) .nil)) []) (.cons (.ret (.var 3) [3]) .nil)))
/-- a def -/
def B_step_cost (f_join_at f_worth_at : Nat) : Ss := (.cons (.ite (.cmp .Eq (.var 4) (.cst (.str (Str.ofString "worth")))) (.cons (.ret (.fcl f_worth_at (.cons (.var 0) (.cons (.var 1) (.cons (.var 2) .nil)))) []) .nil) .nil) (.cons (.asg (.nm 5) (.fcl f_join_at (.cons (.var 0) (.cons (.var 1) (.cons (.var 2) .nil)))) []) (.cons (.ite (.and (.cmp .IsNot (.var 3) (.cst .none)) (.cmp .NotEq (.var 3) (.var 1))) (.cons (.asg (.nm 6) (.ite (.cmp .Lt (.var 3) (.var 1)) (.bin .Sub (.var 1) (.cst (.int 1))) (.bin .Add (.var 1) (.cst (.int 1)))) []) (.cons (.aug 5 .Add (.bcl .abs (.cons (.bin .Sub (.idx (.idx (.var 0) (.bin .Sub (.var 2) (.cst (.int 1)))) (.var 1)) (.idx (.idx (.var 0) (.var 2)) (.var 6))) .nil))) .nil)) .nil) (.cons (.ret (.var 5) []) .nil))))
/-- a def -/
def B_steps_to (f_without f_best_way : Nat) : Ss := (.cons (.own 4 .nil []) (.cons (.whl 10000 (.cmp .Gt (.bcl .len (.cons (.idx (.var 0) (.cst (.int 0))) .nil)) (.var 1)) (.cons (.asg (.nm 5) (.fcl f_best_way (.cons (.lst (.cons (.var 0) .nil)) (.cons (.var 2) (.cons (.var 3) .nil)))) []) (.cons (.ite (.cmp .Is (.var 5) (.cst .none)) (.cons (.ret (.cst .none) []) .nil) .nil) (.cons (.app 4 (.tup (.cons (.var 5) (.cons (.bcl .tuple (.cons (.cmpr (.idx (.var 6) (.var 7)) (.t2 (.nm 6) (.nm 7)) .zip (.cons (.var 0) (.cons (.var 5) .nil)) .nil [6, 7]) .nil)) .nil))) []) (.cons (.par 0 3 (.v (.fcl f_without (.cons (.var 0) (.cons (.var 5) .nil)))) (.v (.fcl f_without (.cons (.var 3) (.cons (.var 5) .nil)))) []) .nil))))) (.cons (.ret (.tup (.cons (.var 4) (.cons (.var 0) .nil))) [4]) .nil)))
/-- a def -/
def B_swapped : Ss := (.cons (.ret (.bcl .tuple (.cons (.cmpr (.bcl .tuple (.cons (.cmpr (.idx (.var 2) (.var 1)) (.nm 2) .seq (.cons (.var 0) .nil) .nil [2]) .nil)) (.nm 1) .rng (.cons (.bcl .len (.cons (.idx (.var 0) (.cst (.int 0))) .nil)) .nil) .nil [1]) .nil)) []) .nil)
/-- a def -/
def B_tails (g_KEPT f_next_ones : Nat) : Ss := (.cons (.par 1 2 (.v (.bcl .len (.cons (.idx (.var 0) (.cst (.int 0))) .nil))) (.v (.bcl .len (.cons (.var 0) .nil))) []) (.cons (.asg (.nm 3) (.lst (.cons (.cmpr (.bcl .int (.cons (.cmp .NotEq (.idx (.idx (.var 0) (.bin .Sub (.var 2) (.cst (.int 1)))) (.var 6)) (.glb g_KEPT)) .nil)) (.nm 6) .rng (.cons (.var 1) .nil) .nil [6]) .nil)) []) (.cons (.forl (.nm 4) .rng (.cons (.bin .Sub (.var 2) (.cst (.int 2))) (.cons (.neg (.cst (.int 1))) (.cons (.neg (.cst (.int 1))) .nil))) (.cons (.own 5 .nil []) (.cons (.forl (.nm 6) .rng (.cons (.var 1) .nil) (.cons (.asg (.nm 7) (.bcl .sum (.cons (.cmpr (.idx (.idx (.var 3) (.cst (.int 0))) (.var 8)) (.nm 8) .seq (.cons (.fcl f_next_ones (.cons (.var 6) (.cons (.var 1) .nil))) .nil) .nil [8]) .nil)) []) (.cons (.app 5 (.ite (.cmp .Eq (.idx (.idx (.var 0) (.var 4)) (.var 6)) (.glb g_KEPT)) (.cst (.int 0)) (.var 7)) []) .nil)) []) (.cons (.asg (.nm 3) (.bin .Add (.lst (.cons (.var 5) .nil)) (.var 3)) [5]) .nil))) []) (.cons (.ret (.var 3) []) .nil))))
/-- a def -/
def B_turned (f_swapped f_need_picture : Nat) : Ss := (.cons (.exp (.fcl f_need_picture (.cons (.var 0) .nil))) (.cons (.ret (.fcl f_swapped (.cons (.var 0) .nil)) []) .nil))
/-- a def -/
def B_without : Ss := (.cons (.ret (.bcl .tuple (.cons (.cmpr (.bin .Add (.sl01 (.var 2) (.var 3)) (.sl10 (.var 2) (.bin .Add (.var 3) (.cst (.int 1))))) (.t2 (.nm 2) (.nm 3)) .zip (.cons (.var 0) (.cons (.var 1) .nil)) .nil [2, 3]) .nil)) []) .nil)
/-- a def -/
def B_worth_at (f_near : Nat) : Ss := (.cons (.par 3 4 (.v (.idx (.var 0) (.bcl .max (.cons (.cst (.int 0)) (.cons (.bin .Sub (.var 2) (.cst (.int 1))) .nil))))) (.v (.idx (.var 0) (.bcl .min (.cons (.bin .Sub (.bcl .len (.cons (.var 0) .nil)) (.cst (.int 1))) (.cons (.bin .Add (.var 2) (.cst (.int 1))) .nil))))) []) (.cons (.ret (.bin .Add (.bcl .abs (.cons (.bin .Sub (.fcl f_near (.cons (.idx (.var 0) (.var 2)) (.cons (.bin .Sub (.var 1) (.cst (.int 1))) .nil))) (.fcl f_near (.cons (.idx (.var 0) (.var 2)) (.cons (.bin .Add (.var 1) (.cst (.int 1))) .nil)))) .nil)) (.bcl .abs (.cons (.bin .Sub (.idx (.var 3) (.var 1)) (.idx (.var 4) (.var 1))) .nil))) []) .nil))
/-- a def -/
def B_worths (f_worth_at f_need_picture : Nat) : Ss := (.cons (.exp (.fcl f_need_picture (.cons (.var 0) .nil))) (.cons (.ret (.bcl .tuple (.cons (.cmpr (.bcl .tuple (.cons (.cmpr (.fcl f_worth_at (.cons (.var 0) (.cons (.var 2) (.cons (.var 1) .nil)))) (.nm 2) .rng (.cons (.bcl .len (.cons (.idx (.var 0) (.cst (.int 0))) .nil)) .nil) .nil [2]) .nil)) (.nm 1) .rng (.cons (.bcl .len (.cons (.var 0) .nil)) .nil) .nil [1]) .nil)) []) .nil))
end Rf
set_option Elab.async false
set_option linter.all false
namespace Rf
open PySem
/-- a comprehension behind its walk -/
def cmpR (F : D → Rs (Option D)) (its : List D) : Rs D := grd (few its.length) ((gather F its).map .list)
/-- what comes behind a value, told as a class so that no simp goes into it before the value is there -/
class Kt (α β : Type) where
  go : α → Rs β
def Rs.bk {α β : Type} (x : Rs α) [k : Kt α β] : Rs β := x.bind k.go
@[simp] theorem bk_ok {α β : Type} (a : α) (k : Kt α β) : (Rs.ok a).bk (k := k) = k.go a := id rfl
@[simp] theorem bk_ex {α β : Type} (e : Xn) (k : Kt α β) : (Rs.ex e : Rs α).bk (k := k) = .ex e := id rfl
@[simp] theorem bk_no {α β : Type} (k : Kt α β) : (Rs.no : Rs α).bk (k := k) = .no := id rfl
theorem bk_eq {α β : Type} (x : Rs α) (f : α → Rs β) : x.bk (k := ⟨f⟩) = x.bind f := rfl
theorem go_eq {α β : Type} (f : α → Rs β) (a : α) : Kt.go (self := ⟨f⟩) a = f a := rfl
/-- a comprehension's turn, a loop's turn: closed till they are given what they walk -/
def turnE (T : Tb) (t : Tg) (c : Es) (e : E) (own : List Nat) (ρ : Env) (d : D) : Rs (Option D) := turnD t (fun ρ1 => (c.ev T ρ1).bind tst) (fun ρ1 => e.ev T ρ1) own ρ d
def stepS (T : Tb) (t : Tg) (b : Ss) (d : D) (ρ : Env) : Rs Fl := (setTg t d ρ).quiet.bind fun ρ2 => b.ex T ρ2
@[simp] theorem turnE_eq (T : Tb) (t : Tg) (c : Es) (e : E) (own : List Nat) (ρ : Env) (d : D) : turnE T t c e own ρ d = (setTg t d (wipeE ρ own)).bk (k := ⟨fun ρ1 => ((c.ev T ρ1).bk (k := ⟨tst⟩)).bk (k := ⟨fun b => if b = true then (e.ev T ρ1).map some else .ok none⟩)⟩) := id rfl
@[simp] theorem stepS_eq (T : Tb) (t : Tg) (b : Ss) (d : D) (ρ : Env) : stepS T t b d ρ = (setTg t d ρ).quiet.bk (k := ⟨fun ρ2 => b.ex T ρ2⟩) := id rfl
/-- a set by a comprehension: how many, or in order -/
def sscR (ln : Bool) (F : D → Rs (Option D)) (its : List D) : Rs D := ((gather F its).bind intsD).quiet.bind (sscD ln)
/-- a comprehension of two clauses -/
def cm2R (F : D → Rs (List D)) (its : List D) : Rs D := (gath2 F its).bind fun r => grd (few r.length) (.ok (.list r))
def turnF (T : Tb) (t : Tg) (k1 : It) (is1 : Es) (t1 : Tg) (e : E) (own own1 : List Nat) (ρ : Env) (d : D) : Rs (List D) := turn2 t (fun ρ1 => (is1.ev T ρ1).bind fun ds => (itD k1 ds).quiet) t1 (fun ρ2 => e.ev T ρ2) own own1 ρ d
@[simp] theorem turnF_eq (T : Tb) (t : Tg) (k1 : It) (is1 : Es) (t1 : Tg) (e : E) (own own1 : List Nat) (ρ : Env) (d : D) : turnF T t k1 is1 t1 e own own1 ρ d = (setTg t d (wipeE ρ own)).bk (k := ⟨fun ρ1 => ((is1.ev T ρ1).bk (k := ⟨fun ds => (itD k1 ds).quiet⟩)).bk (k := ⟨gather (turnE T t1 .nil e own1 ρ1)⟩)⟩) := id rfl
section
variable (T : Tb) (ρ : Env)
@[simp] theorem ev_var (i : Nat) : (E.var i).ev T ρ = varD ρ[i]? := id rfl
@[simp] theorem ev_cst (d : D) : (E.cst d).ev T ρ = .ok d := id rfl
@[simp] theorem ev_glb (i : Nat) : (E.glb i).ev T ρ = T.gl i := id rfl
@[simp] theorem ev_bin (o : Operator) (a b : E) : (E.bin o a b).ev T ρ = (a.ev T ρ).bk (k := ⟨fun x => (b.ev T ρ).bk (k := ⟨fun y => (binD o x y).quiet⟩)⟩) := id rfl
@[simp] theorem ev_neg (a : E) : (E.neg a).ev T ρ = (a.ev T ρ).bk (k := ⟨fun x => (negD x).quiet⟩) := id rfl
@[simp] theorem ev_nt (a : E) : (E.nt a).ev T ρ = (a.ev T ρ).bk (k := ⟨fun x => (asB x).map fun b => .bool (!b)⟩) := id rfl
@[simp] theorem ev_and (a b : E) : (E.and a b).ev T ρ = (a.ev T ρ).bk (k := ⟨fun x => (asB x).bk (k := ⟨fun c => if c = true then b.ev T ρ else .ok (.bool false)⟩)⟩) := id rfl
@[simp] theorem ev_or (a b : E) : (E.or a b).ev T ρ = (a.ev T ρ).bk (k := ⟨fun x => (asB x).bk (k := ⟨fun c => if c = true then .ok (.bool true) else b.ev T ρ⟩)⟩) := id rfl
@[simp] theorem ev_cmp (o : CmpOp) (a b : E) : (E.cmp o a b).ev T ρ = (a.ev T ρ).bk (k := ⟨fun x => (b.ev T ρ).bk (k := ⟨fun y => (cmpD o x y).quiet⟩)⟩) := id rfl
@[simp] theorem ev_chn (o p : CmpOp) (a b c : E) : (E.chn o p a b c).ev T ρ = (a.ev T ρ).bk (k := ⟨fun x => (b.ev T ρ).bk (k := ⟨fun y => (cmpB o x y).quiet.bk (k := ⟨fun k => if k = true then (c.ev T ρ).bk (k := ⟨fun z => (cmpD p y z).quiet⟩) else .ok (.bool false)⟩)⟩)⟩) := id rfl
@[simp] theorem ev_ite (c a b : E) : (E.ite c a b).ev T ρ = (c.ev T ρ).bk (k := ⟨fun x => (asB x).bk (k := ⟨fun k => if k = true then a.ev T ρ else b.ev T ρ⟩)⟩) := id rfl
@[simp] theorem ev_tup (es : Es) : (E.tup es).ev T ρ = (es.ev T ρ).map .tuple := id rfl
@[simp] theorem ev_lst (es : Es) : (E.lst es).ev T ρ = (es.ev T ρ).map .list := id rfl
@[simp] theorem ev_idx (a i : E) : (E.idx a i).ev T ρ = (a.ev T ρ).bk (k := ⟨fun x => (i.ev T ρ).bk (k := ⟨fun y => (idxD x y).quiet⟩)⟩) := id rfl
@[simp] theorem ev_vdx (v : Nat) (i : E) : (E.vdx v i).ev T ρ = (lookD ρ[v]?).bk (k := ⟨fun x => (i.ev T ρ).bk (k := ⟨fun y => (idxD x y).quiet⟩)⟩) := id rfl
@[simp] theorem ev_vln (v : Nat) : (E.vln v).ev T ρ = (lookD ρ[v]?).bk (k := ⟨fun x => (lenS x).quiet⟩) := id rfl
@[simp] theorem ev_sl01 (a h : E) : (E.sl01 a h).ev T ρ = (a.ev T ρ).bk (k := ⟨fun x => (h.ev T ρ).bk (k := ⟨fun y => (asI y).bk (k := ⟨fun k => (sliD x none (some k)).quiet⟩)⟩)⟩) := id rfl
@[simp] theorem ev_sl10 (a h : E) : (E.sl10 a h).ev T ρ = (a.ev T ρ).bk (k := ⟨fun x => (h.ev T ρ).bk (k := ⟨fun y => (asI y).bk (k := ⟨fun k => (sliD x (some k) none).quiet⟩)⟩)⟩) := id rfl
@[simp] theorem ev_sl11 (a l h : E) : (E.sl11 a l h).ev T ρ = (a.ev T ρ).bk (k := ⟨fun x => (l.ev T ρ).bk (k := ⟨fun y => (asI y).bk (k := ⟨fun k => (h.ev T ρ).bk (k := ⟨fun z => (asI z).bk (k := ⟨fun n => (sliD x (some k) (some n)).quiet⟩)⟩)⟩)⟩)⟩) := id rfl
@[simp] theorem ev_rev (a : E) : (E.rev a).ev T ρ = (a.ev T ρ).bk (k := ⟨fun x => (revD x).quiet⟩) := id rfl
@[simp] theorem ev_lrg1 (tp : Bool) (a : E) : (E.lrg1 tp a).ev T ρ = (a.ev T ρ).bk (k := ⟨fun x => (rngL tp [x]).quiet⟩) := id rfl
@[simp] theorem ev_lrg2 (tp : Bool) (a b : E) : (E.lrg2 tp a b).ev T ρ = (a.ev T ρ).bk (k := ⟨fun x => (b.ev T ρ).bk (k := ⟨fun y => (rngL tp [x, y]).quiet⟩)⟩) := id rfl
@[simp] theorem ev_bcl (f : Bf) (es : Es) : (E.bcl f es).ev T ρ = (es.ev T ρ).bk (k := ⟨fun ds => (bclD f ds).quiet⟩) := id rfl
@[simp] theorem ev_fcl (f : Nat) (es : Es) : (E.fcl f es).ev T ρ = (es.ev T ρ).bk (k := ⟨(T.fn f)⟩) := id rfl
@[simp] theorem ev_kcl (f sh : Nat) (es ks : Es) : (E.kcl f sh es ks).ev T ρ = (es.ev T ρ).bk (k := ⟨fun ds => (ks.ev T ρ).bk (k := ⟨fun zs => T.fn f (T.arr sh ds zs)⟩)⟩) := id rfl
@[simp] theorem ev_met (m : Mf) (a : E) (es : Es) : (E.met m a es).ev T ρ = (a.ev T ρ).bk (k := ⟨fun x => grd (metOk m x) ((es.ev T ρ).bk (k := ⟨fun ds => (metD m x ds).quiet⟩))⟩) := id rfl
@[simp] theorem ev_isi (a : E) (t : String) : (E.isi a t).ev T ρ = (a.ev T ρ).bk (k := ⟨fun x => ((isiD t x).map .bool).quiet⟩) := id rfl
end
def isxD (T : Tb) (c : Nat) : Option Sl → Rs D
  | some (.xn e) => grd (decide (e.1 < T.cls.length) && decide (c < T.cls.length)) (.ok (.bool (T.isa e.1 c)))
  | _ => .no
@[simp] theorem isxD_xn (T : Tb) (c : Nat) (e : Xn) : isxD T c (some (.xn e)) = grd (decide (e.1 < T.cls.length) && decide (c < T.cls.length)) (.ok (.bool (T.isa e.1 c))) := id rfl
section
variable (T : Tb) (ρ : Env)
@[simp] theorem ev_isx (v c : Nat) : (E.isx v c).ev T ρ = isxD T c ρ[v]? := by
  show (match ρ[v]? with | some (.xn e) => grd (decide (e.1 < T.cls.length) && decide (c < T.cls.length)) (Rs.ok (PyData.bool (T.isa e.1 c))) | _ => .no) = _
  cases ρ[v]? with
  | none => rfl
  | some s => cases s <;> rfl
@[simp] theorem ev_cmpr (e : E) (t : Tg) (k : It) (is c : Es) (own : List Nat) : (E.cmpr e t k is c own).ev T ρ = ((is.ev T ρ).bk (k := ⟨fun ds => (itD k ds).quiet⟩)).bk (k := ⟨(cmpR (turnE T t c e own ρ))⟩) := id rfl
@[simp] theorem ev_sst (e : E) : (E.sst e).ev T ρ = (e.ev T ρ).bk (k := ⟨sstD⟩) := id rfl
@[simp] theorem ev_ssc (ln : Bool) (e : E) (t : Tg) (k : It) (is : Es) (own : List Nat) : (E.ssc ln e t k is own).ev T ρ = ((is.ev T ρ).bk (k := ⟨fun ds => (itD k ds).quiet⟩)).bk (k := ⟨sscR ln (turnE T t .nil e own ρ)⟩) := id rfl
@[simp] theorem ev_cm2 (e : E) (t : Tg) (k : It) (is : Es) (t1 : Tg) (k1 : It) (is1 : Es) (own own1 : List Nat) : (E.cm2 e t k is t1 k1 is1 own own1).ev T ρ = ((is.ev T ρ).bk (k := ⟨fun ds => (itD k ds).quiet⟩)).bk (k := ⟨cm2R (turnF T t k1 is1 t1 e own own1 ρ)⟩) := id rfl
@[simp] theorem evs_nil : Es.nil.ev T ρ = .ok [] := id rfl
@[simp] theorem evs_cons (e : E) (es : Es) : (Es.cons e es).ev T ρ = (e.ev T ρ).bk (k := ⟨fun x => (es.ev T ρ).map fun r => x :: r⟩) := id rfl
@[simp] theorem ex_asg (t : Tg) (e : E) (fr : List Nat) : (S.asg t e fr).ex T ρ = (e.ev T (frzL fr ρ)).bk (k := ⟨fun d => (setTg t d (frzL fr ρ)).quiet.map .nx⟩) := id rfl
@[simp] theorem ex_own (i : Nat) (es : Es) (fr : List Nat) : (S.own i es fr).ex T ρ = (es.ev T (frzL fr ρ)).map fun ds => .nx ((frzL fr ρ).set i (.ow ds)) := id rfl
@[simp] theorem ex_par (i j : Nat) (a b : Pv) (fr : List Nat) : (S.par i j a b fr).ex T ρ = (a.ev T (frzL fr ρ)).bk (k := ⟨fun x => (b.ev T (frzL fr ρ)).map fun y => .nx (((frzL fr ρ).set i x).set j y)⟩) := id rfl
@[simp] theorem ex_star (o : Bool) (i j : Nat) (e : E) (fr : List Nat) : (S.star o i j e fr).ex T ρ = (e.ev T (frzL fr ρ)).bk (k := ⟨fun d => (starD d).map fun q => .nx (((frzL fr ρ).set i (.fz q.1)).set j (starS o q.2))⟩) := id rfl
@[simp] theorem ex_par3 (i j l : Nat) (a b d : Pv) (fr : List Nat) : (S.par3 i j l a b d fr).ex T ρ = (a.ev T (frzL fr ρ)).bk (k := ⟨fun x => (b.ev T (frzL fr ρ)).bk (k := ⟨fun y => (d.ev T (frzL fr ρ)).map fun z => .nx ((((frzL fr ρ).set i x).set j y).set l z)⟩)⟩) := id rfl
@[simp] theorem ex_aug (i : Nat) (o : Operator) (e : E) : (S.aug i o e).ex T ρ = (varD ρ[i]?).bk (k := ⟨fun x => (e.ev T ρ).bk (k := ⟨fun y => (binIntD o x y).quiet.map fun z => .nx (ρ.set i (.fz z))⟩)⟩) := id rfl
@[simp] theorem ex_app (i : Nat) (e : E) (fr : List Nat) : (S.app i e fr).ex T ρ = appD (e.ev T) i (frzL fr ρ) := id rfl
@[simp] theorem ex_exp (e : E) : (S.exp e).ex T ρ = (e.ev T ρ).map fun _ => .nx ρ := id rfl
@[simp] theorem ex_ret (e : E) (fr : List Nat) : (S.ret e fr).ex T ρ = (e.ev T (frzL fr ρ)).map .rt := id rfl
@[simp] theorem ex_ite (c : E) (a b : Ss) : (S.ite c a b).ex T ρ = (tstE T c ρ).bk (k := ⟨fun k => if k = true then a.ex T ρ else b.ex T ρ⟩) := id rfl
@[simp] theorem ex_forl (t : Tg) (k : It) (is : Es) (b : Ss) (fr : List Nat) : (S.forl t k is b fr).ex T ρ = ((is.ev T (frzL fr ρ)).bk (k := ⟨fun ds => (itD k ds).quiet⟩)).bk (k := ⟨fun its => forD (stepS T t b) its (frzL fr ρ)⟩) := id rfl
@[simp] theorem ex_whl (n : Nat) (c : E) (b : Ss) : (S.whl n c b).ex T ρ = whlD (tstE T c) (b.ex T) n ρ := id rfl
@[simp] theorem ex_rais (cl : Nat) : (S.rais cl).ex T ρ = grd (decide (cl < T.cls.length)) (.ex (cl, none)) := id rfl
@[simp] theorem ex_brk : S.brk.ex T ρ = .ok (.bk ρ) := id rfl
@[simp] theorem ex_pass : S.pass.ex T ρ = .ok (.nx ρ) := id rfl
@[simp] theorem ex_tryx (b : Ss) (cl i : Nat) (h : Ss) : (S.tryx b cl i h).ex T ρ = tryD T cl (fun e => h.ex T ((blank ρ).set i (.xn e))) (b.ex T ρ) := id rfl
@[simp] theorem exs_nil : Ss.nil.ex T ρ = .ok (.nx ρ) := id rfl
@[simp] theorem exs_cons (s : S) (ss : Ss) : (Ss.cons s ss).ex T ρ = (s.ex T ρ).bk (k := ⟨fun f => seqF f (ss.ex T)⟩) := id rfl
@[simp] theorem pv_v (x : E) : (Pv.v x).ev T ρ = (x.ev T ρ).map .fz := id rfl
@[simp] theorem pv_o (es : Es) : (Pv.o es).ev T ρ = (es.ev T ρ).map .ow := id rfl
@[simp] theorem tst_e (c : E) : tstE T c ρ = (c.ev T (viewE ρ)).bk (k := ⟨asB⟩) := id rfl
end
@[simp] theorem bindA {α β γ : Type} (x : Rs α) (k : Kt α β) (g : Kt β γ) : (x.bk (k := k)).bk (k := g) = x.bk (k := ⟨fun a => (k.go a).bk (k := g)⟩) := by cases x <;> rfl
@[simp] theorem mapB {α β γ : Type} (x : Rs α) (f : α → β) (g : Kt β γ) : (x.map f).bk (k := g) = x.bk (k := ⟨fun a => g.go (f a)⟩) := by cases x <;> rfl
@[simp] theorem mapM {α β γ : Type} (x : Rs α) (f : α → β) (g : β → γ) : (x.map f).map g = x.map fun a => g (f a) := by cases x <;> rfl
@[simp] theorem bindM {α β γ : Type} (x : Rs α) (k : Kt α β) (g : β → γ) : (x.bk (k := k)).map g = x.bk (k := ⟨fun a => (k.go a).map g⟩) := by cases x <;> rfl
@[simp] theorem bind_bk {α β : Type} (x : Rs α) (f : α → Rs β) : x.bind f = x.bk (k := ⟨f⟩) := id rfl
@[simp] theorem map_ok {α β : Type} (f : α → β) (a : α) : (Rs.ok a).map f = .ok (f a) := id rfl
@[simp] theorem map_ex {α β : Type} (f : α → β) (e : Xn) : (Rs.ex e : Rs α).map f = .ex e := id rfl
@[simp] theorem map_no {α β : Type} (f : α → β) : (Rs.no : Rs α).map f = .no := id rfl
@[simp] theorem varD_fz (d : D) : varD (some (.fz d)) = .ok d := id rfl
@[simp] theorem lookD_fz (d : D) : lookD (some (.fz d)) = .ok d := id rfl
@[simp] theorem lookD_ow (ds : List D) : lookD (some (.ow ds)) = .ok (.list ds) := id rfl
@[simp] theorem seqF_nx (ρ : Env) (k : Env → Rs Fl) : seqF (.nx ρ) k = k ρ := id rfl
@[simp] theorem seqF_rt (d : D) (k : Env → Rs Fl) : seqF (.rt d) k = .ok (.rt d) := id rfl
@[simp] theorem seqF_bk (ρ : Env) (k : Env → Rs Fl) : seqF (.bk ρ) k = .ok (.bk ρ) := id rfl
@[simp] theorem seqF_ct (ρ : Env) (k : Env → Rs Fl) : seqF (.ct ρ) k = .ok (.ct ρ) := id rfl
@[simp] theorem tryD_ok (T : Tb) (cl : Nat) (h : Xn → Rs Fl) (f : Fl) : tryD T cl h (.ok f) = .ok f := id rfl
@[simp] theorem tryD_ex (T : Tb) (cl : Nat) (h : Xn → Rs Fl) (e : Xn) : tryD T cl h (.ex e) = grd (decide (e.1 < T.cls.length) && decide (cl < T.cls.length) && e.2.isNone) (if T.isa e.1 cl = true then caught (h e) else .ex e) := id rfl
@[simp] theorem caught_rt (d : D) : caught (.ok (.rt d)) = .ok (.rt d) := id rfl
@[simp] theorem asB_bool (b : Bool) : asB (.bool b) = .ok b := id rfl
@[simp] theorem asI_int (i : Int) : asI (.int i) = .ok i := id rfl
@[simp] theorem tst_nil : tst [] = .ok true := id rfl
@[simp] theorem tst_one (b : Bool) : tst [.bool b] = .ok b := id rfl
/-! environments that are written out -/
@[simp high] theorem at0 (a : Sl) (l : List Sl) : (a :: l)[0]? = some a := id rfl
@[simp high] theorem at1 (a b : Sl) (l : List Sl) : (a :: b :: l)[1]? = some b := id rfl
@[simp high] theorem at2 (a b c : Sl) (l : List Sl) : (a :: b :: c :: l)[2]? = some c := id rfl
@[simp high] theorem at3 (a b c d : Sl) (l : List Sl) : (a :: b :: c :: d :: l)[3]? = some d := id rfl
@[simp high] theorem at4 (a b c d e : Sl) (l : List Sl) : (a :: b :: c :: d :: e :: l)[4]? = some e := id rfl
@[simp high] theorem atS (a b c d e : Sl) (l : List Sl) (n : Nat) : (a :: b :: c :: d :: e :: l)[n + 5]? = l[n]? := id rfl
@[simp] theorem vw_fz (d : D) : vw (.fz d) = .fz d := id rfl
@[simp] theorem vw_ow (d : List D) : vw (.ow d) = .fz (.list d) := id rfl
@[simp] theorem vw_un : vw .un = .un := id rfl
@[simp] theorem vw_xn (e : Xn) : vw (.xn e) = .xn e := id rfl
@[simp] theorem viewE_nil : viewE [] = [] := id rfl
@[simp] theorem viewE_cons (s : Sl) (ρ : Env) : viewE (s :: ρ) = vw s :: viewE ρ := id rfl
@[simp] theorem blank_nil : blank [] = [] := id rfl
@[simp] theorem blank_cons (s : Sl) (ρ : Env) : blank (s :: ρ) = .un :: blank ρ := id rfl
/-- the same with a count -/
def frzA (fr : List Nat) : Nat → Env → Env
  | _, [] => []
  | n, s :: ρ => (if fr.contains n = true then vw s else s) :: frzA fr (n + 1) ρ
theorem frzA_eq (fr : List Nat) : ∀ (ρ : Env) (n : Nat), ρ.mapIdx (fun i s => if fr.contains (n + i) = true then vw s else s) = frzA fr n ρ
  | [], _ => rfl
  | s :: ρ, n => by
    rw [List.mapIdx_cons]
    unfold frzA
    have := frzA_eq fr ρ (n + 1)
    have e : (fun i s => if fr.contains (n + (i + 1)) = true then vw s else s) = (fun i s => if fr.contains (n + 1 + i) = true then vw s else s) := by
      funext i s
      rw [show n + (i + 1) = n + 1 + i by omega]
    rw [e, this]
    rfl
@[simp] theorem frzL_cons (a : Nat) (l : List Nat) (ρ : Env) : frzL (a :: l) ρ = frzA (a :: l) 0 ρ := by
  rw [← frzA_eq]
  show frzP (fun i => (a :: l).contains i) ρ = _
  unfold frzP
  simp only [Nat.zero_add]
@[simp] theorem frzA_nil (fr : List Nat) (n : Nat) : frzA fr n [] = [] := id rfl
@[simp] theorem frzA_cons (fr : List Nat) (n : Nat) (s : Sl) (ρ : Env) : frzA fr n (s :: ρ) = (if fr.contains n = true then vw s else s) :: frzA fr (n + 1) ρ := id rfl
@[simp] theorem setTg_eq (t : Tg) (d : D) (ρ : Env) : setTg t d ρ = (bindTg t d).map (setAllE ρ) := id rfl
@[simp] theorem bindTg_nm (i : Nat) (d : D) : bindTg (.nm i) d = .ok [(i, d)] := id rfl
@[simp] theorem bindTg_t2 (a b : Tg) (x y : D) : bindTg (.t2 a b) (.tuple [x, y]) = (bindTg a x).bk (k := ⟨fun l => (bindTg b y).map fun r => l ++ r⟩) := id rfl
@[simp] theorem bindTg_t3 (a b c : Tg) (x y z : D) : bindTg (.t3 a b c) (.tuple [x, y, z]) = (bindTg a x).bk (k := ⟨fun l => (bindTg b y).bk (k := ⟨fun r => (bindTg c z).map fun q => l ++ (r ++ q)⟩)⟩) := id rfl
@[simp] theorem setAllE_nil (ρ : Env) : setAllE ρ [] = ρ := id rfl
@[simp] theorem setAllE_cons (ρ : Env) (b : Nat × D) (bs : List (Nat × D)) : setAllE ρ (b :: bs) = setAllE (ρ.set b.1 (.fz b.2)) bs := id rfl
@[simp] theorem wipeE_nil (ρ : Env) : wipeE ρ [] = ρ := id rfl
@[simp] theorem wipeE_cons (ρ : Env) (v : Nat) (vs : List Nat) : wipeE ρ (v :: vs) = (wipeE ρ vs).set v .un := id rfl
/-! operators at values that are written -/
section
variable (i j : Int) (b : Bool)
@[simp] theorem add_int : binD .Add (.int i) (.int j) = .ok (.int (i + j)) := id rfl
@[simp] theorem sub_int : binD .Sub (.int i) (.int j) = .ok (.int (i - j)) := id rfl
@[simp] theorem neg_int : negD (.int i) = .ok (.int (-i)) := id rfl
@[simp] theorem bin_int1 : binIntD .Add (.int i) (.int j) = .ok (.int (i + j)) := id rfl
@[simp] theorem bin_int2 : binIntD .Sub (.int i) (.int j) = .ok (.int (i - j)) := id rfl
@[simp] theorem len_list (xs : List D) : bclD .len [.list xs] = .ok (.int xs.length) := id rfl
@[simp] theorem len_tuple (xs : List D) : bclD .len [.tuple xs] = .ok (.int xs.length) := id rfl
@[simp] theorem lenS_list (xs : List D) : lenS (.list xs) = .ok (.int xs.length) := id rfl
@[simp] theorem lenS_tuple (xs : List D) : lenS (.tuple xs) = .ok (.int xs.length) := id rfl
@[simp] theorem tup_list (xs : List D) : bclD .tuple [.list xs] = .ok (.tuple xs) := id rfl
@[simp] theorem tup_tuple (xs : List D) : bclD .tuple [.tuple xs] = .ok (.tuple xs) := id rfl
@[simp] theorem list_list (xs : List D) : bclD .list [.list xs] = .ok (.list xs) := id rfl
@[simp] theorem list_tuple (xs : List D) : bclD .list [.tuple xs] = .ok (.list xs) := id rfl
@[simp] theorem int_int : bclD .int [.int i] = .ok (.int i) := id rfl
@[simp] theorem int_bool : bclD .int [.bool b] = .ok (.int (if b then 1 else 0)) := id rfl
@[simp] theorem abs_int : bclD .abs [.int i] = .ok (.int (if i < 0 then -i else i)) := id rfl
@[simp] theorem max_int : bclD .max [.int i, .int j] = .ok (.int (if j > i then j else i)) := id rfl
@[simp] theorem min_int : bclD .min [.int i, .int j] = .ok (.int (if j < i then j else i)) := id rfl
@[simp] theorem cmpD_eq (o : CmpOp) (d e : D) : cmpD o d e = (cmpB o d e).map .bool := id rfl
@[simp] theorem lt_int : cmpB .Lt (.int i) (.int j) = .ok (decide (i < j)) := id rfl
@[simp] theorem le_int : cmpB .LtE (.int i) (.int j) = .ok (decide (i ≤ j)) := id rfl
@[simp] theorem gt_int : cmpB .Gt (.int i) (.int j) = .ok (decide (j < i)) := id rfl
@[simp] theorem ge_int : cmpB .GtE (.int i) (.int j) = .ok (decide (j ≤ i)) := id rfl
def isNo : D → Bool
  | .none => true
  | _ => false
@[simp] theorem is_none (d : D) : cmpB .Is d .none = .ok (isNo d) := by cases d <;> rfl
@[simp] theorem isnot_none (d : D) : cmpB .IsNot d .none = .ok (!isNo d) := by cases d <;> rfl
@[simp] theorem isNo_none : isNo .none = true := id rfl
@[simp] theorem isNo_int : isNo (.int i) = false := id rfl
@[simp] theorem isNo_boo : isNo (.bool b) = false := id rfl
@[simp] theorem isNo_str (s : Str) : isNo (.str s) = false := id rfl
@[simp] theorem isNo_lst (l : List D) : isNo (.list l) = false := id rfl
@[simp] theorem isNo_tup (l : List D) : isNo (.tuple l) = false := id rfl
@[simp] theorem is_bool (a b : Bool) : cmpB .Is (.bool a) (.bool b) = .ok (decide (a = b)) := id rfl
@[simp] theorem isnot_bool (a b : Bool) : cmpB .IsNot (.bool a) (.bool b) = .ok (!decide (a = b)) := id rfl
end
end Rf
set_option Elab.async false
set_option linter.all false
set_option autoImplicit false
set_option maxHeartbeats 1000000
namespace Rf
open PySem L2
/-! ### values written by functions -/
def tu {α : Type} (f : α → D) (l : List α) : D := .tuple (l.map f)
def li {α : Type} (f : α → D) (l : List α) : D := .list (l.map f)
def pr {α β : Type} (f : α → D) (g : β → D) (p : α × β) : D := .tuple [f p.1, g p.2]
def op {α : Type} (f : α → D) : Option α → D
  | none => .none
  | some a => f a
@[simp] theorem isNo_tu {α : Type} (f : α → D) (l : List α) : isNo (tu f l) = false := id rfl
@[simp] theorem isNo_li {α : Type} (f : α → D) (l : List α) : isNo (li f l) = false := id rfl
@[simp] theorem isNo_pr {α β : Type} (f : α → D) (g : β → D) (p : α × β) : isNo (pr f g p) = false := id rfl
theorem isNo_op {α : Type} {f : α → D} (h : ∀ a, isNo (f a) = false) (o : Option α) : isNo (op f o) = o.isNone := by
  cases o with
  | none => rfl
  | some a => exact h a
abbrev row : List Int → D := tu .int
abbrev pic : List (List Int) → D := tu row
/-- equality tells the values apart -/
structure Enc {α : Type} (n : Nat) (f : α → D) : Prop where
  eqv : ∀ a b, (PyData.eqv (f a) (f b) = true) ↔ a = b
  lay : ∀ a, (f a).canLay0 = true
  dep : ∀ a, (f a).depth ≤ n
theorem Enc.mono {α : Type} {n m : Nat} {f : α → D} (h : Enc n f) (k : n ≤ m) : Enc m f := ⟨h.eqv, h.lay, fun a => Nat.le_trans (h.dep a) k⟩
theorem eqvAll_map {α : Type} {n : Nat} {f : α → D} (h : Enc n f) : ∀ l m : List α, (PyData.eqvAll (l.map f) (m.map f) = true) ↔ l = m
  | [], [] => by simp [PyData.eqvAll]
  | [], _ :: _ => by simp [PyData.eqvAll]
  | _ :: _, [] => by simp [PyData.eqvAll]
  | a :: l, b :: m => by
    have i := eqvAll_map h l m
    simp only [List.map_cons, PyData.eqvAll, Bool.and_eq_true, h.eqv, i, List.cons.injEq]
theorem layAll_map {α : Type} {n : Nat} {f : α → D} (h : Enc n f) : ∀ l : List α, PyData.canLayAll0 (l.map f) = true
  | [] => rfl
  | a :: l => by simp [PyData.canLayAll0, h.lay, layAll_map h l]
theorem enc_int : Enc 1 PyData.int := ⟨fun a b => by simp [PyData.eqv], fun a => by simp [PyData.canLay0], fun a => by simp [PyData.depth]⟩
theorem enc_bool : Enc 1 PyData.bool := ⟨fun a b => by simp [PyData.eqv], fun a => by simp [PyData.canLay0], fun a => by simp [PyData.depth]⟩
theorem depAll_map {α : Type} {n : Nat} {f : α → D} (h : Enc n f) : ∀ l : List α, PyData.depthAll (l.map f) ≤ n
  | [] => by simp [PyData.depthAll]
  | a :: l => by
    have := h.dep a
    have := depAll_map h l
    simp only [List.map_cons, PyData.depthAll]
    omega
theorem Enc.tu {α : Type} {n : Nat} {f : α → D} (h : Enc n f) : Enc (n + 1) (tu f) := ⟨fun a b => by unfold Rf.tu; simp only [PyData.eqv]; exact eqvAll_map h a b, fun a => by unfold Rf.tu; simp only [PyData.canLay0]; exact layAll_map h a, fun a => by
  have := depAll_map h a
  unfold Rf.tu
  simp only [PyData.depth]
  omega⟩
theorem Enc.li {α : Type} {n : Nat} {f : α → D} (h : Enc n f) : Enc (n + 1) (li f) := ⟨fun a b => by unfold Rf.li; simp only [PyData.eqv]; exact eqvAll_map h a b, fun a => by unfold Rf.li; simp only [PyData.canLay0]; exact layAll_map h a, fun a => by
  have := depAll_map h a
  unfold Rf.li
  simp only [PyData.depth]
  omega⟩
theorem Enc.pr {α β : Type} {n : Nat} {f : α → D} {g : β → D} (h : Enc n f) (k : Enc n g) : Enc (n + 1) (pr f g) := ⟨fun a b => by
    unfold Rf.pr
    simp only [PyData.eqv, PyData.eqvAll, Bool.and_eq_true, h.eqv, k.eqv, and_true, Prod.ext_iff], fun a => by
    unfold Rf.pr
    simp [PyData.canLay0, PyData.canLayAll0, h.lay, k.lay], fun a => by
    have := h.dep a.1
    have := k.dep a.2
    unfold Rf.pr
    simp only [PyData.depth, PyData.depthAll]
    omega⟩
theorem Enc.op {α : Type} {n : Nat} {f : α → D} (h : Enc n f) (hn : ∀ a, PyData.eqv .none (f a) = false ∧ PyData.eqv (f a) .none = false) (h1 : 1 ≤ n) : Enc n (op f) := ⟨fun a b => by
    cases a <;> cases b <;> simp [Rf.op, h.eqv, (hn _).1, (hn _).2, PyData.eqv], fun a => by
    cases a
    · rfl
    · exact h.lay _, fun a => by
    cases a
    · simpa [Rf.op, PyData.depth] using h1
    · exact h.dep _⟩
theorem shaped_enc {α : Type} {n : Nat} {f : α → D} (h : Enc n f) (hn : n ≤ 64) (a : α) : SeqAt.shaped (f a) = true := by
  unfold SeqAt.shaped
  have := h.dep a
  simp only [h.lay, Bool.true_and, decide_eq_true_eq]
  omega
theorem eq_enc {α : Type} [DecidableEq α] {n : Nat} {f : α → D} (h : Enc n f) (hn : n ≤ 64) (a b : α) : cmpB .Eq (f a) (f b) = .ok (decide (a = b)) := by
  show eqD (f a) (f b) = _
  unfold eqD
  rw [shaped_enc h hn, shaped_enc h hn]
  show Rs.ok _ = _
  have := h.eqv a b
  by_cases e : a = b
  · rw [this.mpr e]; simp [e]
  · have q : PyData.eqv (f a) (f b) = false := by
      cases z : PyData.eqv (f a) (f b) with
      | false => rfl
      | true => exact absurd (this.mp z) e
    rw [q]; simp [e]
theorem ne_enc {α : Type} [DecidableEq α] {n : Nat} {f : α → D} (h : Enc n f) (hn : n ≤ 64) (a b : α) : cmpB .NotEq (f a) (f b) = .ok (!decide (a = b)) := by
  show (cmpB .Eq (f a) (f b)).map not = _
  rw [eq_enc h hn]; rfl
theorem enc_row : Enc 2 row := enc_int.tu
theorem enc_pic : Enc 3 pic := enc_row.tu
@[simp] theorem eq_int (i j : Int) : cmpB .Eq (.int i) (.int j) = .ok (decide (i = j)) := eq_enc enc_int (by decide) i j
@[simp] theorem ne_int (i j : Int) : cmpB .NotEq (.int i) (.int j) = .ok (!decide (i = j)) := ne_enc enc_int (by decide) i j
@[simp] theorem eq_row (i j : List Int) : cmpB .Eq (row i) (row j) = .ok (decide (i = j)) := eq_enc enc_row (by decide) i j
@[simp] theorem ne_row (i j : List Int) : cmpB .NotEq (row i) (row j) = .ok (!decide (i = j)) := ne_enc enc_row (by decide) i j
@[simp] theorem eq_pic (i j : List (List Int)) : cmpB .Eq (pic i) (pic j) = .ok (decide (i = j)) := eq_enc enc_pic (by decide) i j
@[simp] theorem ne_pic (i j : List (List Int)) : cmpB .NotEq (pic i) (pic j) = .ok (!decide (i = j)) := ne_enc enc_pic (by decide) i j
/-! ### items -/
def getI {α : Type} [Inhabited α] (l : List α) (i : Int) : α := (atI l i).getD default
theorem atI_some {α : Type} [Inhabited α] {l : List α} {i : Int} (h1 : -(l.length : Int) ≤ i) (h2 : i < l.length) : atI l i = some (getI l i) := by
  have h : (atI l i).isSome := by
    unfold atI ixN
    by_cases h0 : 0 ≤ i
    · rw [if_pos h0, if_pos h2]; simp; omega
    · rw [if_neg h0, if_pos h1]; simp; omega
  unfold getI
  cases q : atI l i with
  | none => rw [q] at h; cases h
  | some a => rfl
theorem getI_nat {α : Type} [Inhabited α] (l : List α) (i : Nat) : getI l (i : Int) = l.getD i default := by
  unfold getI atI ixN
  by_cases h : (i : Int) < l.length
  · rw [if_pos (by omega), if_pos h]; simp [List.getD_eq_getElem?_getD]
  · rw [if_pos (by omega), if_neg h]; simp [List.getD_eq_getElem?_getD, List.getElem?_eq_none_iff.mpr (show l.length ≤ i by omega)]
theorem getI_pos {α : Type} [Inhabited α] (l : List α) {i : Int} (h : 0 ≤ i) : getI l i = l.getD i.toNat default := by
  obtain ⟨k, rfl⟩ := Int.eq_ofNat_of_zero_le h
  rw [getI_nat]; rfl
theorem getI_neg {α : Type} [Inhabited α] (l : List α) {i : Int} (h : i < 0) (h2 : -(l.length : Int) ≤ i) : getI l i = l.getD (i + l.length).toNat default := by
  unfold getI atI ixN
  rw [if_neg (by omega), if_pos h2]; simp [List.getD_eq_getElem?_getD]
theorem getI_mem {α : Type} [Inhabited α] {l : List α} {i : Int} (h1 : -(l.length : Int) ≤ i) (h2 : i < l.length) : getI l i ∈ l := by
  by_cases h : 0 ≤ i
  · rw [getI_pos l h, List.getD_eq_getElem?_getD]
    have : i.toNat < l.length := by omega
    simp [this]
  · rw [getI_neg l (by omega) h1, List.getD_eq_getElem?_getD]
    have : (i + l.length).toNat < l.length := by omega
    simp [this]
theorem atI_map {α β : Type} (f : α → β) (l : List α) (i : Int) : atI (l.map f) i = (atI l i).map f := by
  unfold atI
  rw [List.length_map]
  cases ixN l.length i <;> simp
theorem getI_map {α β : Type} [Inhabited α] [Inhabited β] (f : α → β) (l : List α) {i : Int} (h1 : -(l.length : Int) ≤ i) (h2 : i < l.length) : getI (l.map f) i = f (getI l i) := by
  have := atI_some h1 h2
  conv => lhs; unfold getI
  rw [atI_map, this]; rfl
theorem idx_tu {α : Type} [Inhabited α] (f : α → D) (l : List α) {i : Int} (h1 : -(l.length : Int) ≤ i) (h2 : i < l.length) : idxD (tu f l) (.int i) = .ok (f (getI l i)) := by
  show (match atI (l.map f) i with | some d => Rs.ok d | none => .no) = _
  rw [atI_map, atI_some h1 h2]; rfl
theorem idx_li {α : Type} [Inhabited α] (f : α → D) (l : List α) {i : Int} (h1 : -(l.length : Int) ≤ i) (h2 : i < l.length) : idxD (li f l) (.int i) = .ok (f (getI l i)) := by
  show (match atI (l.map f) i with | some d => Rs.ok d | none => .no) = _
  rw [atI_map, atI_some h1 h2]; rfl
theorem atI_zero {α : Type} (x : α) (xs : List α) : atI (x :: xs) 0 = some x := by
  unfold atI ixN
  rw [if_pos (by omega), if_pos (by simp only [List.length_cons]; omega)]; rfl
@[simp] theorem idx_zero (x : D) (xs : List D) : idxD (.tuple (x :: xs)) (.int 0) = .ok x := by
  show (match atI (x :: xs) 0 with | some d => Rs.ok d | none => .no) = _
  rw [atI_zero]
@[simp] theorem idx_zeroL (x : D) (xs : List D) : idxD (.list (x :: xs)) (.int 0) = .ok x := by
  show (match atI (x :: xs) 0 with | some d => Rs.ok d | none => .no) = _
  rw [atI_zero]
/-! ### further operations -/
section
variable {α β : Type} (f : α → D) (g : β → D) (l m : List α)
@[simp] theorem len_tu : bclD .len [tu f l] = .ok (.int l.length) := by show Rs.ok (PyData.int ((l.map f).length : Nat)) = _; rw [List.length_map]
@[simp] theorem len_li : bclD .len [li f l] = .ok (.int l.length) := by show Rs.ok (PyData.int ((l.map f).length : Nat)) = _; rw [List.length_map]
@[simp] theorem lenS_tu : lenS (tu f l) = .ok (.int l.length) := by show Rs.ok (PyData.int ((l.map f).length : Nat)) = _; rw [List.length_map]
@[simp] theorem lenS_li : lenS (li f l) = .ok (.int l.length) := by show Rs.ok (PyData.int ((l.map f).length : Nat)) = _; rw [List.length_map]
@[simp] theorem its_tu : itsD (tu f l) = .ok (l.map f) := id rfl
@[simp] theorem its_li : itsD (li f l) = .ok (l.map f) := id rfl
@[simp] theorem isi_tu (t : String) : isiD t (tu f l) = .ok (t == "tuple") := id rfl
@[simp] theorem isi_li (t : String) : isiD t (li f l) = .ok (t == "list") := id rfl
@[simp] theorem isi_tuple (t : String) (xs : List D) : isiD t (.tuple xs) = .ok (t == "tuple") := id rfl
@[simp] theorem isi_list (t : String) (xs : List D) : isiD t (.list xs) = .ok (t == "list") := id rfl
@[simp] theorem isi_int (t : String) (i : Int) : isiD t (.int i) = .ok (t == "int") := id rfl
@[simp] theorem isi_str (t : String) (i : Str) : isiD t (.str i) = .ok (t == "str") := id rfl
@[simp] theorem isi_none (t : String) : isiD t .none = .ok false := id rfl
@[simp] theorem isi_bool (t : String) (i : Bool) : isiD t (.bool i) = .ok (t == "bool" || t == "int") := id rfl
@[simp] theorem tuple_li : bclD .tuple [li f l] = .ok (tu f l) := id rfl
@[simp] theorem tuple_tu : bclD .tuple [tu f l] = .ok (tu f l) := id rfl
@[simp] theorem list_li : bclD .list [li f l] = .ok (li f l) := id rfl
@[simp] theorem list_tu : bclD .list [tu f l] = .ok (li f l) := id rfl
@[simp] theorem rev_tu : revD (tu f l) = .ok (tu f l.reverse) := by show Rs.ok (PyData.tuple (l.map f).reverse) = _; rw [← List.map_reverse]; rfl
@[simp] theorem rev_li : revD (li f l) = .ok (li f l.reverse) := by show Rs.ok (PyData.list (l.map f).reverse) = _; rw [← List.map_reverse]; rfl
theorem few_of {n : Nat} (h : n < 1000000) : few n = true := few_iff.mpr h
theorem add_tu (h : l.length + m.length < 1000000) : binD .Add (tu f l) (tu f m) = .ok (tu f (l ++ m)) := by
  show grd (few ((l.map f).length + (m.map f).length)) (Rs.ok (PyData.tuple (l.map f ++ m.map f))) = _
  rw [List.length_map, List.length_map, few_of h, ← List.map_append]; rfl
theorem add_li (h : l.length + m.length < 1000000) : binD .Add (li f l) (li f m) = .ok (li f (l ++ m)) := by
  show grd (few ((l.map f).length + (m.map f).length)) (Rs.ok (PyData.list (l.map f ++ m.map f))) = _
  rw [List.length_map, List.length_map, few_of h, ← List.map_append]; rfl
theorem cutD_map (lo hi : Option Int) : cutD (l.map f) lo hi = (cutD l lo hi).map f := by
  unfold cutD
  rw [List.length_map, List.map_take, List.map_drop]
@[simp] theorem sli_tu (lo hi : Option Int) : sliD (tu f l) lo hi = .ok (tu f (cutD l lo hi)) := by
  show Rs.ok (PyData.tuple (cutD (l.map f) lo hi)) = _
  rw [cutD_map]; rfl
@[simp] theorem sli_li (lo hi : Option Int) : sliD (li f l) lo hi = .ok (li f (cutD l lo hi)) := by
  show Rs.ok (PyData.list (cutD (l.map f) lo hi)) = _
  rw [cutD_map]; rfl
theorem cut_to {k : Int} (h : 0 ≤ k) : cutD l none (some k) = l.take k.toNat := by
  unfold cutD HT.sIx
  dsimp only
  rw [if_neg (by omega)]
  simp only [List.drop_zero, Nat.sub_zero]
  by_cases q : k.toNat ≤ l.length
  · rw [Nat.min_eq_left q]
  · rw [Nat.min_eq_right (by omega), List.take_length, List.take_of_length_le (by omega)]
theorem cut_from {k : Int} (h : 0 ≤ k) : cutD l (some k) none = l.drop k.toNat := by
  unfold cutD HT.sIx
  dsimp only
  rw [if_neg (by omega)]
  by_cases q : k.toNat ≤ l.length
  · rw [Nat.min_eq_left q, List.take_of_length_le (by rw [List.length_drop]; omega)]
  · rw [Nat.min_eq_right (by omega), List.drop_length, List.drop_of_length_le (by omega), List.take_nil]
theorem cut_most {k : Nat} (h : 0 < k) : cutD l none (some (-(k : Int))) = l.take (l.length - k) := by
  unfold cutD HT.sIx
  dsimp only
  rw [if_pos (by omega)]
  simp only [List.drop_zero, Nat.sub_zero]
  congr 1
  omega
@[simp] theorem sum_ints (l : List Int) : bclD .sum [li .int l] = .ok (.int l.sum) := by
  show (intsD (l.map PyData.int)).map (fun ns => PyData.int ns.sum) = _
  have : intsD (l.map PyData.int) = .ok l := by
    induction l with
    | nil => rfl
    | cons a l ih => show (intsD (l.map PyData.int)).map (a :: ·) = _; rw [ih]; rfl
  rw [this]; rfl
@[simp] theorem sum_rowI (l : List Int) : bclD .sum [row l] = .ok (.int l.sum) := sum_ints l
theorem bools_li (l : List Bool) : boolsD (l.map PyData.bool) = .ok l := by
  induction l with
  | nil => rfl
  | cons a l ih => show (boolsD (l.map PyData.bool)).map (a :: ·) = _; rw [ih]; rfl
@[simp] theorem all_bools (l : List Bool) : bclD .all [li .bool l] = .ok (.bool (l.all id)) := by
  show (boolsD (l.map PyData.bool)).map (fun bs => PyData.bool (bs.all id)) = _
  rw [bools_li]; rfl
@[simp high] theorem all_mapped {α : Type} (g : α → Bool) (l : List α) : bclD .all [li .bool (l.map g)] = .ok (.bool (l.all g)) := by
  rw [all_bools, List.all_map]; rfl
@[simp high] theorem any_mapped {α : Type} (g : α → Bool) (l : List α) : bclD .any [li .bool (l.map g)] = .ok (.bool (l.any g)) := by
  show (boolsD ((l.map g).map PyData.bool)).map (fun bs => PyData.bool (bs.any id)) = _
  rw [bools_li]
  show Rs.ok (PyData.bool ((l.map g).any id)) = _
  rw [List.any_map]; rfl
@[simp] theorem any_bools (l : List Bool) : bclD .any [li .bool l] = .ok (.bool (l.any id)) := by
  show (boolsD (l.map PyData.bool)).map (fun bs => PyData.bool (bs.any id)) = _
  rw [bools_li]; rfl
end
theorem max_ii (i j : Int) : bclD .max [.int i, .int j] = .ok (.int (max i j)) := by
  rw [max_int]; congr 2; omega
theorem min_ii (i j : Int) : bclD .min [.int i, .int j] = .ok (.int (min i j)) := by
  rw [min_int]; congr 2; omega
theorem abs_i (i : Int) : bclD .abs [.int i] = .ok (.int (i.natAbs : Int)) := by
  rw [abs_int]; congr 2; omega
/-! ### ranges -/
/-- the whole numbers from lo on -/
def upI (lo : Int) (n : Nat) : List Int := (List.range n).map fun k => lo + (k : Nat)
theorem rngD_eq (lo hi : Int) : rngD lo hi = (upI lo (hi - lo).toNat).map PyData.int := by
  unfold rngD upI
  rw [List.map_map]; rfl
def downI (lo : Int) (n : Nat) : List Int := (List.range n).map fun k => lo - (k : Nat)
theorem rngC_eq (lo : Int) (n : Nat) : rngC lo (-1) n = (downI lo n).map PyData.int := by
  unfold rngC downI
  rw [List.map_map]
  apply List.map_congr_left
  intro k _
  simp only [Function.comp]
  congr 1
  omega
theorem mem_upI {lo : Int} {n : Nat} {x : Int} : x ∈ upI lo n ↔ lo ≤ x ∧ x < lo + n := by
  unfold upI
  rw [List.mem_map]
  constructor
  · rintro ⟨k, hk, rfl⟩
    have := List.mem_range.mp hk
    omega
  · intro ⟨h1, h2⟩
    exact ⟨(x - lo).toNat, List.mem_range.mpr (by omega), by omega⟩
@[simp] theorem len_upI (lo : Int) (n : Nat) : (upI lo n).length = n := by simp [upI]
@[simp] theorem len_downI (lo : Int) (n : Nat) : (downI lo n).length = n := by simp [downI]
theorem mem_downI {lo : Int} {n : Nat} {x : Int} : x ∈ downI lo n ↔ lo - n < x ∧ x ≤ lo := by
  unfold downI
  rw [List.mem_map]
  constructor
  · rintro ⟨k, hk, rfl⟩
    have := List.mem_range.mp hk
    omega
  · intro ⟨h1, h2⟩
    exact ⟨(lo - x).toNat, List.mem_range.mpr (by omega), by omega⟩
theorem it_rng1 {j : Int} (h1 : -1000000 < j) (h2 : j < 1000000) : itD .rng [.int j] = .ok ((upI 0 j.toNat).map PyData.int) := by
  show grd (inRng j && few j.toNat) (Rs.ok (rngD 0 j)) = _
  have : inRng j = true := inRng_iff.mpr (by omega)
  rw [this, few_of (by omega), rngD_eq]
  show Rs.ok _ = _
  rw [show (j - 0).toNat = j.toNat by omega]
theorem it_rng2 {i j : Int} (h0 : -1000000 < i) (h3 : i < 1000000) (h1 : -1000000 < j) (h2 : j < 1000000) (h4 : j - i < 1000000) : itD .rng [.int i, .int j] = .ok ((upI i (j - i).toNat).map PyData.int) := by
  show grd (inRng i && inRng j && few (j - i).toNat) (Rs.ok (rngD i j)) = _
  have : inRng j = true := inRng_iff.mpr (by omega)
  have q : inRng i = true := inRng_iff.mpr (by omega)
  rw [this, q, few_of (by omega), rngD_eq]
  rfl
theorem it_rng3 {i j : Int} (h0 : -1000000 < i) (h3 : i < 1000000) (h1 : -1000000 < j) (h2 : j < 1000000) (h4 : i - j < 1000000) : itD .rng [.int i, .int j, .int (-1)] = .ok ((downI i (i - j).toNat).map PyData.int) := by
  show (if (-1 : Int) = -1 then grd (inRng i && inRng j && few (i - j).toNat) (Rs.ok (rngC i (-1) (i - j).toNat)) else grd (rg3 i j (-1)) (.ok (rngC i (-1) (Builtin.Range.rangeSize i j (-1)).toNat))) = _
  rw [if_pos rfl]
  have : inRng j = true := inRng_iff.mpr (by omega)
  have q : inRng i = true := inRng_iff.mpr (by omega)
  rw [this, q, few_of (by omega), rngC_eq]
  rfl
theorem lrg1 {j : Int} (h1 : -1000000 < j) (h2 : j < 1000000) : rngL false [.int j] = .ok (li .int (upI 0 j.toNat)) := by
  unfold rngL
  rw [it_rng1 h1 h2]; rfl
theorem lrg1t {j : Int} (h1 : -1000000 < j) (h2 : j < 1000000) : rngL true [.int j] = .ok (row (upI 0 j.toNat)) := by
  unfold rngL
  rw [it_rng1 h1 h2]; rfl
/-- a range down by steps of any size -/
theorem it_rngN {i c : Int} (h0 : -1 ≤ i) (h3 : i < 900000) (h1 : -1000000 ≤ c) (h2 : c < -1) : itD .rng [.int i, .int (-1), .int c] = .ok (rngC i c (Builtin.Range.rangeSize i (-1) c).toNat) := by
  show (if c = -1 then grd (inRng i && inRng (-1) && few (i - -1).toNat) (.ok (rngC i (-1) (i - -1).toNat)) else grd (rg3 i (-1) c) (.ok (rngC i c (Builtin.Range.rangeSize i (-1) c).toNat))) = _
  rw [if_neg (by omega)]
  have hs : 0 ≤ Builtin.Range.rangeSize i (-1) c ∧ Builtin.Range.rangeSize i (-1) c ≤ i + 1 := by
    unfold Builtin.Range.rangeSize
    rw [if_neg (by omega)]
    split
    · have h4 : 0 ≤ (i - -1 - 1) / -c := Int.ediv_nonneg (by omega) (by omega)
      have h5 : (i - -1 - 1) / -c ≤ i - -1 - 1 := Int.ediv_le_self _ (by omega)
      generalize (i - -1 - 1) / -c = q at h4 h5 ⊢
      omega
    · omega
  have hg : rg3 i (-1) c = true := by
    have fit : ∀ z : Int, -10000000 ≤ z → z ≤ 10000000 → Builtin.Range.rangeFitsLong z = true := by
      intro z z1 z2
      unfold Builtin.Range.rangeFitsLong
      simp
      omega
    unfold rg3
    rw [Bool.and_eq_true, Bool.and_eq_true, Bool.and_eq_true, Bool.not_eq_true', decide_eq_false_iff_not, Nat.ble_eq]
    refine ⟨by omega, by omega, ?_, ?_⟩
    · unfold Builtin.Range.small
      rw [fit i (by omega) (by omega), fit (-1) (by omega) (by omega), fit c (by omega) (by omega), fit _ (by omega) (by omega), if_neg (by omega), fit _ (by omega) (by omega)]
      simp
    · cases z : Builtin.Range.rangeSize i (-1) c with
      | ofNat n => rw [z] at hs; exact few_of (by have := hs.2; rw [show Int.ofNat n = (n : Int) from rfl] at this; omega)
      | negSucc n => rw [z] at hs; have := hs.1; rw [Int.negSucc_eq] at this; omega
  rw [hg]; rfl
@[simp] theorem it_seq (d : D) : itD .seq [d] = itsD d := id rfl
theorem enumD_map {α : Type} (f : α → D) : ∀ (l : List α) (n : Nat), enumD n (l.map f) = ((upI n l.length).zip l).map (pr .int f)
  | [], n => rfl
  | a :: l, n => by
    have e : upI n (a :: l).length = (n : Int) :: upI ((n + 1 : Nat) : Int) l.length := by
      unfold upI
      rw [List.length_cons, List.range_succ_eq_map, List.map_cons, List.map_map]
      have e1 : (n : Int) + ((0 : Nat) : Int) = n := by omega
      rw [e1]
      congr 1
      apply List.map_congr_left
      intro k _
      simp only [Function.comp]
      omega
    rw [e]
    show _ :: enumD (n + 1) (l.map f) = _
    rw [enumD_map f l (n + 1)]
    rfl
@[simp] theorem it_enum_tu {α : Type} (f : α → D) (l : List α) : itD .enum [tu f l] = .ok (((upI 0 l.length).zip l).map (pr .int f)) := by
  show (itsD (tu f l)).map (enumD 0) = _
  rw [its_tu]; show Rs.ok (enumD 0 (l.map f)) = _
  rw [enumD_map]; rfl
@[simp] theorem it_enum_li {α : Type} (f : α → D) (l : List α) : itD .enum [li f l] = .ok (((upI 0 l.length).zip l).map (pr .int f)) := by
  show (itsD (li f l)).map (enumD 0) = _
  rw [its_li]; show Rs.ok (enumD 0 (l.map f)) = _
  rw [enumD_map]; rfl
theorem zip2_map {α β : Type} (f : α → D) (g : β → D) : ∀ (l : List α) (m : List β), zip2 (l.map f) (m.map g) = (l.zip m).map (pr f g)
  | [], _ => by simp [zip2]
  | _ :: _, [] => by simp [zip2]
  | a :: l, b :: m => by
    show _ :: zip2 (l.map f) (m.map g) = _
    rw [zip2_map f g l m]; rfl
theorem it_zip {α β : Type} {f : α → D} {g : β → D} {l : List α} {m : List β} {x y : D} (h1 : itsD x = .ok (l.map f)) (h2 : itsD y = .ok (m.map g)) : itD .zip [x, y] = .ok ((l.zip m).map (pr f g)) := by
  show (itsD x).bind (fun xs => (itsD y).map fun ys => zip2 xs ys) = _
  rw [h1, h2]
  show Rs.ok (zip2 (l.map f) (m.map g)) = _
  rw [zip2_map]
@[simp] theorem it_zip_tt {α β : Type} (f : α → D) (g : β → D) (l : List α) (m : List β) : itD .zip [tu f l, tu g m] = .ok ((l.zip m).map (pr f g)) := it_zip rfl rfl
@[simp] theorem it_zip_ll {α β : Type} (f : α → D) (g : β → D) (l : List α) (m : List β) : itD .zip [li f l, li g m] = .ok ((l.zip m).map (pr f g)) := it_zip rfl rfl
@[simp] theorem it_zip_lt {α β : Type} (f : α → D) (g : β → D) (l : List α) (m : List β) : itD .zip [li f l, tu g m] = .ok ((l.zip m).map (pr f g)) := it_zip rfl rfl
@[simp] theorem it_zip_tl {α β : Type} (f : α → D) (g : β → D) (l : List α) (m : List β) : itD .zip [tu f l, li g m] = .ok ((l.zip m).map (pr f g)) := it_zip rfl rfl
/-! ### comprehensions -/
theorem gather_ok {α : Type} {F : D → Rs (Option D)} {h : α → D} (g : α → Option D) : ∀ {l : List α}, (∀ a ∈ l, F (h a) = .ok (g a)) → gather F (l.map h) = .ok (l.filterMap g)
  | [], _ => rfl
  | a :: l, H => by
    rw [List.map_cons, gather_cons, H a List.mem_cons_self, gather_ok g fun b hb => H b (List.mem_cons_of_mem _ hb), List.filterMap_cons]
    cases g a <;> rfl
/-- no test: each turn gives a value -/
theorem gather_map {α β : Type} {F : D → Rs (Option D)} {h : α → D} (f : β → D) (g : α → β) {l : List α} (H : ∀ a ∈ l, F (h a) = .ok (some (f (g a)))) : gather F (l.map h) = .ok ((l.map g).map f) := by
  rw [gather_ok (fun a => some (f (g a))) H]
  congr 1
  rw [List.map_map]
  induction l with
  | nil => rfl
  | cons a l ih => rw [List.filterMap_cons, List.map_cons, ih fun b hb => H b (List.mem_cons_of_mem _ hb)]; rfl
/-- with a test -/
theorem gather_filter {α β : Type} {F : D → Rs (Option D)} {h : α → D} (f : β → D) (g : α → β) (p : α → Bool) {l : List α} (H : ∀ a ∈ l, F (h a) = .ok (if p a = true then some (f (g a)) else none)) : gather F (l.map h) = .ok (((l.filter p).map g).map f) := by
  rw [gather_ok (fun a => if p a = true then some (f (g a)) else none) H]
  congr 1
  rw [List.map_map]
  induction l with
  | nil => rfl
  | cons a l ih =>
    rw [List.filterMap_cons, List.filter_cons, ih fun b hb => H b (List.mem_cons_of_mem _ hb)]
    by_cases q : p a = true
    · rw [if_pos q, if_pos q]; rfl
    · rw [if_neg q, if_neg q]
/-- a comprehension's value -/
theorem cmpr_li {α β : Type} {its : List D} {F : D → Rs (Option D)} {h : α → D} (f : β → D) (g : α → β) {l : List α} (e : its = l.map h) (hl : l.length < 1000000) (H : ∀ a ∈ l, F (h a) = .ok (some (f (g a)))) : cmpR F its = .ok (li f (l.map g)) := by
  unfold cmpR
  rw [e, List.length_map, few_of hl, gather_map f g H]; rfl
theorem cmpr_fl {α β : Type} {its : List D} {F : D → Rs (Option D)} {h : α → D} (f : β → D) (g : α → β) (p : α → Bool) {l : List α} (e : its = l.map h) (hl : l.length < 1000000) (H : ∀ a ∈ l, F (h a) = .ok (if p a = true then some (f (g a)) else none)) : cmpR F its = .ok (li f ((l.filter p).map g)) := by
  unfold cmpR
  rw [e, List.length_map, few_of hl, gather_filter f g p H]; rfl
/-- a comprehension of two clauses -/
theorem gath2_ok {α β : Type} {F : D → Rs (List D)} {h : α → D} (f : β → D) (g : α → List β) : ∀ {l : List α}, (∀ a ∈ l, F (h a) = .ok ((g a).map f)) → gath2 F (l.map h) = .ok ((l.flatMap g).map f)
  | [], _ => rfl
  | a :: l, H => by
    rw [List.map_cons, gath2_cons, H a List.mem_cons_self, gath2_ok f g fun b hb => H b (List.mem_cons_of_mem _ hb), List.flatMap_cons, List.map_append]; rfl
theorem cm2_li {α β : Type} {its : List D} {F : D → Rs (List D)} {h : α → D} (f : β → D) (g : α → List β) {l : List α} (e : its = l.map h) (hl : (l.flatMap g).length < 1000000) (H : ∀ a ∈ l, F (h a) = .ok ((g a).map f)) : cm2R F its = .ok (li f (l.flatMap g)) := by
  unfold cm2R
  rw [e, gath2_ok f g H]
  show grd (few ((l.flatMap g).map f).length) _ = _
  rw [List.length_map, few_of hl]; rfl
/-! ### loops -/
/-- a for that goes through all its turns: what holds of the slots -/
theorem for_ok {α β : Type} {step : D → Env → Rs Fl} {h : α → D} (R : β → Env → Prop) (nx : β → α → β) : ∀ {l : List α} {b : β} {ρ : Env}, R b ρ → (∀ b a ρ, a ∈ l → R b ρ → ∃ ρ', step (h a) ρ = .ok (.nx ρ') ∧ R (nx b a) ρ') → ∃ ρ', forD step (l.map h) ρ = .ok (.nx ρ') ∧ R (l.foldl nx b) ρ'
  | [], b, ρ, r, _ => ⟨ρ, rfl, r⟩
  | a :: l, b, ρ, r, H => by
    obtain ⟨ρ1, e1, r1⟩ := H b a ρ List.mem_cons_self r
    obtain ⟨ρ2, e2, r2⟩ := for_ok R nx (l := l) r1 fun b a ρ ha => H b a ρ (List.mem_cons_of_mem _ ha)
    refine ⟨ρ2, ?_, r2⟩
    rw [List.map_cons]
    show ((step (h a) ρ).bind _) = _
    rw [e1]
    exact e2
theorem for_bind {α β γ : Type} {step : D → Env → Rs Fl} {h : α → D} {l : List α} {ρ : Env} {k : Fl → Rs γ} {r : Rs γ} (R : β → Env → Prop) (nx : β → α → β) (b : β) (r0 : R b ρ) (H : ∀ b a ρ, a ∈ l → R b ρ → ∃ ρ', step (h a) ρ = .ok (.nx ρ') ∧ R (nx b a) ρ') (K : ∀ ρ', R (l.foldl nx b) ρ' → k (.nx ρ') = r) : (forD step (l.map h) ρ).bind k = r := by
  obtain ⟨ρ', e, r'⟩ := for_ok R nx r0 H
  rw [e]
  exact K ρ' r'
/-! ### products, quotients, rests -/
theorem mulL {i j : Int} (h1 : -18446744073709551616 < i) (h2 : i < 18446744073709551616) : binD .Mult (.int i) (.int j) = .ok (.int (i * j)) := by
  show grd (smI i || smI j) (Rs.ok (PyData.int (i * j))) = _
  rw [smI_iff.mpr ⟨h1, h2⟩]; rfl
theorem mulR {i j : Int} (h1 : -18446744073709551616 < j) (h2 : j < 18446744073709551616) : binD .Mult (.int i) (.int j) = .ok (.int (i * j)) := by
  show grd (smI i || smI j) (Rs.ok (PyData.int (i * j))) = _
  rw [smI_iff.mpr ⟨h1, h2⟩, Bool.or_true]; rfl
theorem divOk {i j : Int} (h1 : 0 < j) (h2 : j < 18446744073709551616) : binD .FloorDiv (.int i) (.int j) = .ok (.int (i / j)) := by
  show grd (posI j && smI j) (Rs.ok (PyData.int (i / j))) = _
  rw [posI_iff.mpr h1, smI_iff.mpr ⟨by omega, h2⟩]; rfl
theorem modOk {i j : Int} (h1 : 0 < j) : binD .Mod (.int i) (.int j) = .ok (.int (i % j)) := by
  show grd (posI j) (Rs.ok (PyData.int (i % j))) = _
  rw [posI_iff.mpr h1]; rfl
theorem pow18 : binD .Pow (.int 10) (.int 18) = .ok (.int 1000000000000000000) := rfl
@[simp] theorem eq_nilL {α : Type} [DecidableEq α] (f : α → D) (l : List α) (n : Nat) (h : Enc n f) (hn : n + 1 ≤ 64) : cmpB .Eq (li f l) (.list []) = .ok (decide (l = [])) := eq_enc h.li hn l []
@[simp] theorem ne_nilI (l : List Int) : cmpB .NotEq (li .int l) (.list []) = .ok (!decide (l = [])) := ne_enc enc_int.li (by decide) l []
@[simp] theorem eq_nilI (l : List Int) : cmpB .Eq (li .int l) (.list []) = .ok (decide (l = [])) := eq_enc enc_int.li (by decide) l []
theorem add_tuple (a b : List D) (h : a.length + b.length < 1000000) : binD .Add (.tuple a) (.tuple b) = .ok (.tuple (a ++ b)) := by
  show grd (few (a.length + b.length)) (Rs.ok (PyData.tuple (a ++ b))) = _
  rw [few_of h]; rfl
theorem add_list (a b : List D) (h : a.length + b.length < 1000000) : binD .Add (.list a) (.list b) = .ok (.list (a ++ b)) := by
  show grd (few (a.length + b.length)) (Rs.ok (PyData.list (a ++ b))) = _
  rw [few_of h]; rfl
/-- an owned list grows -/
@[simp] theorem appD_eq (r : Env → Rs D) (i : Nat) (ρ : Env) : appD r i ρ = (match ρ[i]? with | some (.ow ds) => (r ρ).bind fun d => grd (few (ds.length + 1)) (.ok (.nx (ρ.set i (.ow (ds ++ [d]))))) | _ => .no) := id rfl
theorem grdFew {α : Type} {n : Nat} {x : Rs α} (h : n < 1000000) : grd (few n) x = x := by rw [few_of h]; rfl
/-- a for, told by what it has gone through -/
theorem for_pre {α : Type} {step : D → Env → Rs Fl} {h : α → D} (R : List α → Env → Prop) : ∀ {l pre : List α} {ρ : Env}, R pre ρ → (∀ p a q ρ, pre ++ l = p ++ a :: q → R p ρ → ∃ ρ', step (h a) ρ = .ok (.nx ρ') ∧ R (p ++ [a]) ρ') → ∃ ρ', forD step (l.map h) ρ = .ok (.nx ρ') ∧ R (pre ++ l) ρ'
  | [], pre, ρ, r, _ => ⟨ρ, rfl, by rw [List.append_nil]; exact r⟩
  | a :: l, pre, ρ, r, H => by
    obtain ⟨ρ1, e1, r1⟩ := H pre a l ρ rfl r
    obtain ⟨ρ2, e2, r2⟩ := for_pre R (l := l) r1 fun p b q ρ e => H p b q ρ (by rw [← e, List.append_assoc]; rfl)
    refine ⟨ρ2, ?_, by rw [List.append_assoc] at r2; exact r2⟩
    rw [List.map_cons]
    show ((step (h a) ρ).bind _) = _
    rw [e1]
    exact e2
theorem for_preB {α γ : Type} {step : D → Env → Rs Fl} {h : α → D} {l : List α} {ρ : Env} {k : Fl → Rs γ} {r : Rs γ} (R : List α → Env → Prop) (r0 : R [] ρ) (H : ∀ p a q ρ, l = p ++ a :: q → R p ρ → ∃ ρ', step (h a) ρ = .ok (.nx ρ') ∧ R (p ++ [a]) ρ') (K : ∀ ρ', R l ρ' → k (.nx ρ') = r) : (forD step (l.map h) ρ).bind k = r := by
  obtain ⟨ρ', e, r'⟩ := for_pre R (pre := []) r0 fun p a q ρ e => H p a q ρ e
  rw [e]
  exact K ρ' r'
theorem pre_len {α : Type} {l p q : List α} {a : α} (e : l = p ++ a :: q) : p.length < l.length ∧ a ∈ l := by
  subst e
  simp
theorem mulT {xs : List D} {n : Int} (h1 : -1000 ≤ n) (h2 : n ≤ 1000) (h3 : 1 ≤ xs.length) (h4 : xs.length ≤ 1000) : binD .Mult (.tuple xs) (.int n) = .ok (.tuple (rep xs n)) := by
  show grd (tmI n && (Nat.ble 1 xs.length && Nat.ble xs.length 1000)) (Rs.ok (PyData.tuple (rep xs n))) = _
  have e1 : tmI n = true := tmI_iff.mpr (by omega)
  have e2 : Nat.ble 1 xs.length = true := by rw [Nat.ble_eq]; exact h3
  have e3 : Nat.ble xs.length 1000 = true := by rw [Nat.ble_eq]; exact h4
  rw [e1, e2, e3]; rfl
theorem mulLst {xs : List D} {n : Int} (h1 : -1000 ≤ n) (h2 : n ≤ 1000) (h4 : xs.length ≤ 1000) : binD .Mult (.list xs) (.int n) = .ok (.list (rep xs n)) := by
  show grd (tmI n && Nat.ble xs.length 1000) (Rs.ok (PyData.list (rep xs n))) = _
  have e1 : tmI n = true := tmI_iff.mpr (by omega)
  have e3 : Nat.ble xs.length 1000 = true := by rw [Nat.ble_eq]; exact h4
  rw [e1, e3]; rfl
theorem mulS {x : Str} {n : Int} (h1 : -1000 ≤ n) (h2 : n ≤ 1000) (h3 : 1 ≤ x.length) (h4 : x.length ≤ 1000) : binD .Mult (.str x) (.int n) = .ok (.str (repS x n)) := by
  show grd (tmI n && (Nat.ble 1 x.length && Nat.ble x.length 1000)) (Rs.ok (PyData.str (repS x n))) = _
  have e1 : tmI n = true := tmI_iff.mpr (by omega)
  have e2 : Nat.ble 1 x.length = true := by rw [Nat.ble_eq]; exact h3
  have e3 : Nat.ble x.length 1000 = true := by rw [Nat.ble_eq]; exact h4
  rw [e1, e2, e3]; rfl
theorem rep_one {α : Type} (x : α) (n : Int) : rep [x] n = List.replicate n.toNat x := by
  unfold rep
  induction n.toNat with
  | zero => rfl
  | succ m ih => rw [List.replicate_succ, List.flatten_cons, ih, List.replicate_succ]; rfl
/-- one thing so many times -/
theorem mul1 {x : D} {n : Int} (h1 : -1000 ≤ n) (h2 : n ≤ 1000) : binD .Mult (.tuple [x]) (.int n) = .ok (.tuple (List.replicate n.toNat x)) := by
  rw [mulT (xs := [x]) h1 h2 (Nat.le_refl 1) (show 1 ≤ 1000 by omega), rep_one]
@[simp] theorem eq_nils : cmpB .Eq (.list []) (.list []) = .ok true := eq_nilI []
@[simp] theorem ne_nils : cmpB .NotEq (.list []) (.list []) = .ok false := ne_nilI []
/-- nothing passes a test -/
theorem cmpr_none {F : D → Rs (Option D)} : ∀ {l : List D}, l.length < 1000000 → (∀ d ∈ l, F d = .ok none) → cmpR F l = .ok (.list []) := fun {l} hl H => by
  unfold cmpR
  rw [few_of hl]
  have : ∀ l : List D, (∀ d ∈ l, F d = .ok none) → gather F l = .ok [] := by
    intro l
    induction l with
    | nil => intro _; rfl
    | cons d l ih => intro H; rw [gather_cons, H d List.mem_cons_self, ih fun z hz => H z (List.mem_cons_of_mem _ hz)]; rfl
  rw [this l H]; rfl
theorem lay_rep {d : D} (h : d.canLay0 = true) : ∀ n : Nat, PyData.canLayAll0 (List.replicate n d) = true
  | 0 => rfl
  | n + 1 => by rw [List.replicate_succ]; simp [PyData.canLayAll0, h, lay_rep h n]
theorem layT {xs : List D} (h : PyData.canLayAll0 xs = true) : (PyData.tuple xs).canLay0 = true := by simpa [PyData.canLay0] using h
theorem layL {xs : List D} (h : PyData.canLayAll0 xs = true) : (PyData.list xs).canLay0 = true := by simpa [PyData.canLay0] using h
theorem lay_app {a b : List D} (h1 : PyData.canLayAll0 a = true) (h2 : PyData.canLayAll0 b = true) : PyData.canLayAll0 (a ++ b) = true := by
  induction a with
  | nil => exact h2
  | cons d a ih =>
    simp only [PyData.canLayAll0, Bool.and_eq_true] at h1
    simp only [List.cons_append, PyData.canLayAll0, Bool.and_eq_true]
    exact ⟨h1.1, ih h1.2⟩
theorem getI_up {n : Nat} {i : Int} (h1 : 0 ≤ i) (h2 : i < n) : getI (upI 0 n) i = i := by
  rw [getI_pos _ h1, List.getD_eq_getElem?_getD]
  unfold upI
  rw [List.getElem?_map, List.getElem?_range (by omega)]
  simp; omega
end Rf
set_option Elab.async false
set_option linter.all false
set_option autoImplicit false
set_option maxHeartbeats 1000000
set_option maxRecDepth 100000
namespace Rf
open PySem L2
/-! ### numbers, rows, pictures -/
def isNum : D → Int → Int → Bool
  | .int i, a, b => decide (a ≤ i) && decide (i ≤ b)
  | _, _, _ => false
abbrev Sp_is_number (m : List D → Rs D) : Prop := ∀ d a b, d.canLay0 = true → m [d, .int a, .int b] = .ok (.bool (isNum d a b))
theorem ok_is_number {T : Tb} : Sp_is_number (runD T 3 3 B_is_number) := by
  intro d a b hd
  cases d <;> first | (simp [PyData.canLay0] at hd; done) | simp [runD, B_is_number, isiD, isNum]
  rename_i i
  by_cases h : a ≤ i <;> simp [h]
def isRow : D → Int → Bool
  | .tuple xs, w => decide ((xs.length : Int) = w) && xs.all fun d => isNum d 0 99
  | _, _ => false
theorem lay_mem {d : D} : ∀ {xs : List D}, PyData.canLayAll0 xs = true → d ∈ xs → d.canLay0 = true
  | x :: xs, h, hm => by
    simp only [PyData.canLayAll0, Bool.and_eq_true] at h
    rcases List.mem_cons.mp hm with e | hm
    · rw [e]; exact h.1
    · exact lay_mem h.2 hm
theorem map_id' (xs : List D) : xs = xs.map fun d => d := (List.map_id' xs).symm
@[simp] theorem itsT (xs : List D) : itsD (.tuple xs) = .ok xs := id rfl
@[simp] theorem itsL (xs : List D) : itsD (.list xs) = .ok xs := id rfl
abbrev Sp_is_row (m : List D → Rs D) : Prop := ∀ d w, d.canLay0 = true → w < 1000000 → m [d, .int w] = .ok (.bool (isRow d w))
theorem ok_is_row {T : Tb} {fN gM : Nat} (hN : Sp_is_number (T.fn fN)) (hM : T.gl gM = .ok (.int 99)) : Sp_is_row (runD T 2 3 (B_is_row fN gM)) := by
  intro d w hd hw
  cases d <;> first | (simp [PyData.canLay0] at hd; done) | simp [runD, B_is_row, isiD, isRow]
  rename_i xs
  simp only [PyData.canLay0] at hd
  by_cases h : (xs.length : Int) = w
  · rw [cmpr_li .bool (fun d => isNum d 0 99) (map_id' xs) (by omega) fun a ha => by simp [turnD, hM, hN _ _ _ (lay_mem hd ha)]]
    simp [h, List.all_map, Function.comp_def]
  · simp [h]
def isPic : D → Bool
  | .tuple (.tuple r :: rs) => decide (1 ≤ (((PyData.tuple r :: rs).length : Int)) ∧ ((PyData.tuple r :: rs).length : Int) ≤ 20) && (decide (1 ≤ (r.length : Int) ∧ (r.length : Int) ≤ 20) && (PyData.tuple r :: rs).all fun d => isRow d r.length)
  | _ => false
abbrev Sp_is_picture (m : List D → Rs D) : Prop := ∀ d, d.canLay0 = true → m [d] = .ok (.bool (isPic d))
theorem ok_is_picture {T : Tb} {fR gM : Nat} (hR : Sp_is_row (T.fn fR)) (hM : T.gl gM = .ok (.int 20)) : Sp_is_picture (runD T 1 2 (B_is_picture fR gM)) := by
  intro d hd
  cases d with
  | dict => simp [PyData.canLay0] at hd
  | none => simp [runD, B_is_picture, isPic]
  | bool => simp [runD, B_is_picture, isPic]
  | int => simp [runD, B_is_picture, isPic]
  | str => simp [runD, B_is_picture, isPic]
  | list => simp [runD, B_is_picture, isPic]
  | tuple xs =>
    simp only [PyData.canLay0] at hd
    rcases xs with _ | ⟨x, xs⟩
    · simp [runD, B_is_picture, hM, isPic]
    · by_cases h2 : (xs.length : Int) + 1 ≤ 20
      · have h1 : (1 : Int) ≤ (xs.length : Int) + 1 := by omega
        cases x with
        | dict => simp [PyData.canLay0, PyData.canLayAll0] at hd
        | none => simp [runD, B_is_picture, isPic, hM, h1, h2]
        | bool => simp [runD, B_is_picture, isPic, hM, h1, h2]
        | int => simp [runD, B_is_picture, isPic, hM, h1, h2]
        | str => simp [runD, B_is_picture, isPic, hM, h1, h2]
        | list => simp [runD, B_is_picture, isPic, hM, h1, h2]
        | tuple r =>
          by_cases h3 : (1 : Int) ≤ (r.length : Nat)
          · by_cases h4 : ((r.length : Nat) : Int) ≤ 20
            · simp [runD, B_is_picture, isPic, hM, h1, h2, h3, h4]
              rw [cmpr_li .bool (fun d => isRow d r.length) (map_id' _) (by simp only [List.length_cons]; omega) fun a ha => by simp [turnD, hR _ _ (lay_mem hd ha) (show ((r.length : Nat) : Int) < 1000000 by omega)]]
              simp [List.all_map, Function.comp_def]
            · simp [runD, B_is_picture, isPic, hM, h1, h2, h3, h4]
          · simp [runD, B_is_picture, isPic, hM, h1, h2, h3]
      · simp [runD, B_is_picture, hM, h2]
        cases x <;> simp [isPic, h2]
        done
/-! ### pictures that are such -/
structure Rect (w h : Nat) (p : List (List Int)) : Prop where
  hh : p.length = h
  ww : ∀ r ∈ p, r.length = w
structure Good (w h : Nat) (p : List (List Int)) : Prop extends Rect w h p where
  w1 : 1 ≤ w
  w2 : w ≤ 20
  h1 : 1 ≤ h
  h2 : h ≤ 20
  cl : ∀ r ∈ p, ∀ c ∈ r, 0 ≤ c ∧ c ≤ 99
theorem isRow_row {w : Nat} {r : List Int} (h : r.length = w) (hc : ∀ c ∈ r, 0 ≤ c ∧ c ≤ 99) : isRow (row r) w = true := by
  unfold row tu isRow
  simp only [List.length_map, h, decide_true, Bool.true_and, List.all_map, List.all_eq_true, Function.comp]
  intro c hm
  have := hc c hm
  simp [isNum, this.1, this.2]
theorem isPic_pic {w h : Nat} {p : List (List Int)} (g : Good w h p) : isPic (pic p) = true := by
  have hw := g.w1; have hw2 := g.w2; have hh1 := g.h1; have hh2 := g.h2; have hp := g.hh
  rcases p with _ | ⟨r, rs⟩
  · simp at hp; omega
  · have hr := g.ww r List.mem_cons_self
    show (decide _ && (decide _ && _)) = true
    simp only [List.length_cons, List.length_map] at hp ⊢
    simp only [Bool.and_eq_true, decide_eq_true_eq]
    refine ⟨by omega, by omega, ?_⟩
    have e : (PyData.tuple (r.map PyData.int) :: rs.map row) = (r :: rs).map row := rfl
    rw [e, List.all_map, List.all_eq_true]
    intro x hx
    rw [hr]
    exact isRow_row (g.ww x hx) (g.cl x hx)
theorem lay_row (r : List Int) : (row r).canLay0 = true := enc_row.lay r
theorem lay_pic (p : List (List Int)) : (pic p).canLay0 = true := enc_pic.lay p
abbrev Sp_need_picture (c : Nat) (m : List D → Rs D) : Prop := ∀ d, d.canLay0 = true → m [d] = if isPic d = true then .ok .none else .ex (c, none)
theorem ok_need_picture {T : Tb} {fP cN : Nat} (hP : Sp_is_picture (T.fn fP)) (hc : cN < T.cls.length) : Sp_need_picture cN (runD T 1 1 (B_need_picture fP cN)) := by
  intro d hd
  simp [runD, B_need_picture, hP d hd]
  cases isPic d <;> simp [hc]
theorem need_pic {c : Nat} {m : List D → Rs D} (s : Sp_need_picture c m) {w h : Nat} {p : List (List Int)} (g : Good w h p) : m [pic p] = .ok .none := by
  rw [s _ (lay_pic p), isPic_pic g]; rfl
section
variable {w h : Nat} {p : List (List Int)}
theorem Rect.row (r : Rect w h p) {y : Int} (h1 : 0 ≤ y) (h2 : y < h) : (getI p y).length = w := r.ww _ (getI_mem (by have := r.hh; omega) (by have := r.hh; omega))
theorem Rect.rowN (r : Rect w h p) {y : Int} (h1 : -(h : Int) ≤ y) (h2 : y < h) : (getI p y).length = w := r.ww _ (getI_mem (by have := r.hh; omega) (by have := r.hh; omega))
theorem Good.row0 (g : Good w h p) : (getI p 0).length = w := g.row (by omega) (by have := g.h1; omega)
end
/-! ### sizes, turning -/
abbrev Sp_size_of (m : List D → Rs D) : Prop := ∀ w h p, Good w h p → m [pic p] = .ok (pr .int .int ((w : Int), (h : Int)))
theorem ok_size_of {T : Tb} {fN c : Nat} (hN : Sp_need_picture c (T.fn fN)) : Sp_size_of (runD T 1 1 (B_size_of fN)) := by
  intro w h p g
  have h0 := g.row0
  have h1 := g.hh
  have h2 := g.h1
  simp (disch := omega) [runD, B_size_of, need_pic hN g, idx_tu, h0, h1, pr]
abbrev Sx_size_of (c : Nat) (m : List D → Rs D) : Prop := ∀ d, d.canLay0 = true → isPic d = false → m [d] = .ex (c, none)
theorem ox_size_of {T : Tb} {fN c : Nat} (hN : Sp_need_picture c (T.fn fN)) : Sx_size_of c (runD T 1 1 (B_size_of fN)) := by
  intro d hd hp
  simp [runD, B_size_of, hN d hd, hp]
/-- columns as rows -/
def swapV (p : List (List Int)) : List (List Int) := (upI 0 (getI p 0).length).map fun x => p.map fun r => getI r x
abbrev Sp_swapped (m : List D → Rs D) : Prop := ∀ w h p, Rect w h p → 1 ≤ h → w < 1000000 → h < 1000000 → m [pic p] = .ok (pic (swapV p))
theorem ok_swapped {T : Tb} : Sp_swapped (runD T 1 3 B_swapped) := by
  intro w h p g hh hw2 hh2
  have h0 := g.row (y := 0) (by omega) (by omega)
  have h1 := g.hh
  simp (disch := omega) [runD, B_swapped, idx_tu, h0, it_rng1]
  rw [cmpr_li row (fun x => p.map fun r => getI r x) rfl (by simp; omega)]
  · simp [swapV, h0]
  · intro x hx
    have hx := mem_upI.mp hx
    simp (disch := omega) [turnD]
    rw [cmpr_li .int (fun r => getI r x) rfl (by omega)]
    · simp
    · intro r hr
      have := g.ww r hr
      simp (disch := omega) [turnD, idx_tu]
abbrev Sp_turned (m : List D → Rs D) : Prop := ∀ w h p, Good w h p → m [pic p] = .ok (pic (swapV p))
theorem ok_turned {T : Tb} {fS fN c : Nat} (hS : Sp_swapped (T.fn fS)) (hN : Sp_need_picture c (T.fn fN)) : Sp_turned (runD T 1 1 (B_turned fS fN)) := by
  intro w h p g
  have h2 := g.h2
  have w2 := g.w2
  simp [runD, B_turned, need_pic hN g, hS w h p g.toRect g.h1 (by omega) (by omega)]
abbrev Sp_mirrored (m : List D → Rs D) : Prop := ∀ w h p, Good w h p → m [pic p] = .ok (pic (p.map List.reverse))
theorem ok_mirrored {T : Tb} {fN c : Nat} (hN : Sp_need_picture c (T.fn fN)) : Sp_mirrored (runD T 1 2 (B_mirrored fN)) := by
  intro w h p g
  have h2 := g.h2
  have h1 := g.hh
  simp [runD, B_mirrored, need_pic hN g]
  rw [cmpr_li row List.reverse rfl (by omega)]
  · simp
  · intro r hr
    simp [turnD]
/-! ### worths -/
def nearV (r : List Int) (x : Int) : Int := getI r (max 0 (min ((r.length : Int) - 1) x))
abbrev Sp_near (m : List D → Rs D) : Prop := ∀ r x, 1 ≤ r.length → m [row r, .int x] = .ok (.int (nearV r x))
theorem ok_near {T : Tb} : Sp_near (runD T 2 2 B_near) := by
  intro r x hr
  simp (disch := omega) [runD, B_near, max_ii, min_ii, idx_tu, nearV, -max_int, -min_int]
def cell (p : List (List Int)) (x y : Int) : Int := getI (getI p y) x
def joinV (p : List (List Int)) (x y : Int) : Int := ((nearV (getI p y) (x - 1) - nearV (getI p y) (x + 1)).natAbs : Int)
def worthV (p : List (List Int)) (x y : Int) : Int := joinV p x y + ((cell p x (max 0 (y - 1)) - cell p x (min ((p.length : Int) - 1) (y + 1))).natAbs : Int)
section
variable {w h : Nat} {p : List (List Int)}
abbrev Sp_worth_at (m : List D → Rs D) : Prop := ∀ w h p x y, Rect w h p → 0 ≤ x → x < (w : Int) → 0 ≤ y → y < (h : Int) → m [pic p, .int x, .int y] = .ok (.int (worthV p x y))
theorem ok_worth_at {T : Tb} {fN : Nat} (hN : Sp_near (T.fn fN)) : Sp_worth_at (runD T 3 5 (B_worth_at fN)) := by
  intro w h p x y g h1 h2 h3 h4
  have hh := g.hh
  have a1 := g.row (y := max 0 (y - 1)) (by omega) (by omega)
  have a2 := g.row (y := min ((p.length : Int) - 1) (y + 1)) (by omega) (by omega)
  have a3 := g.row h3 h4
  simp (disch := omega) [runD, B_worth_at, max_ii, min_ii, abs_i, idx_tu, hN, -max_int, -min_int, -abs_int, worthV, joinV, cell]
abbrev Sp_join_at (m : List D → Rs D) : Prop := ∀ w h p x y, Rect w h p → 0 ≤ x → x < (w : Int) → 0 ≤ y → y < (h : Int) → m [pic p, .int x, .int y] = .ok (.int (joinV p x y))
theorem ok_join_at {T : Tb} {fN : Nat} (hN : Sp_near (T.fn fN)) : Sp_join_at (runD T 3 3 (B_join_at fN)) := by
  intro w h p x y g h1 h2 h3 h4
  have hh := g.hh
  have a3 := g.row h3 h4
  simp (disch := omega) [runD, B_join_at, abs_i, idx_tu, hN, -abs_int, joinV]
def worthsV (p : List (List Int)) : List (List Int) := (upI 0 p.length).map fun y => (upI 0 (getI p 0).length).map fun x => worthV p x y
abbrev Sp_worths (m : List D → Rs D) : Prop := ∀ w h p, Good w h p → m [pic p] = .ok (pic (worthsV p))
theorem ok_worths {T : Tb} {fW fN c : Nat} (hW : Sp_worth_at (T.fn fW)) (hN : Sp_need_picture c (T.fn fN)) : Sp_worths (runD T 1 3 (B_worths fW fN)) := by
  intro w h p g
  have hh := g.hh
  have h0 := g.row0
  have h1 := g.h1
  have h2 := g.h2
  have w2 := g.w2
  simp (disch := omega) [runD, B_worths, need_pic hN g, it_rng1]
  rw [cmpr_li row (fun y => (upI 0 w).map fun x => worthV p x y) rfl (by simp; omega)]
  · simp [worthsV, h0]
  · intro y hy
    have hy := mem_upI.mp hy
    simp (disch := omega) [turnD, idx_tu, h0, it_rng1]
    rw [cmpr_li .int (fun x => worthV p x y) rfl (by simp; omega)]
    · simp
    · intro x hx
      have hx := mem_upI.mp hx
      simp [turnD, hW w h p x y g.toRect (by omega) (by omega) (by omega) (by omega)]
/-! ### manners -/
def man (b : Bool) : D := .str (if b = true then Str.ofString "worth" else Str.ofString "joins")
@[simp] theorem eq_man (b : Bool) : cmpB .Eq (man b) (.str (Str.ofString "worth")) = .ok b := by
  show grd (SeqAt.shaped (man b) && SeqAt.shaped (man true)) (Rs.ok (PyData.eqv (man b) (man true))) = _
  have h1 : (SeqAt.shaped (man b) && SeqAt.shaped (man true)) = true := by cases b <;> decide +kernel
  have h2 : PyData.eqv (man b) (man true) = b := by cases b <;> decide +kernel
  rw [h1, h2]; rfl
@[simp] theorem isi_man (b : Bool) (t : String) : isiD t (man b) = .ok (t == "str") := id rfl
theorem man_worth : PyData.str (Str.ofString "worth") = man true := rfl
theorem man_joins : PyData.str (Str.ofString "joins") = man false := rfl
def isMan (d : D) : Bool := PyData.eqv (man true) d || PyData.eqv (man false) d
def mannersD : D := .tuple [man true, man false]
abbrev Sp_need_manner (c : Nat) (m : List D → Rs D) : Prop := ∀ d, SeqAt.shaped d = true → m [d] = if isMan d = true then .ok .none else .ex (c, none)
theorem ok_need_manner {T : Tb} {gM cN : Nat} (hM : T.gl gM = .ok mannersD) (hc : cN < T.cls.length) : Sp_need_manner cN (runD T 1 1 (B_need_manner gM cN)) := by
  intro d hd
  have hs : SeqAt.shaped mannersD = true := by decide +kernel
  have hin : cmpB .NotIn d mannersD = .ok (!isMan d) := by
    show (grd (SeqAt.shaped d && SeqAt.shaped mannersD) (Rs.ok ([man true, man false].any fun z => PyData.eqv z d))).map not = _
    rw [hd, hs]
    show Rs.ok (!(PyData.eqv (man true) d || (PyData.eqv (man false) d || false))) = _
    rw [Bool.or_false]; rfl
  cases d with
  | dict => simp [SeqAt.shaped, PyData.canLay0] at hd
  | none => simp [runD, B_need_manner, hc, isMan, man, PyData.eqv]
  | bool => simp [runD, B_need_manner, hc, isMan, man, PyData.eqv]
  | int => simp [runD, B_need_manner, hc, isMan, man, PyData.eqv]
  | list => simp [runD, B_need_manner, hc, isMan, man, PyData.eqv]
  | tuple => simp [runD, B_need_manner, hc, isMan, man, PyData.eqv]
  | str x =>
    simp [runD, B_need_manner, hM, hin]
    cases isMan (.str x) <;> simp [hc]
theorem need_man {c : Nat} {m : List D → Rs D} (s : Sp_need_manner c m) (b : Bool) : m [man b] = .ok .none := by
  rw [s _ (by cases b <;> decide +kernel)]
  have : isMan (man b) = true := by cases b <;> decide +kernel
  rw [this]; rfl
/-! ### what a step costs -/
def stepV (mn : Bool) (p : List (List Int)) (x y : Int) : Option Int → Int
  | none => if mn = true then worthV p x y else joinV p x y
  | some b => if mn = true then worthV p x y else if b = x then joinV p x y else joinV p x y + ((cell p x (y - 1) - cell p (if b < x then x - 1 else x + 1) y).natAbs : Int)
def bef : Option Int → D := op .int
abbrev Sp_step_cost (m : List D → Rs D) : Prop := ∀ w h p x y (b : Option Int) mn, Rect w h p → 0 ≤ x → x < (w : Int) → 0 ≤ y → y < (h : Int) → (∀ z, b = some z → 1 ≤ y ∧ 0 ≤ z ∧ z < (w : Int)) → m [pic p, .int x, .int y, bef b, man mn] = .ok (.int (stepV mn p x y b))
theorem ok_step_cost {T : Tb} {fJ fW : Nat} (hJ : Sp_join_at (T.fn fJ)) (hW : Sp_worth_at (T.fn fW)) : Sp_step_cost (runD T 5 7 (B_step_cost fJ fW)) := by
  intro w h p x y b mn g h1 h2 h3 h4 hb
  have hh := g.hh
  have a3 := g.row h3 h4
  cases mn with
  | true =>
    simp [runD, B_step_cost, hW w h p x y g h1 h2 h3 h4]
    cases b <;> simp [stepV]
  | false =>
    cases b with
    | none => simp [runD, B_step_cost, hJ w h p x y g h1 h2 h3 h4, bef, op, stepV]
    | some z =>
      obtain ⟨q1, q2, q3⟩ := hb z rfl
      have a4 := g.row (y := y - 1) (by omega) (by omega)
      by_cases e : z = x
      · subst e
        simp [runD, B_step_cost, hJ w h p z y g h1 h2 h3 h4, bef, op, stepV]
      · by_cases e2 : z < x
        · simp (disch := omega) [runD, B_step_cost, hJ w h p x y g h1 h2 h3 h4, bef, op, stepV, e, e2, idx_tu, abs_i, -abs_int, cell]
        · simp (disch := omega) [runD, B_step_cost, hJ w h p x y g h1 h2 h3 h4, bef, op, stepV, e, e2, idx_tu, abs_i, -abs_int, cell]
end
end Rf
set_option Elab.async false
set_option linter.all false
set_option autoImplicit false
set_option maxHeartbeats 1000000
set_option maxRecDepth 100000
namespace Rf
open PySem L2
/-! ### seams -/
/-- each differs by no more than 1 from the one ahead -/
def stepsOk : List Int → Bool
  | a :: b :: l => decide ((a - b).natAbs < 2) && stepsOk (b :: l)
  | _ => true
structure Way (w h : Nat) (s : List Int) : Prop where
  len : s.length = h
  rng : ∀ x ∈ s, 0 ≤ x ∧ x < (w : Int)
  st : stepsOk s = true
theorem stepsOk_zip : ∀ s : List Int, stepsOk s = (s.zip s.tail).all fun p => decide ((p.1 - p.2).natAbs < 2)
  | [] => rfl
  | [_] => rfl
  | a :: b :: l => by
    unfold stepsOk
    rw [stepsOk_zip (b :: l)]
    rfl
def nearP : D × D → Bool
  | (.int a, .int b) => decide ((a - b).natAbs < 2)
  | _ => false
/-- is_way, of any thing -/
def isWay : D → Int → Int → Bool
  | .tuple xs, w, h => decide ((xs.length : Int) = h) && (xs.all (fun d => isNum d 0 (w - 1)) && (xs.zip xs.tail).all nearP)
  | _, _, _ => false
theorem int_of_num {d : D} {a b : Int} (h : isNum d a b = true) : ∃ i, d = .int i ∧ a ≤ i ∧ i ≤ b := by
  cases d <;> first | (simp [isNum] at h; done) | skip
  rename_i i
  simp only [isNum, Bool.and_eq_true, decide_eq_true_eq] at h
  exact ⟨i, rfl, h⟩
theorem ints_of_num {a b : Int} : ∀ {xs : List D}, (xs.all fun d => isNum d a b) = true → ∃ l : List Int, xs = l.map PyData.int ∧ ∀ x ∈ l, a ≤ x ∧ x ≤ b
  | [], _ => ⟨[], rfl, fun x hx => by cases hx⟩
  | d :: xs, h => by
    rw [List.all_cons, Bool.and_eq_true] at h
    obtain ⟨i, rfl, h1⟩ := int_of_num h.1
    obtain ⟨l, rfl, h2⟩ := ints_of_num h.2
    exact ⟨i :: l, rfl, fun x hx => by
      rcases List.mem_cons.mp hx with e | hx
      · rw [e]; exact h1
      · exact h2 x hx⟩
theorem all_num {a b : Int} : ∀ {l : List Int}, ((l.map PyData.int).all fun d => isNum d a b) = l.all fun x => decide (a ≤ x) && decide (x ≤ b)
  | [] => rfl
  | x :: l => by rw [List.map_cons, List.all_cons, List.all_cons, all_num]; rfl
abbrev Sp_is_way (m : List D → Rs D) : Prop := ∀ (d : D) (w h : Int), d.canLay0 = true → h < 1000000 → m [d, .int w, .int h] = .ok (.bool (isWay d w h))
theorem ok_is_way {T : Tb} {fN : Nat} (hN : Sp_is_number (T.fn fN)) : Sp_is_way (runD T 3 6 (B_is_way fN)) := by
  intro d w h hd hh
  cases d with
  | dict => simp [PyData.canLay0] at hd
  | none => simp [runD, B_is_way, isWay]
  | bool => simp [runD, B_is_way, isWay]
  | int => simp [runD, B_is_way, isWay]
  | str => simp [runD, B_is_way, isWay]
  | list => simp [runD, B_is_way, isWay]
  | tuple xs =>
    simp only [PyData.canLay0] at hd
    by_cases hl : (xs.length : Int) = h
    · simp [runD, B_is_way, isWay, hl]
      rw [cmpr_li .bool (fun d => isNum d 0 (w - 1)) (map_id' xs) (by omega) fun a ha => by simp [turnD, hN _ _ _ (lay_mem hd ha)]]
      cases q : xs.all fun d => isNum d 0 (w - 1) with
      | false => simp [q]
      | true =>
        obtain ⟨l, rfl, hx⟩ := ints_of_num q
        have e1 : PyData.tuple (l.map PyData.int) = row l := rfl
        have e2 : cutD l (some 1) none = l.tail := by rw [cut_from _ (by decide)]; exact List.drop_one
        simp only [all_mapped, q, bk_ok, bind_bk, mapB, bindA, bindM, Rs.bind_ok, Rs.quiet_ok, map_ok, asB_bool, evs_cons, evs_nil, Bool.not_true, if_false, Bool.false_eq_true, seqF_nx, exs_cons, exs_nil]
        rw [List.length_map] at hl
        simp [e1, e2]
        rw [cmpr_li .bool (fun p => decide ((p.1 - p.2).natAbs < 2)) rfl (by simp; omega) fun p hp => by simp [turnD, pr, abs_i, -abs_int]; omega]
        simp
        rw [← List.map_tail, List.zip_map, List.all_map]
        rfl
    · simp [runD, B_is_way, isWay, hl]
theorem isWay_way {w h : Nat} {s : List Int} (g : Way w h s) : isWay (row s) w h = true := by
  show (decide _ && (_ && _)) = true
  rw [Bool.and_eq_true, Bool.and_eq_true, decide_eq_true_eq, List.length_map, g.len]
  refine ⟨rfl, ?_, ?_⟩
  · rw [all_num, List.all_eq_true]
    intro x hx
    have := g.rng x hx
    simp; omega
  · rw [← List.map_tail, List.zip_map, List.all_map]
    exact (stepsOk_zip s).symm.trans g.st
theorem way_of {w h : Nat} {d : D} (e : isWay d w h = true) : ∃ s, d = row s ∧ Way w h s := by
  cases d <;> first | (simp [isWay] at e; done) | skip
  rename_i xs
  simp only [isWay, Bool.and_eq_true, decide_eq_true_eq] at e
  obtain ⟨l, rfl, hl⟩ := ints_of_num e.2.1
  refine ⟨l, rfl, by have := e.1; rw [List.length_map] at this; omega, fun x hx => by have := hl x hx; omega, ?_⟩
  rw [stepsOk_zip]
  have q := e.2.2
  rw [← List.map_tail, List.zip_map, List.all_map] at q
  exact q
abbrev Sp_is_seam (m : List D → Rs D) : Prop := ∀ w h p d, Good w h p → d.canLay0 = true → m [d, pic p] = .ok (.bool (isWay d w h))
theorem ok_is_seam {T : Tb} {fW fN c : Nat} (hW : Sp_is_way (T.fn fW)) (hN : Sp_need_picture c (T.fn fN)) : Sp_is_seam (runD T 2 2 (B_is_seam fW fN)) := by
  intro w h p d g hd
  have h0 := g.row0
  have h1 := g.hh
  have h2 := g.h1
  have h3 := g.h2
  simp (disch := omega) [runD, B_is_seam, need_pic hN g, idx_tu, h0, h1, hW d w h hd (by omega)]
abbrev Sp_need_seam (c : Nat) (m : List D → Rs D) : Prop := ∀ w h p d, Good w h p → d.canLay0 = true → m [pic p, d] = if isWay d w h = true then .ok .none else .ex (c, none)
theorem ok_need_seam {T : Tb} {fS cN : Nat} (hS : Sp_is_seam (T.fn fS)) (hc : cN < T.cls.length) : Sp_need_seam cN (runD T 2 2 (B_need_seam fS cN)) := by
  intro w h p d g hd
  simp [runD, B_need_seam, hS w h p d g hd]
  cases isWay d w h <;> simp [hc]
theorem need_way {c : Nat} {m : List D → Rs D} (sp : Sp_need_seam c m) {w h : Nat} {p : List (List Int)} {s : List Int} (g : Good w h p) (q : Way w h s) : m [pic p, row s] = .ok .none := by
  rw [sp w h p _ g (lay_row s), isWay_way q]; rfl
/-- what a seam costs behind its first row -/
def tailCost (mn : Bool) (p : List (List Int)) : Int → Int → List Int → Int
  | _, _, [] => 0
  | y, b, x :: l => stepV mn p x y (some b) + tailCost mn p (y + 1) x l
def costV (mn : Bool) (p : List (List Int)) : List Int → Int
  | [] => 0
  | x :: l => stepV mn p x 0 none + tailCost mn p 1 x l
theorem getI_cons_succ {α : Type} [Inhabited α] (a : α) (l : List α) (k : Nat) : getI (a :: l) ((k + 1 : Nat) : Int) = getI l (k : Int) := by
  rw [getI_nat, getI_nat, List.getD_cons_succ]
theorem getI_zero {α : Type} [Inhabited α] (a : α) (l : List α) : getI (a :: l) 0 = a := by
  have := getI_nat (a :: l) 0
  rw [show ((0 : Nat) : Int) = 0 from rfl] at this
  rw [this]; rfl
theorem tail_fold (mn : Bool) (p : List (List Int)) : ∀ (l : List Int) (b y acc : Int) (s : List Int) (k : Nat), s.drop k = b :: l → y = (k : Int) + 1 →
    (upI y l.length).foldl (fun acc y => acc + stepV mn p (getI s y) y (some (getI s (y - 1)))) acc = acc + tailCost mn p y b l
  | [], b, y, acc, s, k, _, _ => by simp [upI, tailCost]
  | x :: l, b, y, acc, s, k, hs, hy => by
    have e : upI y (x :: l).length = y :: upI (y + 1) l.length := by
      unfold upI
      rw [List.length_cons, List.range_succ_eq_map, List.map_cons, List.map_map]
      have e1 : y + ((0 : Nat) : Int) = y := by omega
      rw [e1]
      congr 1
      apply List.map_congr_left
      intro k _
      simp only [Function.comp]
      omega
    rw [e, List.foldl_cons]
    have hx : s.drop (k + 1) = x :: l := by rw [← List.drop_drop, hs]; rfl
    have g1 : getI s y = x := by
      rw [hy, show (k : Int) + 1 = ((k + 1 : Nat) : Int) by omega, getI_nat, List.getD_eq_getElem?_getD]
      have := congrArg List.head? hx
      rw [List.head?_drop] at this
      rw [this]; rfl
    have g0 : getI s (y - 1) = b := by
      rw [hy, show (k : Int) + 1 - 1 = ((k : Nat) : Int) by omega, getI_nat, List.getD_eq_getElem?_getD]
      have := congrArg List.head? hs
      rw [List.head?_drop] at this
      rw [this]; rfl
    rw [g1, g0, tail_fold mn p l x (y + 1) _ s (k + 1) hx (by omega)]
    show acc + stepV mn p x y (some b) + tailCost mn p (y + 1) x l = acc + (stepV mn p x y (some b) + tailCost mn p (y + 1) x l)
    omega
theorem cost_fold (mn : Bool) (p : List (List Int)) (s : List Int) (h : 1 ≤ s.length) : (upI 1 (s.length - 1)).foldl (fun acc y => acc + stepV mn p (getI s y) y (some (getI s (y - 1)))) (stepV mn p (getI s 0) 0 none) = costV mn p s := by
  rcases s with _ | ⟨x, l⟩
  · simp at h
  · have := tail_fold mn p l x 1 (stepV mn p (getI (x :: l) 0) 0 none) (x :: l) 0 rfl rfl
    rw [show (x :: l).length - 1 = l.length from rfl, this, getI_zero]
    rfl
abbrev Sp_plain_cost (m : List D → Rs D) : Prop := ∀ w h p s mn, Good w h p → Way w h s → m [pic p, row s, man mn] = .ok (.int (costV mn p s))
theorem ok_plain_cost {T : Tb} {fS : Nat} (hS : Sp_step_cost (T.fn fS)) : Sp_plain_cost (runD T 3 5 (B_plain_cost fS)) := by
  intro w h p s mn g q
  have h1 := g.h1
  have h2 := g.h2
  have w1 := g.w1
  have hl := q.len
  have r0 := q.rng (getI s 0) (getI_mem (by omega) (by omega))
  have s0 : T.fn fS [pic p, .int (getI s 0), .int 0, .none, man mn] = .ok (.int (stepV mn p (getI s 0) 0 none)) := hS w h p _ 0 none mn g.toRect r0.1 r0.2 (by omega) (by omega) (fun z e => nomatch e)
  simp (disch := omega) [runD, B_plain_cost, idx_tu, s0, it_rng2]
  refine for_bind (fun (acc : Int) ρ => ∃ z, ρ = [.fz (pic p), .fz (row s), .fz (man mn), .fz (.int acc), z]) (fun acc y => acc + stepV mn p (getI s y) y (some (getI s (y - 1)))) (stepV mn p (getI s 0) 0 none) ⟨.un, rfl⟩ ?_ ?_
  · rintro b y _ hy ⟨z, rfl⟩
    have hy := mem_upI.mp hy
    have ra := q.rng (getI s y) (getI_mem (by omega) (by omega))
    have rb := q.rng (getI s (y - 1)) (getI_mem (by omega) (by omega))
    have e : T.fn fS [pic p, .int (getI s y), .int y, .int (getI s (y - 1)), man mn] = .ok (.int (stepV mn p (getI s y) y (some (getI s (y - 1))))) := hS w h p _ y (some _) mn g.toRect ra.1 ra.2 (by omega) (by omega) (fun z e => by cases e; omega)
    exact ⟨_, by simp (disch := omega) [idx_tu, e]; rfl, _, rfl⟩
  · rintro _ ⟨z, rfl⟩
    have e : ((s.length : Int) - 1).toNat = s.length - 1 := by omega
    simp [e, cost_fold mn p s (by omega)]
abbrev Sp_cost_of (m : List D → Rs D) : Prop := ∀ w h p s mn, Good w h p → Way w h s → m [pic p, row s, man mn] = .ok (.int (costV mn p s))
theorem ok_cost_of {T : Tb} {fC fS fM fN c1 c2 c3 : Nat} (hC : Sp_plain_cost (T.fn fC)) (hS : Sp_need_seam c1 (T.fn fS)) (hM : Sp_need_manner c2 (T.fn fM)) (hN : Sp_need_picture c3 (T.fn fN)) : Sp_cost_of (runD T 3 3 (B_cost_of fC fS fM fN)) := by
  intro w h p s mn g q
  simp [runD, B_cost_of, need_pic hN g, need_man hM mn, need_way hS g q, hC w h p s mn g q]
end Rf
set_option Elab.async false
set_option linter.all false
set_option autoImplicit false
set_option maxHeartbeats 2000000
set_option maxRecDepth 100000
namespace Rf
open PySem L2
/-! ### what a law draws -/
abbrev Sp_law_drawn (m : List D → Rs D) : Prop := ∀ (s : List Int) (k n : Int), s.length ≤ 63 → 0 ≤ k → k < 1000000 → 0 < n → ∃ v, 0 ≤ v ∧ v < n ∧ m [li .int s, .int k, .int n] = .ok (.int v)
theorem ex_mod {n : Int} (hn : 0 < n) {e : Rs D} (h : ∃ x, e = .ok (.int (x % n))) : ∃ v, 0 ≤ v ∧ v < n ∧ e = .ok (.int v) := by
  obtain ⟨x, h⟩ := h
  exact ⟨_, Int.emod_nonneg _ (by omega), Int.emod_lt_of_pos _ hn, h⟩
theorem drawn_loop {c : Env → Rs Bool} {b : Env → Rs Fl} {l k n cl : D} (hc : ∀ t r : Int, c [.fz l, .fz k, .fz n, .fz cl, .fz (.int t), .fz (.int r)] = .ok (decide (0 < r) && decide (0 < t)))
    (hb : ∀ t r : Int, 0 < t → ∃ r', b [.fz l, .fz k, .fz n, .fz cl, .fz (.int t), .fz (.int r)] = .ok (.nx [.fz l, .fz k, .fz n, .fz cl, .fz (.int (t - 1)), .fz (.int r')])) :
    ∀ (m : Nat) (t r : Int), 1 ≤ m → t < m → ∃ t' r', whlD c b m [.fz l, .fz k, .fz n, .fz cl, .fz (.int t), .fz (.int r)] = .ok (.nx [.fz l, .fz k, .fz n, .fz cl, .fz (.int t'), .fz (.int r')])
  | 0, t, r, h1, h => absurd h1 (by omega)
  | m + 1, t, r, h1, h => by
    unfold whlD
    rw [hc]
    by_cases q : 0 < r ∧ 0 < t
    · obtain ⟨r1, e1⟩ := hb t r q.2
      obtain ⟨t2, r2, e2⟩ := drawn_loop hc hb m (t - 1) r1 (by omega) (by omega)
      refine ⟨t2, r2, ?_⟩
      simp [q.1, q.2, e1, e2]
    · refine ⟨t, r, ?_⟩
      have : (decide (0 < r) && decide (0 < t)) = false := by
        cases e : (decide (0 < r) && decide (0 < t)) with
        | false => rfl
        | true => simp at e; exact absurd e q
      simp [this]
theorem ok_law_drawn {T : Tb} : Sp_law_drawn (runD T 3 6 B_law_drawn) := by
  intro s k n hs hk hk2 hn
  have q1 : ∀ x : Int, 0 ≤ x % 2147483563 ∧ x % 2147483563 < 2147483563 := fun x => ⟨Int.emod_nonneg _ (by decide), Int.emod_lt_of_pos _ (by decide)⟩
  have q2 : ∀ x : Int, 0 ≤ x % 2147483399 ∧ x % 2147483399 < 2147483399 := fun x => ⟨Int.emod_nonneg _ (by decide), Int.emod_lt_of_pos _ (by decide)⟩
  have sq1 : ∀ x : Int, binD .Mult (.int (x % 2147483563)) (.int (x % 2147483563)) = .ok (.int (x % 2147483563 * (x % 2147483563))) := fun x => mulL (by have := q1 x; omega) (by have := q1 x; omega)
  have sq2 : ∀ x : Int, binD .Mult (.int (x % 2147483399)) (.int (x % 2147483399)) = .ok (.int (x % 2147483399 * (x % 2147483399))) := fun x => mulL (by have := q2 x; omega) (by have := q2 x; omega)
  by_cases h0 : s = []
  · subst h0
    exact ex_mod hn ⟨_, by
      simp (disch := omega) [runD, B_law_drawn, mulL, mulR, divOk, modOk, sq1, sq2]
      rfl⟩
  · have hl : 0 < s.length := List.length_pos_iff.mpr h0
    have m1 := Int.emod_nonneg k (b := (s.length : Int)) (by omega)
    have m2 := Int.emod_lt_of_pos k (b := (s.length : Int)) (by omega)
    by_cases h1 : 1000000000000000000 ≤ getI s (k % (s.length : Int))
    · by_cases h2 : k / (s.length : Int) < 60
      · simp (disch := omega) [runD, B_law_drawn, mulL, mulR, divOk, modOk, idx_li, h0, pow18, h1, h2, sq1, sq2]
        obtain ⟨t', r', e⟩ := drawn_loop (c := tstE T (.and (.cmp .Gt (.var 5) (.cst (.int 0))) (.cmp .Gt (.var 4) (.cst (.int 0))))) (b := Ss.ex T (Ss.cons (.asg (.nm 5) (.bin .FloorDiv (.var 5) (.cst (.int 1000000))) []) (.cons (.asg (.nm 4) (.bin .Sub (.var 4) (.cst (.int 1))) []) .nil)))
          (l := li .int s) (k := .int k) (n := .int n) (cl := .int (getI s (k % (s.length : Int))))
          (fun t r => by simp; by_cases z : 0 < r <;> simp [z]) (fun t r _ => ⟨_, by simp (disch := omega) [divOk]; rfl⟩) 10000 (k / (s.length : Int)) (getI s (k % (s.length : Int)) / 1000000000000000000) (by omega) (by omega)
        rw [e]
        by_cases h3 : 0 < r'
        · exact ex_mod hn ⟨_, by
            simp (disch := omega) [h3, modOk]
            rfl⟩
        · exact ex_mod hn ⟨_, by
            simp (disch := omega) [h3, mulL, mulR, divOk, modOk, sq1, sq2]
            rfl⟩
      · exact ex_mod hn ⟨_, by
          simp (disch := omega) [runD, B_law_drawn, mulL, mulR, divOk, modOk, idx_li, h0, pow18, h1, h2, sq1, sq2]
          rfl⟩
    · exact ex_mod hn ⟨_, by
        simp (disch := omega) [runD, B_law_drawn, mulL, mulR, divOk, modOk, idx_li, h0, pow18, h1, sq1, sq2]
        rfl⟩
theorem idx_four {i : Int} (h1 : 0 ≤ i) (h2 : i < 4) : ∃ v : Int, 1 ≤ v ∧ v ≤ 100 ∧ idxD (.list [.int 2, .int 5, .int 100, .int 10]) (.int i) = .ok (.int v) := by
  have : i = 0 ∨ i = 1 ∨ i = 2 ∨ i = 3 := by omega
  rcases this with rfl | rfl | rfl | rfl
  · exact ⟨2, by omega, by omega, rfl⟩
  · exact ⟨5, by omega, by omega, rfl⟩
  · exact ⟨100, by omega, by omega, rfl⟩
  · exact ⟨10, by omega, by omega, rfl⟩
/-- the number drawn -/
def drawV (m : List D → Rs D) (s : List Int) (k n : Int) : Int := match m [li .int s, .int k, .int n] with
  | .ok (.int v) => v
  | _ => 0
theorem drawV_ok {m : List D → Rs D} (sp : Sp_law_drawn m) {s : List Int} {k n : Int} (h1 : s.length ≤ 63) (h2 : 0 ≤ k) (h3 : k < 1000000) (h4 : 0 < n) : m [li .int s, .int k, .int n] = .ok (.int (drawV m s k n)) ∧ 0 ≤ drawV m s k n ∧ drawV m s k n < n := by
  obtain ⟨v, a, b, e⟩ := sp s k n h1 h2 h3 h4
  have : drawV m s k n = v := by unfold drawV; rw [e]
  rw [this]
  exact ⟨e, a, b⟩
theorem foldl_snoc {α β : Type} (g : α → β) : ∀ (l : List α) (acc : List β), l.foldl (fun acc a => acc ++ [g a]) acc = acc ++ l.map g
  | [], acc => by simp
  | a :: l, acc => by rw [List.foldl_cons, foldl_snoc g l, List.map_cons, List.append_assoc]; rfl
theorem mul_bd {a b : Int} (h1 : 0 ≤ a) (h2 : a ≤ 20) (h3 : 0 ≤ b) (h4 : b ≤ 20) : 0 ≤ a * b ∧ a * b ≤ 400 := by
  refine ⟨Int.mul_nonneg h1 h3, ?_⟩
  have q1 : a * b ≤ 20 * b := Int.mul_le_mul_of_nonneg_right h2 h3
  omega
/-- cells from 0 to 99 -/
abbrev CellsOk (p : List (List Int)) : Prop := ∀ r ∈ p, ∀ c ∈ r, 0 ≤ c ∧ c ≤ 99
abbrev Sp_law_picture (m : List D → Rs D) : Prop := ∀ (s : List Int) (at_ : Int) (w h : Nat), s.length ≤ 63 → 0 ≤ at_ → at_ < 100000 → w ≤ 20 → h ≤ 20 → ∃ p, Rect w h p ∧ CellsOk p ∧ m [li .int s, .int at_, .int w, .int h] = .ok (pic p)
theorem ok_law_picture {T : Tb} {fD : Nat} (hD : Sp_law_drawn (T.fn fD)) : Sp_law_picture (runD T 4 8 (B_law_picture fD)) := by
  intro s at_ w h hs h1 h2 hw hh
  obtain ⟨v, v1, v2, ev⟩ := hD s at_ 4 hs h1 (by omega) (by omega)
  obtain ⟨n, n1, n2, en⟩ := idx_four v1 v2
  let g : Int → List Int := fun y => (upI 0 w).map fun x => drawV (T.fn fD) s (at_ + 1 + (w : Int) * y + x) n
  have key : ∀ y : Int, y ∈ upI 0 h → ∀ x : Int, x ∈ upI 0 w → T.fn fD [li .int s, .int (at_ + 1 + (w : Int) * y + x), .int n] = .ok (.int (drawV (T.fn fD) s (at_ + 1 + (w : Int) * y + x) n)) ∧ 0 ≤ drawV (T.fn fD) s (at_ + 1 + (w : Int) * y + x) n ∧ drawV (T.fn fD) s (at_ + 1 + (w : Int) * y + x) n < n := fun y hy x hx => by
    have hy := mem_upI.mp hy
    have hx := mem_upI.mp hx
    have q := mul_bd (a := (w : Int)) (b := y) (by omega) (by omega) (by omega) (by omega)
    exact drawV_ok hD hs (by omega) (by omega) (by omega)
  refine ⟨(upI 0 h).map g, ⟨by simp, fun r hr => ?_⟩, fun r hr c hc => ?_, ?_⟩
  · obtain ⟨y, _, rfl⟩ := List.mem_map.mp hr
    simp [g]
  · obtain ⟨y, hy, rfl⟩ := List.mem_map.mp hr
    obtain ⟨x, hx, rfl⟩ := List.mem_map.mp hc
    have := key y hy x hx
    omega
  · simp (disch := omega) [runD, B_law_picture, ev, en, it_rng1]
    refine for_preB (fun pre ρ => ∃ z y, ρ = [.fz (li .int s), .fz (.int at_), .fz (.int w), .fz (.int h), .fz (.int n), .ow ((pre.map g).map row), z, y]) ⟨_, _, rfl⟩ ?_ ?_
    · rintro p y q _ ep ⟨z, z2, rfl⟩
      obtain ⟨hl, hy⟩ := pre_len ep
      rw [len_upI] at hl
      have hrow : ∀ F, (∀ x ∈ upI 0 w, F (.int x) = .ok (some (.int (drawV (T.fn fD) s (at_ + 1 + (w : Int) * y + x) n)))) → cmpR F ((upI 0 w).map .int) = .ok (li .int (g y)) := fun F hF => cmpr_li .int (fun x => drawV (T.fn fD) s (at_ + 1 + (w : Int) * y + x) n) rfl (by rw [len_upI]; omega) hF
      refine ⟨_, ?_, .fz (.int y), z2, rfl⟩
      simp (disch := omega) [-List.map_map, it_rng1]
      rw [hrow]
      · simp (disch := omega) [-List.map_map, grdFew]
      · intro x hx
        have k1 := key y hy x hx
        simp (disch := omega) [turnD, mulL, k1.1]
    · rintro _ ⟨z, y, rfl⟩
      simp [-List.map_map]
      rfl
abbrev Sp_law_some (m : List D → Rs D) : Prop := ∀ (s : List Int) (at_ : Int) (bw bh : Nat), s.length ≤ 63 → 0 ≤ at_ → at_ < 90000 → 1 ≤ bw → bw ≤ 20 → 1 ≤ bh → bh ≤ 20 → ∃ w h p, w ≤ bw ∧ h ≤ bh ∧ Good w h p ∧ m [li .int s, .int at_, .int bw, .int bh] = .ok (pic p)
theorem ok_law_some {T : Tb} {fP fD : Nat} (hP : Sp_law_picture (T.fn fP)) (hD : Sp_law_drawn (T.fn fD)) : Sp_law_some (runD T 4 4 (B_law_some fP fD)) := by
  intro s at_ bw bh hs h1 h2 h3 h4 h5 h6
  obtain ⟨a, a1, a2, ea⟩ := hD s at_ bw hs h1 (by omega) (by omega)
  obtain ⟨b, b1, b2, eb⟩ := hD s (at_ + 1) bh hs (by omega) (by omega) (by omega)
  obtain ⟨p, g, cl, e⟩ := hP s (at_ + 2) (a + 1).toNat (b + 1).toNat hs (by omega) (by omega) (by omega) (by omega)
  refine ⟨(a + 1).toNat, (b + 1).toNat, p, by omega, by omega, ⟨g, by omega, by omega, by omega, by omega, cl⟩, ?_⟩
  have e1 : ((a + 1).toNat : Int) = 1 + a := by omega
  have e2 : ((b + 1).toNat : Int) = 1 + b := by omega
  rw [e1, e2] at e
  simp [runD, B_law_some, ea, eb, e]
/-! ### the law's own looks -/
def atV (p : List (List Int)) (x y : Int) : Int := nearV (getI p (max 0 (min ((p.length : Int) - 1) y))) x
abbrev Sp_law_at (m : List D → Rs D) : Prop := ∀ w h p x y, Rect w h p → 1 ≤ w → 1 ≤ h → m [pic p, .int x, .int y] = .ok (.int (atV p x y))
theorem ok_law_at {T : Tb} : Sp_law_at (runD T 3 3 B_law_at) := by
  intro w h p x y g w1 h1
  have hh := g.hh
  have h0 := g.row (y := 0) (by omega) (by omega)
  have hy := g.row (y := max 0 (min ((p.length : Int) - 1) y)) (by omega) (by omega)
  simp (disch := omega) [runD, B_law_at, max_ii, min_ii, idx_tu, -max_int, -min_int, atV, nearV, h0, hy]
theorem atV_row {w h : Nat} {p : List (List Int)} (g : Rect w h p) {x y : Int} (h1 : 0 ≤ y) (h2 : y < h) : atV p x y = nearV (getI p y) x := by
  have := g.hh
  unfold atV
  rw [show max 0 (min ((p.length : Int) - 1) y) = y by omega]
theorem nearV_in {r : List Int} {x : Int} (h1 : 0 ≤ x) (h2 : x < r.length) : nearV r x = getI r x := by
  unfold nearV
  rw [show max 0 (min ((r.length : Int) - 1) x) = x by omega]
abbrev Sp_law_step (m : List D → Rs D) : Prop := ∀ w h p x y (b : Option Int) mn, Rect w h p → 0 ≤ x → x < (w : Int) → 0 ≤ y → y < (h : Int) → (∀ z, b = some z → 1 ≤ y ∧ 0 ≤ z ∧ z < (w : Int)) → m [pic p, man mn, .int x, .int y, bef b] = .ok (.int (stepV mn p x y b))
theorem ok_law_step {T : Tb} {fA : Nat} (hA : Sp_law_at (T.fn fA)) : Sp_law_step (runD T 5 6 (B_law_step fA)) := by
  intro w h p x y b mn g h1 h2 h3 h4 hb
  have hh := g.hh
  have a3 := g.row h3 h4
  have at_ : ∀ x y : Int, T.fn fA [pic p, .int x, .int y] = .ok (.int (atV p x y)) := fun x y => hA w h p x y g (by omega) (by omega)
  have l1 : atV p (x - 1) y = nearV (getI p y) (x - 1) := atV_row g h3 h4
  have l2 : atV p (x + 1) y = nearV (getI p y) (x + 1) := atV_row g h3 h4
  cases mn with
  | true =>
    have u1 := g.row (y := max 0 (y - 1)) (by omega) (by omega)
    have u2 := g.row (y := min ((p.length : Int) - 1) (y + 1)) (by omega) (by omega)
    have l3 : atV p x (y - 1) = cell p x (max 0 (y - 1)) := by
      unfold atV
      rw [show max 0 (min ((p.length : Int) - 1) (y - 1)) = max 0 (y - 1) by omega, nearV_in h1 (by omega)]; rfl
    have l4 : atV p x (y + 1) = cell p x (min ((p.length : Int) - 1) (y + 1)) := by
      unfold atV
      rw [show max 0 (min ((p.length : Int) - 1) (y + 1)) = min ((p.length : Int) - 1) (y + 1) by omega, nearV_in h1 (by omega)]; rfl
    simp [runD, B_law_step, at_, abs_i, -abs_int, l1, l2, l3, l4]
    cases b <;> simp [stepV, worthV, joinV]
  | false =>
    cases b with
    | none => simp [runD, B_law_step, at_, abs_i, -abs_int, bef, op, stepV, joinV, l1, l2]
    | some z =>
      obtain ⟨q1, q2, q3⟩ := hb z rfl
      have a4 := g.row (y := y - 1) (by omega) (by omega)
      by_cases e : z = x
      · subst e
        simp [runD, B_law_step, at_, abs_i, -abs_int, bef, op, stepV, joinV, l1, l2]
      · by_cases e2 : z < x
        · simp (disch := omega) [runD, B_law_step, at_, abs_i, -abs_int, bef, op, stepV, joinV, l1, l2, e, e2, idx_tu, cell]
        · simp (disch := omega) [runD, B_law_step, at_, abs_i, -abs_int, bef, op, stepV, joinV, l1, l2, e, e2, idx_tu, cell]
/-- the ones ahead of each place -/
def befs (s : List Int) : List (Option Int) := none :: s.dropLast.map some
theorem tu_bef (s : List Int) : PyData.tuple (.none :: s.dropLast.map PyData.int) = tu bef (befs s) := by
  unfold tu befs
  rw [List.map_cons, List.map_map]; rfl
theorem cost_sum (mn : Bool) (p : List (List Int)) (s : List Int) : ∀ (l : List Int) (b : Int) (k : Nat), s.drop k = b :: l → (((upI ((k : Int) + 1) l.length).zip l).map fun q => stepV mn p q.2 q.1 (getI (befs s) q.1)).sum = tailCost mn p ((k : Int) + 1) b l
  | [], b, k, _ => by simp [tailCost]
  | x :: l, b, k, hs => by
    have e : upI ((k : Int) + 1) (x :: l).length = ((k : Int) + 1) :: upI (((k + 1 : Nat) : Int) + 1) l.length := by
      unfold upI
      rw [List.length_cons, List.range_succ_eq_map, List.map_cons, List.map_map]
      have e1 : (k : Int) + 1 + ((0 : Nat) : Int) = (k : Int) + 1 := by omega
      rw [e1]
      congr 1
      apply List.map_congr_left
      intro j _
      simp only [Function.comp]
      omega
    have hx : s.drop (k + 1) = x :: l := by rw [← List.drop_drop, hs]; rfl
    have hb : getI (befs s) ((k : Int) + 1) = some b := by
      rw [show (k : Int) + 1 = ((k + 1 : Nat) : Int) by omega, getI_nat, List.getD_eq_getElem?_getD]
      unfold befs
      rw [List.getElem?_cons_succ, List.getElem?_map]
      have hk : k + 1 < s.length := by
        have := congrArg List.length hx
        rw [List.length_drop, List.length_cons] at this
        omega
      have h3 := congrArg List.head? hs
      rw [List.head?_drop] at h3
      rw [List.dropLast_eq_take, List.getElem?_take_of_lt (by omega), h3]; rfl
    rw [e, List.zip_cons_cons, List.map_cons, List.sum_cons, cost_sum mn p s l x (k + 1) hx, hb]
    rw [show ((k + 1 : Nat) : Int) + 1 = (k : Int) + 1 + 1 by omega]
    rfl
theorem cost_sum0 (mn : Bool) (p : List (List Int)) (s : List Int) : (((upI 0 s.length).zip s).map fun q => stepV mn p q.2 q.1 (getI (befs s) q.1)).sum = costV mn p s := by
  rcases s with _ | ⟨x, l⟩
  · rfl
  · have e : upI 0 (x :: l).length = 0 :: upI (((0 : Nat) : Int) + 1) l.length := by
      unfold upI
      rw [List.length_cons, List.range_succ_eq_map, List.map_cons, List.map_map]
      congr 1
      apply List.map_congr_left
      intro j _
      simp only [Function.comp]
      omega
    have h0 : getI (befs (x :: l)) 0 = none := getI_zero _ _
    rw [e, List.zip_cons_cons, List.map_cons, List.sum_cons, cost_sum mn p (x :: l) l x 0 rfl, h0]
    rfl
abbrev Sp_law_cost (m : List D → Rs D) : Prop := ∀ w h p s mn, Good w h p → Way w h s → m [pic p, man mn, row s] = .ok (.int (costV mn p s))
theorem ok_law_cost {T : Tb} {fS : Nat} (hS : Sp_law_step (T.fn fS)) : Sp_law_cost (runD T 3 6 (B_law_cost fS)) := by
  intro w h p s mn g q
  have h1 := g.h1
  have h2 := g.h2
  have hl := q.len
  have hbl : (befs s).length = h := by unfold befs; simp; omega
  have ec : cutD s none (some (-1)) = s.dropLast := by
    have := cut_most s (k := 1) (by decide)
    rw [show (-((1 : Nat) : Int)) = -1 by rfl] at this
    rw [this, List.dropLast_eq_take]
  have ea : binD .Add (.tuple [.none]) (row s.dropLast) = .ok (tu bef (befs s)) := by
    rw [← tu_bef]
    exact add_tuple _ _ (by simp; omega)
  simp [runD, B_law_cost, ec, ea]
  rw [cmpr_li .int (fun q => stepV mn p q.2 q.1 (getI (befs s) q.1)) rfl (by simp; omega)]
  · simp [cost_sum0]
  · rintro ⟨y, x⟩ hm
    have hy := mem_upI.mp (List.of_mem_zip hm).1
    have hx := q.rng x (List.of_mem_zip hm).2
    have hbf : ∀ z, getI (befs s) y = some z → 1 ≤ y ∧ 0 ≤ z ∧ z < (w : Int) := fun z hz => by
      have h0 : y ≠ 0 := fun e => by
        rw [e] at hz
        have : getI (befs s) 0 = none := getI_zero _ _
        rw [this] at hz; cases hz
      have hm2 : getI (befs s) y ∈ befs s := getI_mem (by omega) (by omega)
      rw [hz] at hm2
      unfold befs at hm2
      rcases List.mem_cons.mp hm2 with e | e
      · cases e
      · obtain ⟨z', hz', e2⟩ := List.mem_map.mp e
        cases e2
        have := q.rng z (by rw [List.dropLast_eq_take] at hz'; exact List.mem_of_mem_take hz')
        omega
    have := hS w h p x y (getI (befs s) y) mn g.toRect hx.1 hx.2 hy.1 (by omega) hbf
    simp (disch := omega) [turnD, pr, idx_tu, this]
theorem stepsOk_snoc : ∀ {l : List Int} {a b : Int}, stepsOk (l ++ [a]) = true → (a - b).natAbs < 2 → stepsOk (l ++ [a] ++ [b]) = true
  | [], a, b, _, h => by simp [stepsOk, h]
  | [x], a, b, h1, h => by
    simp [stepsOk] at h1 ⊢
    exact ⟨h1, h⟩
  | x :: y :: l, a, b, h1, h => by
    have e : x :: y :: l ++ [a] = x :: (y :: l ++ [a]) := rfl
    rw [e] at h1
    have h2 : (decide ((x - y).natAbs < 2) && stepsOk (y :: l ++ [a])) = true := h1
    rw [Bool.and_eq_true] at h2
    have h3 := stepsOk_snoc (l := y :: l) h2.2 h
    show (decide ((x - y).natAbs < 2) && stepsOk (y :: l ++ [a] ++ [b])) = true
    rw [h2.1, h3]; rfl
theorem last_snoc (l : List Int) (a : Int) : getI (l ++ [a]) (-1) = a := by
  rw [getI_neg _ (by omega) (by simp; omega)]
  have : (-1 + ((l ++ [a]).length : Int)).toNat = l.length := by simp; omega
  rw [this, List.getD_eq_getElem?_getD]; simp
abbrev Sp_law_way (m : List D → Rs D) : Prop := ∀ (s : List Int) (at_ : Int) (w h : Nat), s.length ≤ 63 → 0 ≤ at_ → at_ < 100000 → 1 ≤ w → w ≤ 20 → 1 ≤ h → h ≤ 20 → ∃ q, Way w h q ∧ m [li .int s, .int at_, .int w, .int h] = .ok (row q)
theorem ok_law_way {T : Tb} {fD : Nat} (hD : Sp_law_drawn (T.fn fD)) : Sp_law_way (runD T 4 6 (B_law_way fD)) := by
  intro s at_ w h hs h1 h2 w1 w2 hh1 hh2
  obtain ⟨a, a1, a2, ea⟩ := hD s at_ w hs h1 (by omega) (by omega)
  have key : ∀ k ∈ upI 0 (h - 1), T.fn fD [li .int s, .int (at_ + 1 + k), .int 3] = .ok (.int (drawV (T.fn fD) s (at_ + 1 + k) 3)) ∧ 0 ≤ drawV (T.fn fD) s (at_ + 1 + k) 3 ∧ drawV (T.fn fD) s (at_ + 1 + k) 3 < 3 := fun k hk => by
    have hk := mem_upI.mp hk
    exact drawV_ok hD hs (by omega) (by omega) (by omega)
  let nx : List Int → Int → List Int := fun acc k => acc ++ [max 0 (min ((w : Int) - 1) (getI acc (-1) + drawV (T.fn fD) s (at_ + 1 + k) 3 - 1))]
  have inv : ∀ (pre acc : List Int) (n : Nat), Way w n acc → (∃ l b, acc = l ++ [b]) → (∀ k ∈ pre, k ∈ upI 0 (h - 1)) → Way w (n + pre.length) (pre.foldl nx acc) ∧ ∃ l b, pre.foldl nx acc = l ++ [b] := by
    intro pre
    induction pre with
    | nil => exact fun acc n q e _ => ⟨q, e⟩
    | cons k pre ih =>
      rintro acc n q ⟨l, b, e⟩ hk
      subst e
      have kk := key k (hk k List.mem_cons_self)
      have hb := q.rng b (by simp)
      have e : nx (l ++ [b]) k = l ++ [b] ++ [max 0 (min ((w : Int) - 1) (b + drawV (T.fn fD) s (at_ + 1 + k) 3 - 1))] := by simp only [nx, last_snoc]
      have i2 := ih (nx (l ++ [b]) k) (n + 1) (by
        rw [e]
        refine ⟨?_, fun x hx => ?_, ?_⟩
        · have := q.len
          simp at this ⊢; omega
        · rcases List.mem_append.mp hx with hx | hx
          · exact q.rng x hx
          · rw [List.mem_singleton.mp hx]; omega
        · exact stepsOk_snoc q.st (by omega)) ⟨_, _, e⟩ fun z hz => hk z (List.mem_cons_of_mem _ hz)
      rw [show n + 1 + pre.length = n + (k :: pre).length by simp; omega] at i2
      exact i2
  have way1 : Way w 1 [a] := ⟨rfl, fun x hx => by rw [List.mem_singleton.mp hx]; exact ⟨a1, a2⟩, rfl⟩
  refine ⟨(upI 0 (h - 1)).foldl nx [a], ?_, ?_⟩
  · have := (inv (upI 0 (h - 1)) [a] 1 way1 ⟨[], a, rfl⟩ fun k hk => hk).1
    rw [len_upI, show 1 + (h - 1) = h by omega] at this
    exact this
  · simp (disch := omega) [runD, B_law_way, ea, it_rng1]
    refine for_preB (fun pre ρ => ∃ z, ρ = [.fz (li .int s), .fz (.int at_), .fz (.int w), .fz (.int h), .ow ((pre.foldl nx [a]).map .int), z]) ⟨_, rfl⟩ ?_ ?_
    · rintro p k q _ ep ⟨z, rfl⟩
      obtain ⟨hl, hk⟩ := pre_len ep
      rw [len_upI] at hl
      have i1 := inv p [a] 1 way1 ⟨[], a, rfl⟩ fun k hk => by rw [ep]; exact List.mem_append_left _ hk
      have hlen := i1.1.len
      have kk := key k hk
      have ef : (p ++ [k]).foldl nx [a] = nx (p.foldl nx [a]) k := by rw [List.foldl_append]; rfl
      have el : idxD (.list ((p.foldl nx [a]).map PyData.int)) (.int (-1)) = .ok (.int (getI (p.foldl nx [a]) (-1))) := idx_li PyData.int _ (by omega) (by omega)
      refine ⟨_, ?_, .fz (.int k), rfl⟩
      rw [ef, show nx (p.foldl nx [a]) k = p.foldl nx [a] ++ [max 0 (min ((w : Int) - 1) (getI (p.foldl nx [a]) (-1) + drawV (T.fn fD) s (at_ + 1 + k) 3 - 1))] from rfl]
      generalize p.foldl nx [a] = acc at *
      simp (disch := omega) [el, kk.1, max_ii, min_ii, -max_int, -min_int, grdFew]
    · rintro _ ⟨z, rfl⟩
      simp
      rfl
end Rf
set_option Elab.async false
set_option linter.all false
set_option autoImplicit false
set_option maxHeartbeats 2000000
set_option maxRecDepth 100000
namespace Rf
open PySem L2
/-! ### loops that look -/
theorem for_test {α : Type} {step : D → Env → Rs Fl} {h : α → D} {r : D} (p : α → Bool) (R : Env → Prop) : ∀ {l : List α} {ρ : Env}, R ρ → (∀ a ρ, a ∈ l → R ρ → ∃ ρ', R ρ' ∧ step (h a) ρ = .ok (if p a = true then .nx ρ' else .rt r)) → ∃ ρ', R ρ' ∧ forD step (l.map h) ρ = .ok (if l.all p = true then .nx ρ' else .rt r)
  | [], ρ, r0, _ => ⟨ρ, r0, rfl⟩
  | a :: l, ρ, r0, H => by
    obtain ⟨ρ1, r1, e1⟩ := H a ρ List.mem_cons_self r0
    cases q : p a with
    | false =>
      refine ⟨ρ1, r1, ?_⟩
      rw [List.map_cons]
      show (step (h a) ρ).bind _ = _
      rw [e1, q, List.all_cons, q]; rfl
    | true =>
      obtain ⟨ρ2, r2, e2⟩ := for_test p R (l := l) r1 fun b ρ hb => H b ρ (List.mem_cons_of_mem _ hb)
      refine ⟨ρ2, r2, ?_⟩
      rw [List.map_cons]
      show (step (h a) ρ).bind _ = _
      rw [e1, q, List.all_cons, q, Bool.true_and]
      exact e2
theorem for_testB {α γ : Type} {step : D → Env → Rs Fl} {h : α → D} {r : D} {l : List α} {ρ : Env} {k : Fl → Rs γ} {z : Rs γ} (p : α → Bool) (R : Env → Prop) (r0 : R ρ) (H : ∀ a ρ, a ∈ l → R ρ → ∃ ρ', R ρ' ∧ step (h a) ρ = .ok (if p a = true then .nx ρ' else .rt r)) (K1 : ∀ ρ', R ρ' → l.all p = true → k (.nx ρ') = z) (K2 : l.all p = false → k (.rt r) = z) : (forD step (l.map h) ρ).bind k = z := by
  obtain ⟨ρ', r1, e⟩ := for_test p R r0 H
  rw [e]
  cases q : l.all p with
  | true => exact K1 ρ' r1 q
  | false => exact K2 q
theorem for_testD {γ : Type} {step : D → Env → Rs Fl} {r : D} {l : List D} {ρ : Env} {k : Fl → Rs γ} {z : Rs γ} (p : D → Bool) (R : Env → Prop) (r0 : R ρ) (H : ∀ a ρ, a ∈ l → R ρ → ∃ ρ', R ρ' ∧ step a ρ = .ok (if p a = true then .nx ρ' else .rt r)) (K1 : ∀ ρ', R ρ' → l.all p = true → k (.nx ρ') = z) (K2 : l.all p = false → k (.rt r) = z) : (forD step l ρ).bind k = z := by
  have := for_testB (h := fun d : D => d) (l := l) p R r0 H K1 K2
  rwa [List.map_id'] at this
/-! ### nested loops -/
/-- goes on, and how -/
def Nxt (x : Rs Fl) (P : Env → Prop) : Prop := ∃ ρ, x = .ok (.nx ρ) ∧ P ρ
def Bks (x : Rs Fl) (P : Env → Prop) : Prop := ∃ ρ, x = .ok (.bk ρ) ∧ P ρ
theorem bks_ok {ρ : Env} {P : Env → Prop} (h : P ρ) : Bks (.ok (.bk ρ)) P := ⟨ρ, rfl, h⟩
theorem nxt_ok {ρ : Env} {P : Env → Prop} (h : P ρ) : Nxt (.ok (.nx ρ)) P := ⟨ρ, rfl, h⟩
theorem for_nxt {α : Type} {step : D → Env → Rs Fl} {h : α → D} {l : List α} {ρ : Env} {k : Fl → Rs Fl} {P : Env → Prop} (R : List α → Env → Prop) (r0 : R [] ρ) (H : ∀ p a q ρ, l = p ++ a :: q → R p ρ → Nxt (step (h a) ρ) (R (p ++ [a]))) (K : ∀ ρ', R l ρ' → Nxt (k (.nx ρ')) P) : Nxt ((forD step (l.map h) ρ).bind k) P := by
  obtain ⟨ρ', e, r'⟩ := for_pre R (pre := []) r0 fun p a q ρ e r => H p a q ρ e r
  rw [e]
  exact K ρ' r'
theorem for_fold {α β : Type} {step : D → Env → Rs Fl} {h : α → D} {l : List α} {ρ : Env} {k : Fl → Rs Fl} {P : Env → Prop} (R : β → Env → Prop) (nx : β → α → β) (b : β) (r0 : R b ρ) (H : ∀ b a ρ, a ∈ l → R b ρ → Nxt (step (h a) ρ) (R (nx b a))) (K : ∀ ρ', R (l.foldl nx b) ρ' → Nxt (k (.nx ρ')) P) : Nxt ((forD step (l.map h) ρ).bind k) P := by
  obtain ⟨ρ', e, r'⟩ := for_ok R nx r0 H
  rw [e]
  exact K ρ' r'
/-- the last of a function: a loop whose turns go on -/
theorem for_end {α γ : Type} {step : D → Env → Rs Fl} {h : α → D} {l : List α} {ρ : Env} {k : Fl → Rs γ} {r : Rs γ} (R : List α → Env → Prop) (r0 : R [] ρ) (H : ∀ p a q ρ, l = p ++ a :: q → R p ρ → Nxt (step (h a) ρ) (R (p ++ [a]))) (K : ∀ ρ', R l ρ' → k (.nx ρ') = r) : (forD step (l.map h) ρ).bind k = r :=
  for_preB R r0 H K
/-- a loop that breaks at the first that passes -/
theorem for_find {α : Type} {step : D → Env → Rs Fl} {h : α → D} {l : List α} {ρ : Env} {k : Fl → Rs Fl} {P : Env → Prop} (p : α → Bool) (R : Env → Prop) (B : α → Env → Prop) (r0 : R ρ) (H : ∀ a ρ, a ∈ l → R ρ → (p a = true → Bks (step (h a) ρ) (B a)) ∧ (p a = false → Nxt (step (h a) ρ) R)) (K1 : ∀ a ρ', l.find? p = some a → B a ρ' → Nxt (k (.nx ρ')) P) (K2 : ∀ ρ', l.find? p = none → R ρ' → Nxt (k (.nx ρ')) P) : Nxt ((forD step (l.map h) ρ).bind k) P := by
  induction l generalizing ρ with
  | nil => exact K2 ρ rfl r0
  | cons a l ih =>
    have h1 := H a ρ List.mem_cons_self r0
    cases q : p a with
    | true =>
      obtain ⟨ρ', e, b⟩ := h1.1 q
      have := K1 a ρ' (by rw [List.find?_cons, q]) b
      rw [List.map_cons]
      show Nxt (((step (h a) ρ).bind _).bind k) P
      rw [e]
      exact this
    | false =>
      obtain ⟨ρ', e, b⟩ := h1.2 q
      rw [List.map_cons]
      show Nxt (((step (h a) ρ).bind _).bind k) P
      rw [e]
      exact ih b (fun z ρ hz => H z ρ (List.mem_cons_of_mem _ hz)) (fun z ρ' hz => K1 z ρ' (by rw [List.find?_cons, q]; exact hz)) (fun ρ' hz => K2 ρ' (by rw [List.find?_cons, q]; exact hz))
/-! ### marks -/
def isMrow : D → Int → Bool
  | .tuple ys, w => decide ((ys.length : Int) = w) && ys.all fun d => isNum d 0 2
  | _, _ => false
def isMarks : D → Int → Int → Bool
  | .tuple xs, w, h => decide ((xs.length : Int) = h) && xs.all fun d => isMrow d w
  | _, _, _ => false
abbrev Sp_is_marks (m : List D → Rs D) : Prop := ∀ (d : D) (w h : Int), d.canLay0 = true → w < 1000000 → m [d, .int w, .int h] = .ok (.bool (isMarks d w h))
theorem ok_is_marks {T : Tb} {fN gG gF : Nat} (hN : Sp_is_number (T.fn fN)) (hG : T.gl gG = .ok (.int 2)) (hF : T.gl gF = .ok (.int 0)) : Sp_is_marks (runD T 3 5 (B_is_marks fN gG gF)) := by
  intro d w h hd hw
  cases d with
  | dict => simp [PyData.canLay0] at hd
  | none => simp [runD, B_is_marks, isMarks]
  | bool => simp [runD, B_is_marks, isMarks]
  | int => simp [runD, B_is_marks, isMarks]
  | str => simp [runD, B_is_marks, isMarks]
  | list => simp [runD, B_is_marks, isMarks]
  | tuple xs =>
    simp only [PyData.canLay0] at hd
    by_cases hl : (xs.length : Int) = h
    · simp [runD, B_is_marks, isMarks, hl]
      refine for_testD (r := .bool false) (fun d => isMrow d w) (fun ρ => ∃ a b, ρ = [.fz (.tuple xs), .fz (.int w), .fz (.int h), a, b]) ⟨_, _, rfl⟩ ?_ ?_ ?_
      · rintro d _ hm ⟨a, b, rfl⟩
        have hdl := lay_mem hd hm
        refine ⟨_, ⟨.fz d, b, rfl⟩, ?_⟩
        cases d with
        | dict => simp [PyData.canLay0] at hdl
        | none => simp [isMrow]
        | bool => simp [isMrow]
        | int => simp [isMrow]
        | str => simp [isMrow]
        | list => simp [isMrow]
        | tuple ys =>
          simp only [PyData.canLay0] at hdl
          by_cases hy : (ys.length : Int) = w
          · simp [isMrow, hy]
            rw [cmpr_li .bool (fun d => isNum d 0 2) (map_id' ys) (by omega) fun a ha => by simp [turnD, hG, hF, hN _ _ _ (lay_mem hdl ha)]]
            cases q : ys.all fun d => isNum d 0 2 <;> simp [q] <;> simpa using q
          · simp [isMrow, hy]
      · rintro _ ⟨a, b, rfl⟩ q
        have q2 : (xs.all fun d => isMrow d w) = true := q
        simp [q2]
      · intro q
        have q2 : (xs.all fun d => isMrow d w) = false := q
        simp [q2]
    · simp [runD, B_is_marks, isMarks, hl]
structure Marks (w h : Nat) (t : List (List Int)) : Prop extends Rect w h t where
  cl : ∀ r ∈ t, ∀ c ∈ r, 0 ≤ c ∧ c ≤ 2
theorem isMrow_row {w : Nat} {r : List Int} (h : r.length = w) (hc : ∀ c ∈ r, 0 ≤ c ∧ c ≤ 2) : isMrow (row r) w = true := by
  unfold row tu isMrow
  simp only [List.length_map, h, decide_true, Bool.true_and, List.all_map, List.all_eq_true, Function.comp]
  intro c hm
  have := hc c hm
  simp [isNum, this.1, this.2]
theorem isMarks_pic {w h : Nat} {t : List (List Int)} (g : Marks w h t) : isMarks (pic t) w h = true := by
  show (decide _ && _) = true
  rw [Bool.and_eq_true, decide_eq_true_eq, List.length_map, g.hh]
  refine ⟨rfl, ?_⟩
  rw [List.all_map, List.all_eq_true]
  intro r hr
  exact isMrow_row (g.ww r hr) (g.cl r hr)
def freeV (p : List (List Int)) : List (List Int) := p.map fun r => r.map fun _ => 0
abbrev Sp_free_marks (m : List D → Rs D) : Prop := ∀ w h p, Rect w h p → w < 1000 → h < 1000 → m [pic p] = .ok (pic (freeV p))
theorem ok_free_marks {T : Tb} {gF : Nat} (hF : T.gl gF = .ok (.int 0)) : Sp_free_marks (runD T 1 3 (B_free_marks gF)) := by
  intro w h p g hw hh
  have h1 := g.hh
  simp [runD, B_free_marks]
  rw [cmpr_li row (fun r => r.map fun _ => (0 : Int)) rfl (by omega)]
  · simp [freeV]
  · intro r hr
    have := g.ww r hr
    simp [turnD]
    rw [cmpr_li .int (fun _ : Int => (0 : Int)) rfl (by omega) fun a ha => by simp [turnD, hF]]
    simp
theorem free_marks {w h : Nat} {p : List (List Int)} (g : Rect w h p) : Marks w h (freeV p) := by
  refine ⟨⟨by unfold freeV; rw [List.length_map, g.hh], fun r hr => ?_⟩, fun r hr c hc => ?_⟩
  · obtain ⟨r0, h0, rfl⟩ := List.mem_map.mp hr
    rw [List.length_map, g.ww r0 h0]
  · obtain ⟨r0, h0, rfl⟩ := List.mem_map.mp hr
    obtain ⟨_, _, rfl⟩ := List.mem_map.mp hc
    decide
abbrev Sp_marks_for (c : Nat) (m : List D → Rs D) : Prop := ∀ w h p d, Good w h p → d.canLay0 = true → m [pic p, d] = if isNo d = true then .ok (pic (freeV p)) else if isMarks d w h = true then .ok d else .ex (c, none)
theorem ok_marks_for {T : Tb} {fM cN fF : Nat} (hM : Sp_is_marks (T.fn fM)) (hc : cN < T.cls.length) (hF : Sp_free_marks (T.fn fF)) : Sp_marks_for cN (runD T 2 2 (B_marks_for fM cN fF)) := by
  intro w h p d g hd
  have h0 := g.row0
  have h1 := g.hh
  have h2 := g.h1
  have h3 := g.h2
  have w2 := g.w2
  cases e : isNo d with
  | true => simp [runD, B_marks_for, e, hF w h p g.toRect (by omega) (by omega)]
  | false =>
    have em : T.fn fM [d, .int w, .int h] = .ok (.bool (isMarks d w h)) := hM d w h hd (by omega)
    cases q : isMarks d w h <;> simp (disch := omega) [runD, B_marks_for, idx_tu, h0, h1, em, e, q, hc]
theorem marks_none {c : Nat} {m : List D → Rs D} (s : Sp_marks_for c m) {w h : Nat} {p : List (List Int)} (g : Good w h p) : m [pic p, .none] = .ok (pic (freeV p)) := by
  rw [s w h p _ g rfl]; rfl
theorem marks_pic {c : Nat} {m : List D → Rs D} (s : Sp_marks_for c m) {w h : Nat} {p t : List (List Int)} (g : Good w h p) (q : Marks w h t) : m [pic p, pic t] = .ok (pic t) := by
  rw [s w h p _ g (lay_pic t), isMarks_pic q]; rfl
/-- marks told, or left out -/
def mkD : Option (List (List Int)) → D := op pic
def mkV (p : List (List Int)) : Option (List (List Int)) → List (List Int)
  | none => freeV p
  | some t => t
def MkOk (w h : Nat) : Option (List (List Int)) → Prop
  | none => True
  | some t => Marks w h t
theorem mkV_marks {w h : Nat} {p : List (List Int)} (g : Rect w h p) {o : Option (List (List Int))} (q : MkOk w h o) : Marks w h (mkV p o) := by
  cases o with
  | none => exact free_marks g
  | some t => exact q
abbrev Sp_need_all (m : List D → Rs D) : Prop := ∀ w h p mn o, Good w h p → MkOk w h o → m [pic p, man mn, mkD o] = .ok (pic (mkV p o))
theorem ok_need_all {T : Tb} {fK fM fN c1 c2 c3 : Nat} (hK : Sp_marks_for c1 (T.fn fK)) (hM : Sp_need_manner c2 (T.fn fM)) (hN : Sp_need_picture c3 (T.fn fN)) : Sp_need_all (runD T 3 3 (B_need_all fK fM fN)) := by
  intro w h p mn o g q
  cases o with
  | none => simp [runD, B_need_all, need_pic hN g, need_man hM mn, mkD, op, marks_none hK g, mkV]
  | some t => simp [runD, B_need_all, need_pic hN g, need_man hM mn, mkD, op, marks_pic hK g q, mkV]
/-! ### the next ones, sums of pairs -/
def nexts (w : Int) (x : Int) : List Int := [x - 1, x, x + 1].filter fun t => decide (0 ≤ t) && decide (t < w)
theorem mem_nexts {w x t : Int} : t ∈ nexts w x ↔ (t = x - 1 ∨ t = x ∨ t = x + 1) ∧ 0 ≤ t ∧ t < w := by
  unfold nexts
  rw [List.mem_filter]
  simp
abbrev Sp_next_ones (m : List D → Rs D) : Prop := ∀ x w : Int, m [.int x, .int w] = .ok (li .int (nexts w x))
theorem ok_next_ones {T : Tb} : Sp_next_ones (runD T 2 3 B_next_ones) := by
  intro x w
  simp [runD, B_next_ones]
  rw [cmpr_fl (its := [.int (x - 1), .int x, .int (x + 1)]) (h := PyData.int) .int (fun t : Int => t) (fun t => decide (0 ≤ t) && decide (t < w)) (l := [x - 1, x, x + 1]) rfl (by simp) fun t _ => by
      simp [turnD]
      by_cases q : 0 ≤ t <;> by_cases r : t < w <;> simp [q, r]]
  simp [nexts]
def addP (a b : Int × Int) : Int × Int := (a.1 + b.1, a.2 + b.2)
abbrev pp : Int × Int → D := pr .int .int
abbrev opp : Option (Int × Int) → D := op pp
theorem enc_pp : Enc 2 pp := enc_int.pr enc_int
theorem enc_opp : Enc 2 opp := enc_pp.op (fun a => ⟨rfl, rfl⟩) (by omega)
@[simp] theorem eq_pp (i j : Int × Int) : cmpB .Eq (pp i) (pp j) = .ok (decide (i = j)) := eq_enc enc_pp (by decide) i j
@[simp] theorem ne_pp (i j : Int × Int) : cmpB .NotEq (pp i) (pp j) = .ok (!decide (i = j)) := ne_enc enc_pp (by decide) i j
@[simp] theorem ne_opp (i j : Option (Int × Int)) : cmpB .NotEq (opp i) (opp j) = .ok (!decide (i = j)) := ne_enc enc_opp (by decide) i j
@[simp] theorem eq_opp (i j : Option (Int × Int)) : cmpB .Eq (opp i) (opp j) = .ok (decide (i = j)) := eq_enc enc_opp (by decide) i j
def ltP (a b : Int × Int) : Bool := decide (a.1 < b.1 ∨ (a.1 = b.1 ∧ a.2 < b.2))
@[simp] theorem lt_pp (a b : Int × Int) : cmpB .Lt (pp a) (pp b) = .ok (ltP a b) := by
  show ltD (.tuple [.int a.1, .int a.2]) (.tuple [.int b.1, .int b.2]) = _
  simp only [ltD, PySem.W.dataLt_ii, PySem.W.alike, PySem.W.alikeAll, PyData.depth, PyData.depthAll]
  rfl
abbrev Sp_add (m : List D → Rs D) : Prop := ∀ a b, m [pp a, pp b] = .ok (pp (addP a b))
theorem ok_add {T : Tb} : Sp_add (runD T 2 2 B_add) := by
  intro a b
  have i0 : ∀ c : Int × Int, idxD (pp c) (.int 0) = .ok (.int c.1) := fun _ => rfl
  have i1 : ∀ c : Int × Int, idxD (pp c) (.int 1) = .ok (.int c.2) := fun _ => rfl
  simp [runD, B_add, i0, i1]
  rfl
end Rf
set_option Elab.async false
set_option linter.all false
set_option autoImplicit false
set_option maxHeartbeats 4000000
set_option maxRecDepth 100000
namespace Rf
open PySem L2
/-! ### the best ways down -/
structure Pics (w h : Nat) (ps : List (List (List Int))) : Prop where
  ne : ps ≠ []
  few : ps.length < 1000
  all : ∀ p ∈ ps, Rect w h p
  w1 : 1 ≤ w
  w2 : w ≤ 20
  h1 : 1 ≤ h
  h2 : h ≤ 20
theorem Good.pics {w h : Nat} {p : List (List Int)} (g : Good w h p) : Pics w h [p] := ⟨by simp, by simp, fun q hq => by rw [List.mem_singleton.mp hq]; exact g.toRect, g.w1, g.w2, g.h1, g.h2⟩
def stepsV (ps : List (List (List Int))) (mn : Bool) (x y : Int) (b : Option Int) : Int := (ps.map fun p => stepV mn p x y b).sum
def gone (t : List (List Int)) (x y : Int) : Int := -(if cell t x y = 2 then 1 else 0)
section
variable (w h : Nat) (ps : List (List (List Int))) (mn : Bool) (t : List (List Int))
def lastV : List (Option (Int × Int)) := (upI 0 w).map fun x => if cell t x ((h : Int) - 1) = 1 then none else some (gone t x ((h : Int) - 1), 0)
def hereV (b : Int × Int) (x there y : Int) : Int × Int := addP b (gone t x y, stepsV ps mn there (y + 1) (some x))
def betterV (best : Option (Int × Int)) (here : Int × Int) : Option (Int × Int) := match best with
  | none => some here
  | some z => if ltP here z = true then some here else some z
def turnV (below : List (Option (Int × Int))) (y x : Int) (best : Option (Int × Int)) (there : Int) : Option (Int × Int) := match getI below there with
  | none => best
  | some b => if cell t x y = 1 then best else betterV best (hereV ps mn t b x there y)
def cellV (below : List (Option (Int × Int))) (y x : Int) : Option (Int × Int) := (nexts w x).foldl (turnV ps mn t below y x) none
def rowV (below : List (Option (Int × Int))) (y : Int) : List (Option (Int × Int)) := (upI 0 w).map (cellV w ps mn t below y)
def dnRow : Nat → List (Option (Int × Int))
  | 0 => lastV w h t
  | k + 1 => rowV w ps mn t (dnRow k) ((h : Int) - 2 - (k : Nat))
def dnTab : Nat → List (List (Option (Int × Int)))
  | 0 => [dnRow w h ps mn t 0]
  | k + 1 => dnRow w h ps mn t (k + 1) :: dnTab k
theorem dnRow_len : ∀ k, (dnRow w h ps mn t k).length = w
  | 0 => by simp [dnRow, lastV]
  | k + 1 => by simp [dnRow, rowV]
theorem dnTab_len : ∀ k, (dnTab w h ps mn t k).length = k + 1
  | 0 => rfl
  | k + 1 => by simp [dnTab, dnTab_len k]
theorem dnTab_get : ∀ (k y : Nat), y ≤ k → getI (dnTab w h ps mn t k) (y : Int) = dnRow w h ps mn t (k - y)
  | 0, y, hy => by
    have : y = 0 := by omega
    subst this
    exact getI_zero _ _
  | k + 1, 0, hy => getI_zero _ _
  | k + 1, y + 1, hy => by
    show getI (dnRow w h ps mn t (k + 1) :: dnTab w h ps mn t k) ((y + 1 : Nat) : Int) = _
    rw [getI_cons_succ, dnTab_get k y (by omega), show k + 1 - (y + 1) = k - y by omega]
theorem dnTab_head (k : Nat) : getI (dnTab w h ps mn t k) 0 = dnRow w h ps mn t k := dnTab_get w h ps mn t k 0 (by omega)
end
theorem steps_sum {T : Tb} {fS : Nat} (hS : Sp_step_cost (T.fn fS)) {w h : Nat} {ps : List (List (List Int))} (g : Pics w h ps) {mn : Bool} {x y : Int} {b : Option Int} (h1 : 0 ≤ x) (h2 : x < (w : Int)) (h3 : 0 ≤ y) (h4 : y < (h : Int)) (hb : ∀ z, b = some z → 1 ≤ y ∧ 0 ≤ z ∧ z < (w : Int)) {F : D → Rs (Option D)}
    (hF : ∀ p ∈ ps, F (pic p) = (T.fn fS [pic p, .int x, .int y, bef b, man mn]).map some) : cmpR F (ps.map pic) = .ok (li .int (ps.map fun p => stepV mn p x y b)) :=
  cmpr_li .int (fun p => stepV mn p x y b) rfl (by have := g.few; omega) fun p hp => by rw [hF p hp, hS w h p x y b mn (g.all p hp) h1 h2 h3 h4 hb]; rfl
@[simp] theorem isNo_opp (o : Option (Int × Int)) : isNo (opp o) = o.isNone := isNo_op (fun _ => rfl) o
abbrev Sp_downs (m : List D → Rs D) : Prop := ∀ w h ps mn t, Pics w h ps → Rect w h t → m [li pic ps, man mn, pic t] = .ok (li (li opp) (dnTab w h ps mn t (h - 1)))
theorem ok_downs {T : Tb} {fN gK fA gG fS : Nat} (hN : Sp_next_ones (T.fn fN)) (hK : T.gl gK = .ok (.int 1)) (hA : Sp_add (T.fn fA)) (hG : T.gl gG = .ok (.int 2)) (hS : Sp_step_cost (T.fn fS)) : Sp_downs (runD T 3 15 (B_downs fN gK fA gG fS)) := by
  intro w h ps mn t g q
  have w1 := g.w1; have w2 := g.w2; have h1 := g.h1; have h2 := g.h2; have hf := g.few
  have hp0 : 0 < ps.length := List.length_pos_iff.mpr g.ne
  have g0 := g.all (getI ps 0) (getI_mem (by omega) (by omega))
  have r0 := g0.row (y := 0) (by omega) (by omega)
  have r1 := g0.hh
  have ht := q.hh
  simp (disch := omega) [runD, B_downs, idx_li, idx_tu, r0, r1, it_rng1]
  have rt := q.row (y := (h : Int) - 1) (by omega) (by omega)
  rw [cmpr_li opp (fun x => if cell t x ((h : Int) - 1) = 1 then none else some (gone t x ((h : Int) - 1), 0)) rfl (by simp; omega)]
  rotate_left
  · intro x hx
    have hx := mem_upI.mp hx
    simp (disch := omega) [turnD, idx_tu, rt, hK, hG]
    show _ = _
    unfold gone cell
    by_cases e1 : getI (getI t ((h : Int) - 1)) x = 1
    · simp [e1, op]
    · by_cases e2 : getI (getI t ((h : Int) - 1)) x = 2
      · simp [e2, op, pr]
      · simp [e1, e2, op, pr]
  have el : (li opp ((upI 0 w).map fun x => if cell t x ((h : Int) - 1) = 1 then none else some (gone t x ((h : Int) - 1), 0))) = li opp (dnRow w h ps mn t 0) := rfl
  simp (disch := omega) [el, it_rng3]
  rw [show ((h : Int) - 2 + 1).toNat = h - 1 by omega]
  refine for_end (fun pre ρ => ∃ z6 z7 z8 z9 z10 z11 z12 z13 z14, ρ = [.fz (li pic ps), .fz (man mn), .fz (pic t), .fz (.int w), .fz (.int h), .fz (li (li opp) (dnTab w h ps mn t pre.length)), z6, z7, z8, z9, z10, z11, z12, z13, z14]) ⟨_, _, _, _, _, _, _, _, _, rfl⟩ ?_ ?_
  · rintro pre y suf _ ep ⟨z6, z7, z8, z9, z10, z11, z12, z13, z14, rfl⟩
    obtain ⟨hl, hy⟩ := pre_len ep
    rw [len_downI] at hl
    have hy2 := mem_downI.mp hy
    have ey : y = (h : Int) - 2 - (pre.length : Nat) := by
      have h3 : (downI ((h : Int) - 2) (h - 1))[pre.length]? = some y := by rw [ep]; simp
      unfold downI at h3
      rw [List.getElem?_map, List.getElem?_range hl] at h3
      simpa using h3.symm
    have tl := dnTab_len w h ps mn t pre.length
    have th := dnTab_head w h ps mn t pre.length
    have dl := dnRow_len w h ps mn t pre.length
    have rty := q.row (y := y) (by omega) (by omega)
    show Nxt _ _
    simp (disch := omega) [idx_li, tl, th, it_rng1, -exists_and_left]
    refine for_nxt (fun prx ρ => ∃ z9 z10 z11 z12 z13 z14, ρ = [.fz (li pic ps), .fz (man mn), .fz (pic t), .fz (.int w), .fz (.int h), .fz (li (li opp) (dnTab w h ps mn t pre.length)), .fz (.int y), .fz (li opp (dnRow w h ps mn t pre.length)), .ow ((prx.map (cellV w ps mn t (dnRow w h ps mn t pre.length) y)).map opp), z9, z10, z11, z12, z13, z14]) ⟨_, _, _, _, _, _, rfl⟩ ?_ ?_
    · rintro prx x sufx _ epx ⟨z9, z10, z11, z12, z13, z14, rfl⟩
      obtain ⟨hlx, hx⟩ := pre_len epx
      rw [len_upI] at hlx
      have hx := mem_upI.mp hx
      simp (disch := omega) [hN x w, -List.map_map, -List.map_append]
      refine for_fold (fun best ρ => ∃ z11 z12 z13 z14, ρ = [.fz (li pic ps), .fz (man mn), .fz (pic t), .fz (.int w), .fz (.int h), .fz (li (li opp) (dnTab w h ps mn t pre.length)), .fz (.int y), .fz (li opp (dnRow w h ps mn t pre.length)), .ow ((prx.map (cellV w ps mn t (dnRow w h ps mn t pre.length) y)).map opp), .fz (.int x), .fz (opp best), z11, z12, z13, z14]) (turnV ps mn t (dnRow w h ps mn t pre.length) y x) none ⟨_, _, _, _, rfl⟩ ?_ ?_
      · rintro best there _ hth ⟨z11, z12, z13, z14, rfl⟩
        have hth := mem_nexts.mp hth
        generalize dnRow w h ps mn t pre.length = below at *
        simp (disch := omega) [idx_li, dl, idx_tu, rty, hK, -List.map_map]
        unfold turnV
        cases eb : getI below there with
        | none => simp; exact nxt_ok ⟨_, _, _, _, rfl⟩
        | some bb =>
          by_cases ek : getI (getI t y) x = 1
          · simp [ek, cell]; exact nxt_ok ⟨_, _, _, _, rfl⟩
          · simp [ek, cell, -List.map_map]
            rw [steps_sum hS g (mn := mn) (x := there) (y := y + 1) (b := some x) (by omega) (by omega) (by omega) (by omega) (fun z e => by cases e; omega)]
            rotate_left
            · intro p hp
              simp [turnD]
              rfl
            have eh : ∀ c : Int, T.fn fA [opp (some bb), .tuple [.int (-(if getI (getI t y) x = 2 then 1 else 0)), .int c]] = .ok (pp (addP bb (gone t x y, c))) := fun c => hA bb (gone t x y, c)
            simp (disch := omega) [idx_tu, idx_li, dl, rty, hG, eb, eh, -List.map_map]
            cases best with
            | none => simp [betterV, op, -List.map_map]; exact nxt_ok ⟨_, _, _, _, rfl⟩
            | some z =>
              have e2 : opp (some z) = pp z := rfl
              cases el2 : ltP (addP bb (gone t x y, (ps.map fun p => stepV mn p there (y + 1) (some x)).sum)) z <;> simp [betterV, e2, hereV, stepsV, el2, -List.map_map] <;> exact nxt_ok ⟨_, _, _, _, rfl⟩
      · rintro _ ⟨z11, z12, z13, z14, rfl⟩
        have : prx.length + 1 < 1000000 := by omega
        simp (disch := omega) [grdFew, -List.map_map, -List.map_append]
        exact nxt_ok ⟨_, _, _, _, _, _, by rw [List.map_append, List.map_append]; rfl⟩
    · rintro _ ⟨z9, z10, z11, z12, z13, z14, rfl⟩
      simp (disch := omega) [-List.map_map, -List.map_append]
      have e1 : binD .Add (.list [.list (((upI 0 w).map (cellV w ps mn t (dnRow w h ps mn t pre.length) y)).map opp)]) (li (li opp) (dnTab w h ps mn t pre.length)) = .ok (li (li opp) (dnTab w h ps mn t (pre.length + 1))) := by
        have := add_li (li opp) [dnRow w h ps mn t (pre.length + 1)] (dnTab w h ps mn t pre.length) (by simp only [List.length_singleton]; omega)
        rw [ey]
        exact this
      simp (disch := omega) [e1, -List.map_map, -List.map_append]
      exact nxt_ok ⟨_, _, _, _, _, _, _, _, _, rfl⟩
  · rintro _ ⟨z6, z7, z8, z9, z10, z11, z12, z13, z14, rfl⟩
    simp
end Rf
set_option Elab.async false
set_option linter.all false
set_option autoImplicit false
set_option maxHeartbeats 4000000
set_option maxRecDepth 100000
namespace Rf
open PySem L2
/-! ### where ways start -/
def startsV (w : Nat) (ps : List (List (List Int))) (mn : Bool) (top : List (Option (Int × Int))) : List (Option (Int × Int)) := (upI 0 w).map fun x => (getI top x).map fun b => addP b (0, stepsV ps mn x 0 none)
theorem enum_map {α β : Type} [Inhabited α] (l : List α) (f : Int × α → β) : ((upI 0 l.length).zip l).map f = (upI 0 l.length).map fun x => f (x, getI l x) := by
  apply List.ext_getElem?
  intro i
  rw [List.getElem?_map, List.getElem?_map]
  by_cases h : i < l.length
  · have e1 : (upI 0 l.length)[i]? = some (i : Int) := by
      unfold upI
      rw [List.getElem?_map, List.getElem?_range h]; simp
    have e2 : ((upI 0 l.length).zip l)[i]? = some ((i : Int), l[i]) := by
      rw [List.getElem?_zip_eq_some]
      exact ⟨e1, List.getElem?_eq_getElem h⟩
    have e3 : getI l (i : Int) = l[i] := by rw [getI_nat, List.getD_eq_getElem?_getD, List.getElem?_eq_getElem h]; rfl
    rw [e1, e2]
    simp only [Option.map_some, e3]
  · rw [List.getElem?_eq_none (by simp; omega), List.getElem?_eq_none (by simp; omega)]
    rfl
abbrev Sp_starts (m : List D → Rs D) : Prop := ∀ w h ps mn (tb : List (List (Option (Int × Int)))), Pics w h ps → 1 ≤ tb.length → (getI tb 0).length = w → m [li pic ps, man mn, li (li opp) tb] = .ok (li opp (startsV w ps mn (getI tb 0)))
theorem ok_starts {T : Tb} {fA fS : Nat} (hA : Sp_add (T.fn fA)) (hS : Sp_step_cost (T.fn fS)) : Sp_starts (runD T 3 8 (B_starts fA fS)) := by
  intro w h ps mn tb g ht hw
  have w1 := g.w1; have w2 := g.w2; have h1 := g.h1; have h2 := g.h2; have hf := g.few
  simp (disch := omega) [runD, B_starts, idx_li, hw]
  refine for_end (fun pre ρ => ∃ z4 z5 z6 z7, ρ = [.fz (li pic ps), .fz (man mn), .fz (li (li opp) tb), .ow ((pre.map fun q : Int × Option (Int × Int) => q.2.map fun b => addP b (0, stepsV ps mn q.1 0 none)).map opp), z4, z5, z6, z7]) ⟨_, _, _, _, rfl⟩ ?_ ?_
  · rintro pre ⟨x, b⟩ suf _ ep ⟨z4, z5, z6, z7, rfl⟩
    obtain ⟨hl, hm⟩ := pre_len ep
    have hx := mem_upI.mp (List.of_mem_zip hm).1
    rw [List.length_zip, len_upI] at hl
    simp [pr, -List.map_map, -List.map_append]
    rw [steps_sum hS g (mn := mn) (x := x) (y := 0) (b := none) (by omega) (by omega) (by omega) (by omega) (fun z e => nomatch e)]
    rotate_left
    · intro p hp
      simp [turnD]
      rfl
    cases b with
    | none =>
      simp (disch := omega) [op, grdFew, -List.map_map, -List.map_append]
      exact nxt_ok ⟨_, _, _, _, by rw [List.map_append, List.map_append]; rfl⟩
    | some b =>
      have ea : ∀ c : Int, T.fn fA [opp (some b), .tuple [.int 0, .int c]] = .ok (pp (addP b (0, c))) := fun c => hA b (0, c)
      simp (disch := omega) [ea, grdFew, -List.map_map, -List.map_append]
      exact nxt_ok ⟨_, _, _, _, by rw [List.map_append, List.map_append]; rfl⟩
  · rintro _ ⟨z4, z5, z6, z7, rfl⟩
    have := enum_map (getI tb 0) fun q : Int × Option (Int × Int) => q.2.map fun b => addP b (0, stepsV ps mn q.1 0 none)
    rw [hw] at this
    rw [this]
    simp [-List.map_map]
    rfl
/-! ### least, places -/
theorem alk_map {α : Type} {f : α → D} (h : ∀ a b, PySem.W.alike (f a) (f b) = true) (hn : ∀ a, isNo (f a) = false) (l : List α) : alkB (l.map f) = true := by
  unfold alkB
  rw [List.all_map, List.all_eq_true]
  intro a _
  show ((l.map f).all _ && _) = true
  rw [List.all_map, Bool.and_eq_true, List.all_eq_true]
  refine ⟨fun b _ => h a b, ?_⟩
  have := hn a
  revert this
  cases f a <;> intro q <;> first | rfl | cases q
theorem best_map {α : Type} {n : Nat} {f : α → D} (e : Enc n f) (hn : n ≤ 60) (h : ∀ a b, PySem.W.alike (f a) (f b) = true) (hi : ∀ a, isNo (f a) = false) (F : D → List D → D) (x : α) (xs : List α) : bestD F ((x :: xs).map f) = .ok (F (f x) (xs.map f)) := by
  show grd (alkB ((x :: xs).map f) && (PyData.canLayAll0 ((x :: xs).map f) && Nat.ble (PyData.depthAll ((x :: xs).map f)) 60)) _ = _
  have e3 : Nat.ble (PyData.depthAll ((x :: xs).map f)) 60 = true := by
    rw [Nat.ble_eq]
    have := depAll_map e (x :: xs)
    omega
  rw [alk_map h hi, layAll_map e, e3]; rfl
/-- the least, the greatest, by an order -/
def minBy {α : Type} (lt : α → α → Bool) (x : α) (xs : List α) : α := xs.foldl (fun a y => if lt y a = true then y else a) x
def maxBy {α : Type} (lt : α → α → Bool) (x : α) (xs : List α) : α := xs.foldl (fun a y => if lt a y = true then y else a) x
theorem minD_by {α : Type} {f : α → D} {lt : α → α → Bool} (h : ∀ a b, PySem.W.dataLt (f a) (f b) = lt a b) : ∀ (xs : List α) (x : α), PySem.W.minD (f x) (xs.map f) = f (minBy lt x xs)
  | [], _ => rfl
  | y :: xs, x => by
    have := minD_by h xs (if lt y x = true then y else x)
    unfold PySem.W.minD minBy at *
    rw [List.map_cons, List.foldl_cons, List.foldl_cons, h, ← this]
    cases lt y x <;> rfl
theorem maxD_by {α : Type} {f : α → D} {lt : α → α → Bool} (h : ∀ a b, PySem.W.dataLt (f a) (f b) = lt a b) : ∀ (xs : List α) (x : α), PySem.W.maxD (f x) (xs.map f) = f (maxBy lt x xs)
  | [], _ => rfl
  | y :: xs, x => by
    have := maxD_by h xs (if lt x y = true then y else x)
    unfold PySem.W.maxD maxBy at *
    rw [List.map_cons, List.foldl_cons, List.foldl_cons, h, ← this]
    cases lt x y <;> rfl
theorem alike_pp (a b : Int × Int) : PySem.W.alike (pp a) (pp b) = true := by
  show PySem.W.alike (.tuple [.int a.1, .int a.2]) (.tuple [.int b.1, .int b.2]) = true
  simp only [PySem.W.alike, PySem.W.alikeAll]; rfl
theorem dataLt_pp (a b : Int × Int) : PySem.W.dataLt (pp a) (pp b) = ltP a b := PySem.W.dataLt_ii _ _ _ _
theorem min_pp (x : Int × Int) (xs : List (Int × Int)) : bclD .min [li pp (x :: xs)] = .ok (pp (minBy ltP x xs)) := by
  show bestD PySem.W.minD ((x :: xs).map pp) = _
  rw [best_map enc_pp (by decide) alike_pp (fun _ => rfl), minD_by dataLt_pp]
theorem alike_int (a b : Int) : PySem.W.alike (.int a) (.int b) = true := by simp only [PySem.W.alike]
def ltI (a b : Int) : Bool := decide (a < b)
theorem dataLt_intI (a b : Int) : PySem.W.dataLt (.int a) (.int b) = ltI a b := PySem.W.dataLt_int _ _
theorem min_ints (x : Int) (xs : List Int) : bclD .min [li .int (x :: xs)] = .ok (.int (minBy ltI x xs)) := by
  show bestD PySem.W.minD ((x :: xs).map .int) = _
  rw [best_map enc_int (by decide) alike_int (fun _ => rfl), minD_by dataLt_intI]
theorem max_ints (x : Int) (xs : List Int) : bclD .max [li .int (x :: xs)] = .ok (.int (maxBy ltI x xs)) := by
  show bestD PySem.W.maxD ((x :: xs).map .int) = _
  rw [best_map enc_int (by decide) alike_int (fun _ => rfl), maxD_by dataLt_intI]
theorem max_row (x : Int) (xs : List Int) : bclD .max [row (x :: xs)] = .ok (.int (maxBy ltI x xs)) := by
  show bestD PySem.W.maxD ((x :: xs).map .int) = _
  rw [best_map enc_int (by decide) alike_int (fun _ => rfl), maxD_by dataLt_intI]
theorem min_row (x : Int) (xs : List Int) : bclD .min [row (x :: xs)] = .ok (.int (minBy ltI x xs)) := by
  show bestD PySem.W.minD ((x :: xs).map .int) = _
  rw [best_map enc_int (by decide) alike_int (fun _ => rfl), minD_by dataLt_intI]
/-- the place of the first that is equal -/
def plc {α : Type} [DecidableEq α] (a : α) : List α → Nat
  | [] => 0
  | x :: xs => if x = a then 0 else plc a xs + 1
theorem plc_lt {α : Type} [DecidableEq α] {a : α} : ∀ {l : List α}, a ∈ l → plc a l < l.length
  | x :: xs, hm => by
    unfold plc
    by_cases q : x = a
    · rw [if_pos q, List.length_cons]; omega
    · rw [if_neg q, List.length_cons]
      have := plc_lt (a := a) (l := xs) (by rcases List.mem_cons.mp hm with z | z; exact absurd z.symm q; exact z)
      omega
theorem plc_get {α : Type} [DecidableEq α] [Inhabited α] {a : α} : ∀ {l : List α}, a ∈ l → getI l (plc a l : Nat) = a ∧ ∀ j : Nat, j < plc a l → getI l (j : Nat) ≠ a
  | x :: xs, hm => by
    unfold plc
    by_cases q : x = a
    · rw [if_pos q]; exact ⟨by rw [← q]; exact getI_zero _ _, fun j hj => absurd hj (by omega)⟩
    · rw [if_neg q]
      obtain ⟨h1, h2⟩ := plc_get (a := a) (l := xs) (by rcases List.mem_cons.mp hm with z | z; exact absurd z.symm q; exact z)
      refine ⟨by rw [getI_cons_succ]; exact h1, fun j hj => ?_⟩
      cases j with
      | zero => rw [show ((0 : Nat) : Int) = 0 from rfl, getI_zero]; exact q
      | succ j => rw [getI_cons_succ]; exact h2 j (by omega)
theorem place_map {α : Type} [DecidableEq α] {n : Nat} {f : α → D} (e : Enc n f) (a : α) : ∀ {l : List α}, a ∈ l → placeD (f a) (l.map f) = some (plc a l)
  | x :: l, hm => by
    rw [List.map_cons]
    unfold placeD
    by_cases q : x = a
    · subst q
      rw [if_pos ((e.eqv x x).mpr rfl)]
      unfold plc
      rw [if_pos rfl]
    · have q2 : PyData.eqv (f x) (f a) ≠ true := fun z => q ((e.eqv x a).mp z)
      rw [if_neg q2, place_map e a (by rcases List.mem_cons.mp hm with z | z; exact absurd z.symm q; exact z)]
      show _ = some (if x = a then 0 else plc a l + 1)
      rw [if_neg q]; rfl
theorem index_li {α : Type} [DecidableEq α] {n : Nat} {f : α → D} (e : Enc n f) (hn : n + 1 ≤ 64) {a : α} {l : List α} (hm : a ∈ l) : metD .index (li f l) [f a] = .ok (.int (plc a l : Nat)) := by
  show indexD (.list (l.map f)) [f a] = _
  unfold indexD
  dsimp only
  rw [place_map e a hm, show SeqAt.shaped (PyData.list (l.map f)) = true from shaped_enc e.li hn l, shaped_enc e (by omega) a]; rfl
@[simp] theorem metOk_li {α : Type} (f : α → D) (l : List α) : metOk .index (li f l) = true := id rfl
/-! ### the best way -/
section
variable (w h : Nat) (ps : List (List (List Int))) (mn : Bool) (t : List (List Int))
def fitsV (tb : List (List (Option (Int × Int)))) (y x there : Int) : Bool := match getI (getI tb (y + 1)) there with
  | none => false
  | some b => decide (some (hereV ps mn t b x there y) = getI (getI tb y) x)
def goV (tb : List (List (Option (Int × Int)))) (seam : List Int) (y : Int) : List Int := match (nexts w (getI seam (-1))).find? (fitsV ps mn t tb y (getI seam (-1))) with
  | some there => seam ++ [there]
  | none => seam
def bwV : Option (List Int) := match (startsV w ps mn (dnRow w h ps mn t (h - 1))).filterMap id with
  | [] => none
  | x :: xs => some ((upI 0 (h - 1)).foldl (goV w ps mn t (dnTab w h ps mn t (h - 1))) [(plc (some (minBy ltP x xs)) (startsV w ps mn (dnRow w h ps mn t (h - 1))) : Nat)])
end
theorem filter_some {α : Type} {f : α → D} : ∀ l : List (Option α), ((l.filter fun o => o.isSome).map fun o => o).map (op f) = (l.filterMap id).map f
  | [] => rfl
  | none :: l => by simpa using filter_some (f := f) l
  | some a :: l => by
    have := filter_some (f := f) l
    simp only [List.filter_cons, Option.isSome_some, if_true, List.map_cons, List.filterMap_cons, id, this]
    rfl
theorem minBy_mem {α : Type} (lt : α → α → Bool) : ∀ (xs : List α) (x : α), minBy lt x xs ∈ x :: xs
  | [], x => List.mem_cons_self
  | y :: xs, x => by
    have := minBy_mem lt xs (if lt y x = true then y else x)
    show minBy lt (if lt y x = true then y else x) xs ∈ _
    rcases List.mem_cons.mp this with e | e
    · rw [e]
      by_cases q : lt y x = true
      · rw [if_pos q]; simp
      · rw [if_neg q]; simp
    · exact List.mem_cons_of_mem _ (List.mem_cons_of_mem _ e)
abbrev Sp_best_way (m : List D → Rs D) : Prop := ∀ w h ps mn t, Pics w h ps → Rect w h t → m [li pic ps, man mn, pic t] = .ok (op row (bwV w h ps mn t))
theorem ok_best_way {T : Tb} {fN fA gG fS fSt fD : Nat} (hN : Sp_next_ones (T.fn fN)) (hA : Sp_add (T.fn fA)) (hG : T.gl gG = .ok (.int 2)) (hS : Sp_step_cost (T.fn fS)) (hSt : Sp_starts (T.fn fSt)) (hD : Sp_downs (T.fn fD)) : Sp_best_way (runD T 3 14 (B_best_way fN fA gG fS fSt fD)) := by
  intro w h ps mn t g q
  have w1 := g.w1; have w2 := g.w2; have h1 := g.h1; have h2 := g.h2; have hf := g.few
  have ht := q.hh
  have tl := dnTab_len w h ps mn t (h - 1)
  have th := dnTab_head w h ps mn t (h - 1)
  have dl := dnRow_len w h ps mn t (h - 1)
  have rl : ∀ y : Int, 0 ≤ y → y < (h : Int) → (getI (dnTab w h ps mn t (h - 1)) y).length = w := fun y y1 y2 => by
    obtain ⟨k, rfl⟩ := Int.eq_ofNat_of_zero_le y1
    rw [dnTab_get _ _ _ _ _ _ _ (by omega)]; exact dnRow_len _ _ _ _ _ _
  have es := hSt w h ps mn (dnTab w h ps mn t (h - 1)) g (by omega) (by rw [th]; exact dl)
  rw [th] at es
  unfold bwV
  simp (disch := omega) [runD, B_best_way, hD w h ps mn t g q, idx_li, tl, th, dl, es]
  have fl : (startsV w ps mn (dnRow w h ps mn t (h - 1))).length = w := by simp [startsV]
  generalize dnTab w h ps mn t (h - 1) = tb at *
  generalize startsV w ps mn (dnRow w h ps mn t (h - 1)) = first at *
  rw [cmpr_fl opp (fun o => o) (fun o : Option (Int × Int) => o.isSome) rfl (by omega)]
  rotate_left
  · intro o _
    cases o <;> simp [turnD]
  have ef : li opp ((first.filter fun o => o.isSome).map fun o => o) = li pp (first.filterMap id) := by
    unfold li
    rw [filter_some]
  rw [ef]
  cases eq : first.filterMap id with
  | nil => simp [eq_nilL pp _ 2 enc_pp (by decide), op]
  | cons x xs =>
    have hm : some (minBy ltP x xs) ∈ first := by
      have := minBy_mem ltP xs x
      rw [← eq, List.mem_filterMap] at this
      obtain ⟨o, ho, e⟩ := this
      have e : o = some (minBy ltP x xs) := e
      rw [← e]; exact ho
    have ei : metD .index (li opp first) [pp (minBy ltP x xs)] = .ok (.int (plc (some (minBy ltP x xs)) first : Nat)) := index_li (f := opp) enc_opp (by decide) hm
    have hi := plc_lt hm
    simp (disch := omega) [eq_nilL pp _ 2 enc_pp (by decide), min_pp, ei, tl, it_rng1]
    generalize plc (some (minBy ltP x xs)) first = x0 at *
    have inv : ∀ (pre : List Int) (s : List Int), s ≠ [] → (∀ x ∈ s, 0 ≤ x ∧ x < (w : Int)) → (pre.foldl (goV w ps mn t tb) s ≠ [] ∧ (∀ x ∈ pre.foldl (goV w ps mn t tb) s, 0 ≤ x ∧ x < (w : Int)) ∧ (pre.foldl (goV w ps mn t tb) s).length ≤ s.length + pre.length) := by
      intro pre
      induction pre with
      | nil => exact fun s a b => ⟨a, b, by simp⟩
      | cons y pre ih =>
        intro s a b
        have : goV w ps mn t tb s y ≠ [] ∧ (∀ x ∈ goV w ps mn t tb s y, 0 ≤ x ∧ x < (w : Int)) ∧ (goV w ps mn t tb s y).length ≤ s.length + 1 := by
          unfold goV
          split
          · rename_i there hth
            have := mem_nexts.mp (List.mem_of_find?_eq_some hth)
            refine ⟨by simp, fun x hx => ?_, by simp⟩
            rcases List.mem_append.mp hx with hx | hx
            · exact b x hx
            · rw [List.mem_singleton.mp hx]; exact this.2
          · exact ⟨a, b, by omega⟩
        obtain ⟨i1, i2, i3⟩ := ih _ this.1 this.2.1
        exact ⟨i1, i2, by rw [List.foldl_cons, List.length_cons]; omega⟩
    refine for_end (fun pre ρ => ∃ z8 z9 z10 z11, ρ = [.fz (li pic ps), .fz (man mn), .fz (pic t), .fz (li (li opp) tb), .fz (.int w), .fz (li opp first), .fz (li pp (x :: xs)), .ow ((pre.foldl (goV w ps mn t tb) [(x0 : Int)]).map .int), z8, z9, z10, z11, .un, .un]) ⟨_, _, _, _, rfl⟩ ?_ ?_
    · rintro pre y suf _ ep ⟨z8, z9, z10, z11, rfl⟩
      obtain ⟨hl, hy⟩ := pre_len ep
      rw [len_upI] at hl
      have hy := mem_upI.mp hy
      obtain ⟨i1, i2, i3⟩ := inv pre [(x0 : Int)] (by simp) (fun z hz => by rw [List.mem_singleton.mp hz]; omega)
      rw [List.length_singleton] at i3
      rw [List.foldl_append, List.foldl_cons, List.foldl_nil]
      generalize pre.foldl (goV w ps mn t tb) [(x0 : Int)] = seam at *
      have sl : 0 < seam.length := List.length_pos_iff.mpr i1
      have lr := i2 (getI seam (-1)) (getI_mem (by omega) (by omega))
      have el : idxD (.list (seam.map PyData.int)) (.int (-1)) = .ok (.int (getI seam (-1))) := idx_li PyData.int _ (by omega) (by omega)
      have ry := rl y (by omega) (by omega)
      have ry1 := rl (y + 1) (by omega) (by omega)
      have rty := q.row (y := y) (by omega) (by omega)
      simp (disch := omega) [el, hN]
      have hgo : goV w ps mn t tb seam y = match (nexts w (getI seam (-1))).find? (fitsV ps mn t tb y (getI seam (-1))) with
        | some there => seam ++ [there]
        | none => seam := rfl
      rw [hgo]
      generalize getI seam (-1) = xl at *
      refine for_find (fitsV ps mn t tb y xl) (fun ρ => ∃ z10 z11, ρ = [.fz (li pic ps), .fz (man mn), .fz (pic t), .fz (li (li opp) tb), .fz (.int w), .fz (li opp first), .fz (li pp (x :: xs)), .ow (seam.map .int), .fz (.int y), .fz (.int xl), z10, z11, .un, .un]) (fun there ρ => ∃ z10 z11, ρ = [.fz (li pic ps), .fz (man mn), .fz (pic t), .fz (li (li opp) tb), .fz (.int w), .fz (li opp first), .fz (li pp (x :: xs)), .ow ((seam ++ [there]).map .int), .fz (.int y), .fz (.int xl), z10, z11, .un, .un]) ⟨_, _, rfl⟩ ?_ ?_ ?_
      · rintro there _ hth ⟨z10, z11, rfl⟩
        have hth := mem_nexts.mp hth
        cases eb : getI (getI tb (y + 1)) there with
        | none =>
          have ev : fitsV ps mn t tb y xl there = false := by unfold fitsV; rw [eb]
          refine ⟨fun e => absurd (ev.symm.trans e) Bool.false_ne_true, fun _ => ?_⟩
          simp (disch := omega) [idx_li, tl, ry1, eb, -List.map_append]
          exact nxt_ok ⟨_, _, rfl⟩
        | some bb =>
          have ev : fitsV ps mn t tb y xl there = decide (some (hereV ps mn t bb xl there y) = getI (getI tb y) xl) := by unfold fitsV; rw [eb]
          have es := fun F hF => steps_sum (F := F) hS g (mn := mn) (x := there) (y := y + 1) (b := some xl) (by omega) (by omega) (by omega) (by omega) (fun z e => by cases e; omega) hF
          have eh : ∀ c : Int, T.fn fA [opp (some bb), .tuple [.int (-(if getI (getI t y) xl = 2 then 1 else 0)), .int c]] = .ok (pp (addP bb (gone t xl y, c))) := fun c => hA bb (gone t xl y, c)
          have ee : ∀ (c : Int × Int) (o : Option (Int × Int)), cmpB .Eq (pp c) (opp o) = .ok (decide (some c = o)) := fun c o => eq_opp (some c) o
          have hh : addP bb (gone t xl y, (ps.map fun p => stepV mn p there (y + 1) (some xl)).sum) = hereV ps mn t bb xl there y := rfl
          constructor
          · intro q1
            rw [ev] at q1
            simp (disch := omega) [idx_li, tl, ry1, ry, eb, -List.map_append]
            rw [es]
            · simp (disch := omega) [idx_tu, idx_li, ry1, ry, tl, rty, hG, eb, eh, ee, hh, q1, grdFew, -List.map_append]
              exact bks_ok ⟨_, _, by rw [List.map_append]; rfl⟩
            · intro p hp
              simp [turnD]
              rfl
          · intro q1
            rw [ev] at q1
            simp (disch := omega) [idx_li, tl, ry1, ry, eb, -List.map_append]
            rw [es]
            · simp (disch := omega) [idx_tu, idx_li, ry1, ry, tl, rty, hG, eb, eh, ee, hh, q1, grdFew, -List.map_append]
              exact nxt_ok ⟨_, _, rfl⟩
            · intro p hp
              simp [turnD]
              rfl
      · rintro there _ hth ⟨z10, z11, rfl⟩
        rw [hth]
        exact nxt_ok ⟨_, _, _, _, rfl⟩
      · rintro _ hth ⟨z10, z11, rfl⟩
        rw [hth]
        exact nxt_ok ⟨_, _, _, _, rfl⟩
    · rintro _ ⟨z8, z9, z10, z11, rfl⟩
      simp [op]
      rfl
end Rf
set_option Elab.async false
set_option linter.all false
set_option autoImplicit false
set_option maxHeartbeats 2000000
set_option maxRecDepth 100000
namespace Rf
open PySem L2
/-! ### the order of pairs -/
def leP (a b : Int × Int) : Prop := a.1 < b.1 ∨ (a.1 = b.1 ∧ a.2 ≤ b.2)
theorem ltP_iff {a b : Int × Int} : ltP a b = true ↔ a.1 < b.1 ∨ (a.1 = b.1 ∧ a.2 < b.2) := by unfold ltP; rw [decide_eq_true_eq]
theorem ltP_false {a b : Int × Int} : ltP a b = false ↔ leP b a := by
  unfold ltP leP
  rw [decide_eq_false_iff_not]
  omega
theorem leP_refl (a : Int × Int) : leP a a := .inr ⟨rfl, Int.le_refl _⟩
theorem leP_trans {a b c : Int × Int} (h : leP a b) (k : leP b c) : leP a c := by unfold leP at *; omega
theorem leP_antisymm {a b : Int × Int} (h : leP a b) (k : leP b a) : a = b := by
  unfold leP at *
  exact Prod.ext (by omega) (by omega)
theorem leP_total (a b : Int × Int) : leP a b ∨ leP b a := by unfold leP; omega
theorem leP_of_lt {a b : Int × Int} (h : ltP a b = true) : leP a b := by rw [ltP_iff] at h; unfold leP; omega
theorem leP_add {a b : Int × Int} (c : Int × Int) (h : leP a b) : leP (addP a c) (addP b c) := by unfold leP addP at *; simp only; omega
theorem addP_inj {a b c : Int × Int} (h : addP a c = addP b c) : a = b := by
  unfold addP at h
  have h1 := congrArg Prod.fst h
  have h2 := congrArg Prod.snd h
  simp only at h1 h2
  exact Prod.ext (by omega) (by omega)
theorem leP_add_back {a b c : Int × Int} (h : leP (addP a c) (addP b c)) : leP a b := by unfold leP addP at *; simp only at h; omega
/-! ### the best of what is told -/
theorem fold_best {α : Type} (f : α → Option (Int × Int)) : ∀ (l : List α) (init : Option (Int × Int)), match l.foldl (fun best a => match f a with | none => best | some v => betterV best v) init with
    | none => init = none ∧ ∀ a ∈ l, f a = none
    | some m => (init = some m ∨ ∃ a ∈ l, f a = some m) ∧ (∀ a ∈ l, ∀ v, f a = some v → leP m v) ∧ ∀ z, init = some z → leP m z
  | [], init => by
    cases init with
    | none => exact ⟨rfl, fun a ha => (nomatch ha)⟩
    | some m => exact ⟨.inl rfl, fun a ha => (nomatch ha), fun z hz => by cases hz; exact leP_refl _⟩
  | a :: l, init => by
    have ih := fold_best f l (match f a with | none => init | some v => betterV init v)
    rw [List.foldl_cons]
    revert ih
    generalize l.foldl (fun best a => match f a with | none => best | some v => betterV best v) (match f a with | none => init | some v => betterV init v) = r
    intro ih
    cases r with
    | none =>
      obtain ⟨i1, i2⟩ := ih
      cases q : f a with
      | none =>
        rw [q] at i1
        exact ⟨i1, fun b hb => by rcases List.mem_cons.mp hb with e | e; rw [e]; exact q; exact i2 b e⟩
      | some v =>
        rw [q] at i1
        cases init with
        | none => cases i1
        | some z =>
          have i1 : (if ltP v z = true then some v else some z) = none := i1
          by_cases c : ltP v z = true
          · rw [if_pos c] at i1; cases i1
          · rw [if_neg c] at i1; cases i1
    | some m =>
      obtain ⟨i1, i2, i3⟩ := ih
      cases q : f a with
      | none =>
        rw [q] at i1 i3
        refine ⟨?_, fun b hb v hv => ?_, i3⟩
        · rcases i1 with e | ⟨b, hb, e⟩
          · exact .inl e
          · exact .inr ⟨b, List.mem_cons_of_mem _ hb, e⟩
        · rcases List.mem_cons.mp hb with e | e
          · rw [e, q] at hv; cases hv
          · exact i2 b e v hv
      | some v =>
        rw [q] at i1 i3
        have step : ∀ u, betterV init v = some u → (init = some u ∨ v = u) ∧ leP u v ∧ ∀ z, init = some z → leP u z := by
          intro u hu
          cases init with
          | none => cases hu; exact ⟨.inr rfl, leP_refl _, fun z hz => (nomatch hz)⟩
          | some z =>
            have hu : (if ltP v z = true then some v else some z) = some u := hu
            by_cases c : ltP v z = true
            · rw [if_pos c] at hu; cases hu
              exact ⟨.inr rfl, leP_refl _, fun y hy => by cases hy; exact leP_of_lt c⟩
            · rw [if_neg c] at hu; cases hu
              exact ⟨.inl rfl, ltP_false.mp (Bool.eq_false_iff.mpr c), fun y hy => by cases hy; exact leP_refl _⟩
        obtain ⟨u, hu⟩ : ∃ u, betterV init v = some u := by
          cases init with
          | none => exact ⟨v, rfl⟩
          | some z =>
            by_cases c : ltP v z = true
            · exact ⟨v, by show (if ltP v z = true then some v else some z) = _; rw [if_pos c]⟩
            · exact ⟨z, by show (if ltP v z = true then some v else some z) = _; rw [if_neg c]⟩
        obtain ⟨s1, s2, s3⟩ := step u hu
        have mu := i3 u hu
        refine ⟨?_, fun b hb y hy => ?_, fun z hz => leP_trans mu (s3 z hz)⟩
        · rcases i1 with e | ⟨b, hb, e⟩
          · have : u = m := by
              have e : betterV init v = some m := e
              rw [hu] at e; injection e
            subst this
            rcases s1 with e2 | e2
            · exact .inl e2
            · exact .inr ⟨a, List.mem_cons_self, by rw [q, e2]⟩
          · exact .inr ⟨b, List.mem_cons_of_mem _ hb, e⟩
        · rcases List.mem_cons.mp hb with e | e
          · rw [e, q] at hy
            cases hy
            exact leP_trans mu s2
          · exact i2 b e y hy
/-! ### ways down from a cell -/
/-- in range, each beside the last -/
structure Sub (w : Nat) (s : List Int) : Prop where
  rng : ∀ x ∈ s, 0 ≤ x ∧ x < (w : Int)
  st : stepsOk s = true
theorem Way.sub {w h : Nat} {s : List Int} (q : Way w h s) : Sub w s := ⟨q.rng, q.st⟩
theorem Sub.tail {w : Nat} {x : Int} {s : List Int} (q : Sub w (x :: s)) : Sub w s := by
  refine ⟨fun y hy => q.rng y (List.mem_cons_of_mem _ hy), ?_⟩
  cases s with
  | nil => rfl
  | cons y s =>
    have : (decide ((x - y).natAbs < 2) && stepsOk (y :: s)) = true := q.st
    rw [Bool.and_eq_true] at this
    exact this.2
theorem Sub.next {w : Nat} {x y : Int} {s : List Int} (q : Sub w (x :: y :: s)) : y ∈ nexts w x := by
  have : (decide ((x - y).natAbs < 2) && stepsOk (y :: s)) = true := q.st
  rw [Bool.and_eq_true, decide_eq_true_eq] at this
  have r := q.rng y (by simp)
  rw [mem_nexts]
  omega
theorem Sub.cons {w : Nat} {x y : Int} {s : List Int} (hx : 0 ≤ x ∧ x < (w : Int)) (hy : y ∈ nexts w x) (q : Sub w (y :: s)) : Sub w (x :: y :: s) := by
  refine ⟨fun z hz => ?_, ?_⟩
  · rcases List.mem_cons.mp hz with e | e
    · rw [e]; exact hx
    · exact q.rng z e
  · have := mem_nexts.mp hy
    show (decide ((x - y).natAbs < 2) && stepsOk (y :: s)) = true
    rw [q.st, Bool.and_true, decide_eq_true_eq]
    omega
theorem Sub.one {w : Nat} {x : Int} (hx : 0 ≤ x ∧ x < (w : Int)) : Sub w [x] := ⟨fun z hz => by rw [List.mem_singleton.mp hz]; exact hx, rfl⟩
section
variable (ps : List (List (List Int))) (mn : Bool) (t : List (List Int))
/-- what a way from row y down is worth, none where it goes through a kept cell -/
def pcV : Int → List Int → Option (Int × Int)
  | _, [] => none
  | y, [x] => if cell t x y = 1 then none else some (gone t x y, 0)
  | y, x :: x2 :: l => if cell t x y = 1 then none else (pcV (y + 1) (x2 :: l)).map fun b => hereV ps mn t b x x2 y
def totV : List Int → Option (Int × Int)
  | [] => none
  | x :: l => (pcV ps mn t 0 (x :: l)).map fun b => addP b (0, stepsV ps mn x 0 none)
end
theorem nexts_sorted (w x : Int) : (nexts w x).Pairwise (· < ·) := by
  unfold nexts
  apply List.Pairwise.filter
  simp
  omega
theorem find_first {p : Int → Bool} : ∀ {l : List Int} {a b : Int}, l.Pairwise (· < ·) → l.find? p = some b → a ∈ l → p a = true → b ≤ a
  | x :: l, a, b, hs, hf, ha, hp => by
    rw [List.find?_cons] at hf
    cases q : p x with
    | true =>
      rw [q] at hf
      cases hf
      rcases List.mem_cons.mp ha with e | e
      · rw [e]; exact Int.le_refl _
      · exact Int.le_of_lt ((List.pairwise_cons.mp hs).1 a e)
    | false =>
      rw [q] at hf
      rcases List.mem_cons.mp ha with e | e
      · rw [e, q] at hp; cases hp
      · exact find_first (List.pairwise_cons.mp hs).2 hf e hp
section
variable {w h : Nat} {ps : List (List (List Int))} {mn : Bool} {t : List (List Int)}
/-- what a next one gives -/
def candV (ps : List (List (List Int))) (mn : Bool) (t : List (List Int)) (below : List (Option (Int × Int))) (y x there : Int) : Option (Int × Int) := match getI below there with
  | none => none
  | some b => if cell t x y = 1 then none else some (hereV ps mn t b x there y)
theorem turn_cand (below : List (Option (Int × Int))) (y x : Int) : turnV ps mn t below y x = fun best there => match candV ps mn t below y x there with | none => best | some v => betterV best v := by
  funext best there
  unfold turnV candV
  cases getI below there with
  | none => rfl
  | some b =>
    by_cases q : cell t x y = 1
    · simp [q]
    · simp [q]
theorem cellV_best (below : List (Option (Int × Int))) (y x : Int) : match cellV w ps mn t below y x with
    | none => ∀ a ∈ nexts w x, candV ps mn t below y x a = none
    | some m => (∃ a ∈ nexts w x, candV ps mn t below y x a = some m) ∧ ∀ a ∈ nexts w x, ∀ v, candV ps mn t below y x a = some v → leP m v := by
  have := fold_best (candV ps mn t below y x) (nexts w x) none
  unfold cellV
  rw [turn_cand]
  revert this
  generalize (nexts w x).foldl (fun best a => match candV ps mn t below y x a with | none => best | some v => betterV best v) none = r
  intro this
  cases r with
  | none => exact this.2
  | some m =>
    obtain ⟨h1, h2, _⟩ := this
    rcases h1 with e | e
    · cases e
    · exact ⟨e, h2⟩
theorem dn_zero {x : Int} (hx : 0 ≤ x ∧ x < (w : Int)) : getI (dnRow w h ps mn t 0) x = if cell t x ((h : Int) - 1) = 1 then none else some (gone t x ((h : Int) - 1), 0) := by
  show getI (lastV w h t) x = _
  unfold lastV
  rw [getI_map _ _ (by simp; omega) (by simp; omega), getI_up hx.1 hx.2]
theorem dn_succ {k : Nat} {x : Int} (hx : 0 ≤ x ∧ x < (w : Int)) : getI (dnRow w h ps mn t (k + 1)) x = cellV w ps mn t (dnRow w h ps mn t k) ((h : Int) - 2 - (k : Nat)) x := by
  show getI (rowV w ps mn t _ _) x = _
  unfold rowV
  rw [getI_map _ _ (by simp; omega) (by simp; omega), getI_up hx.1 hx.2]
/-- each way is no better than what the table tells -/
theorem dn_le : ∀ (k : Nat) (x : Int) (l : List Int) (y : Int), y = (h : Int) - 1 - (k : Nat) → l.length = k → Sub w (x :: l) → ∀ v, pcV ps mn t y (x :: l) = some v → ∃ d, getI (dnRow w h ps mn t k) x = some d ∧ leP d v
  | 0, x, l, y, ey, hl, q, v, hv => by
    have : l = [] := List.length_eq_zero_iff.mp hl
    subst this
    have hx := q.rng x (by simp)
    rw [dn_zero hx]
    have ey : y = (h : Int) - 1 := by omega
    subst ey
    exact ⟨v, hv, leP_refl _⟩
  | k + 1, x, [], y, ey, hl, q, v, hv => by cases hl
  | k + 1, x, x2 :: l, y, ey, hl, q, v, hv => by
    have hx := q.rng x (by simp)
    have hl : l.length = k := by simpa using hl
    unfold pcV at hv
    by_cases c : cell t x y = 1
    · rw [if_pos c] at hv; cases hv
    · rw [if_neg c] at hv
      cases q2 : pcV ps mn t (y + 1) (x2 :: l) with
      | none => rw [q2] at hv; cases hv
      | some b =>
        rw [q2] at hv
        cases hv
        obtain ⟨d, e1, e2⟩ := dn_le k x2 l (y + 1) (by omega) hl q.tail b q2
        rw [dn_succ hx, show (h : Int) - 2 - (k : Nat) = y by omega]
        have cb := cellV_best (w := w) (ps := ps) (mn := mn) (t := t) (dnRow w h ps mn t k) y x
        have cv : candV ps mn t (dnRow w h ps mn t k) y x x2 = some (hereV ps mn t d x x2 y) := by
          unfold candV
          rw [e1]
          show (if cell t x y = 1 then none else some _) = _
          rw [if_neg c]
        have le : leP (hereV ps mn t d x x2 y) (hereV ps mn t b x x2 y) := leP_add _ e2
        revert cb
        cases cellV w ps mn t (dnRow w h ps mn t k) y x with
        | none =>
          intro cb
          have := cb x2 q.next
          rw [cv] at this; cases this
        | some m =>
          intro cb
          exact ⟨m, rfl, leP_trans (cb.2 x2 q.next _ cv) le⟩
/-- the way that the table leads -/
def greedy (w h : Nat) (ps : List (List (List Int))) (mn : Bool) (t : List (List Int)) : Nat → Int → List Int
  | 0, x => [x]
  | k + 1, x => match (nexts w x).find? fun there => decide (candV ps mn t (dnRow w h ps mn t k) ((h : Int) - 2 - (k : Nat)) x there = cellV w ps mn t (dnRow w h ps mn t k) ((h : Int) - 2 - (k : Nat)) x) with
    | some there => x :: greedy w h ps mn t k there
    | none => [x]
theorem greedy_cons : ∀ (k : Nat) (x : Int), ∃ l, greedy w h ps mn t k x = x :: l
  | 0, x => ⟨[], rfl⟩
  | k + 1, x => by
    unfold greedy
    split
    · exact ⟨_, rfl⟩
    · exact ⟨[], rfl⟩
theorem greedy_ok : ∀ (k : Nat) (x : Int) (y : Int) (d : Int × Int), y = (h : Int) - 1 - (k : Nat) → 0 ≤ x ∧ x < (w : Int) → getI (dnRow w h ps mn t k) x = some d →
    Sub w (greedy w h ps mn t k x) ∧ (greedy w h ps mn t k x).length = k + 1 ∧ pcV ps mn t y (greedy w h ps mn t k x) = some d ∧ ∀ l, l.length = k → Sub w (x :: l) → pcV ps mn t y (x :: l) = some d → greedy w h ps mn t k x ≤ x :: l
  | 0, x, y, d, ey, hx, hd => by
    have ey : y = (h : Int) - 1 := by omega
    subst ey
    rw [dn_zero hx] at hd
    refine ⟨Sub.one hx, rfl, hd, fun l hl _ _ => ?_⟩
    rw [List.length_eq_zero_iff.mp hl]
    exact List.le_refl _
  | k + 1, x, y, d, ey, hx, hd => by
    rw [dn_succ hx] at hd
    have cb := cellV_best (w := w) (ps := ps) (mn := mn) (t := t) (dnRow w h ps mn t k) ((h : Int) - 2 - (k : Nat)) x
    unfold greedy
    rw [hd] at cb ⊢
    obtain ⟨⟨a, ha, ca⟩, cmin⟩ := cb
    cases q : (nexts w x).find? fun there => decide (candV ps mn t (dnRow w h ps mn t k) ((h : Int) - 2 - (k : Nat)) x there = some d) with
    | none =>
      have := List.find?_eq_none.mp q a ha
      rw [ca] at this
      simp at this
    | some b =>
      have hb := List.mem_of_find?_eq_some q
      have pb := List.find?_some q
      rw [decide_eq_true_eq] at pb
      rw [show (h : Int) - 2 - (k : Nat) = y by omega] at *
      have kept : cell t x y ≠ 1 := fun c => by
        unfold candV at pb
        cases z : getI (dnRow w h ps mn t k) b with
        | none => rw [z] at pb; cases pb
        | some u =>
          rw [z] at pb
          have pb : (if cell t x y = 1 then none else some (hereV ps mn t u x b y)) = some d := pb
          rw [if_pos c] at pb; cases pb
      obtain ⟨u, hu, eu⟩ : ∃ u, getI (dnRow w h ps mn t k) b = some u ∧ hereV ps mn t u x b y = d := by
        unfold candV at pb
        cases z : getI (dnRow w h ps mn t k) b with
        | none => rw [z] at pb; cases pb
        | some u =>
          rw [z] at pb
          have pb : (if cell t x y = 1 then none else some (hereV ps mn t u x b y)) = some d := pb
          rw [if_neg kept] at pb
          injection pb with pb
          exact ⟨u, rfl, pb⟩
      have rb := (mem_nexts.mp hb).2
      obtain ⟨i1, i2, i3, i4⟩ := greedy_ok k b (y + 1) u (by omega) rb hu
      obtain ⟨lb, elb⟩ := greedy_cons (w := w) (h := h) (ps := ps) (mn := mn) (t := t) k b
      dsimp only
      rw [elb] at i1 i2 i3 i4 ⊢
      refine ⟨Sub.cons hx hb i1, by simpa using i2, ?_, fun l hl hs hp => ?_⟩
      · unfold pcV
        rw [if_neg kept, i3, ← eu]; rfl
      · cases l with
        | nil => cases hl
        | cons x2 l =>
          have hl2 : l.length = k := by simpa using hl
          unfold pcV at hp
          rw [if_neg kept] at hp
          cases q2 : pcV ps mn t (y + 1) (x2 :: l) with
          | none => rw [q2] at hp; cases hp
          | some v =>
            rw [q2] at hp
            have hp : some (hereV ps mn t v x x2 y) = some d := hp
            injection hp with hp
            obtain ⟨u2, e1, e2⟩ := dn_le (h := h) k x2 l (y + 1) (by omega) hl2 hs.tail v q2
            have c2 : candV ps mn t (dnRow w h ps mn t k) y x x2 = some (hereV ps mn t u2 x x2 y) := by
              unfold candV
              rw [e1]
              show (if cell t x y = 1 then none else some _) = _
              rw [if_neg kept]
            have m1 := cmin x2 hs.next _ c2
            have m2 : leP (hereV ps mn t u2 x x2 y) (hereV ps mn t v x x2 y) := leP_add _ e2
            rw [hp] at m2
            have m3 := leP_antisymm m1 m2
            have eu2 : u2 = v := addP_inj (show addP u2 _ = addP v _ from m3.symm.trans hp.symm)
            subst eu2
            have le : b ≤ x2 := find_first (nexts_sorted _ _) q hs.next (by rw [decide_eq_true_eq, c2, ← m3])
            rw [List.cons_le_cons_iff]
            refine .inr ⟨rfl, ?_⟩
            rw [List.cons_le_cons_iff]
            rcases Int.lt_or_eq_of_le le with lt | e
            · exact .inl lt
            · subst e
              have uu : u = u2 := by rw [hu] at e1; injection e1
              subst uu
              have := i4 l hl2 hs.tail q2
              rw [List.cons_le_cons_iff] at this
              rcases this with z | z
              · exact absurd z (Int.lt_irrefl _)
              · exact .inr ⟨rfl, z.2⟩
end
end Rf
set_option Elab.async false
set_option linter.all false
set_option autoImplicit false
set_option maxHeartbeats 2000000
set_option maxRecDepth 100000
namespace Rf
open PySem L2
theorem upI_succ (lo : Int) (n : Nat) : upI lo (n + 1) = lo :: upI (lo + 1) n := by
  unfold upI
  rw [List.range_succ_eq_map, List.map_cons, List.map_map]
  have e1 : lo + ((0 : Nat) : Int) = lo := by omega
  rw [e1]
  congr 1
  apply List.map_congr_left
  intro k _
  simp only [Function.comp]
  omega
theorem upI_snoc (lo : Int) (n : Nat) : upI lo (n + 1) = upI lo n ++ [lo + (n : Nat)] := by
  unfold upI
  rw [List.range_succ, List.map_append]; rfl
/-- the least of all, by what it is worth, then by order -/
structure Least (w h : Nat) (tot : List Int → Option (Int × Int)) (r : Option (List Int)) : Prop where
  none : r = none → ∀ s, Way w h s → tot s = none
  some : ∀ s, r = some s → Way w h s ∧ ∃ v, tot s = some v ∧ ∀ s', Way w h s' → ∀ v', tot s' = some v' → leP v v' ∧ (v' = v → s ≤ s')
theorem Least.unique {w h : Nat} {tot : List Int → Option (Int × Int)} {r r' : Option (List Int)} (a : Least w h tot r) (b : Least w h tot r') : r = r' := by
  cases r with
  | none =>
    cases r' with
    | none => rfl
    | some s' =>
      obtain ⟨q, v, e, _⟩ := b.some s' rfl
      rw [a.none rfl s' q] at e; cases e
  | some s =>
    obtain ⟨q, v, e, k⟩ := a.some s rfl
    cases r' with
    | none => rw [b.none rfl s q] at e; cases e
    | some s' =>
      obtain ⟨q', v', e', k'⟩ := b.some s' rfl
      have h1 := k s' q' v' e'
      have h2 := k' s q v e
      have ev := leP_antisymm h1.1 h2.1
      subst ev
      rw [List.le_antisymm (h1.2 rfl) (h2.2 rfl)]
theorem minBy_le {xs : List (Int × Int)} : ∀ {x y : Int × Int}, y ∈ x :: xs → leP (minBy ltP x xs) y := by
  induction xs with
  | nil => intro x y hy; rw [List.mem_singleton.mp hy]; exact leP_refl _
  | cons z xs ih =>
    intro x y hy
    show leP (minBy ltP (if ltP z x = true then z else x) xs) y
    by_cases q : ltP z x = true
    · rw [if_pos q]
      rcases List.mem_cons.mp hy with e | e
      · rw [e]; exact leP_trans (ih List.mem_cons_self) (leP_of_lt q)
      · exact ih e
    · rw [if_neg q]
      rcases List.mem_cons.mp hy with e | e
      · rw [e]; exact ih List.mem_cons_self
      · rcases List.mem_cons.mp e with e | e
        · rw [e]; exact leP_trans (ih List.mem_cons_self) (ltP_false.mp (Bool.eq_false_iff.mpr q))
        · exact ih (List.mem_cons_of_mem _ e)
section
variable {w h : Nat} {ps : List (List (List Int))} {mn : Bool} {t : List (List Int)}
theorem go_greedy : ∀ (n : Nat) (x : Int) (y : Int) (d : Int × Int) (pre : List Int), n + 1 ≤ h → y = (h : Int) - 1 - (n : Nat) → 0 ≤ x ∧ x < (w : Int) → getI (dnRow w h ps mn t n) x = some d →
    (upI y n).foldl (goV w ps mn t (dnTab w h ps mn t (h - 1))) (pre ++ [x]) = pre ++ greedy w h ps mn t n x
  | 0, x, y, d, pre, hn, ey, hx, hd => rfl
  | n + 1, x, y, d, pre, hn, ey, hx, hd => by
    rw [upI_succ, List.foldl_cons]
    have t1 : getI (dnTab w h ps mn t (h - 1)) (y + 1) = dnRow w h ps mn t n := by
      rw [show y + 1 = ((h - 1 - n : Nat) : Int) by omega, dnTab_get _ _ _ _ _ _ _ (by omega), show h - 1 - (h - 1 - n) = n by omega]
    have t0 : getI (dnTab w h ps mn t (h - 1)) y = dnRow w h ps mn t (n + 1) := by
      rw [show y = ((h - 1 - (n + 1) : Nat) : Int) by omega, dnTab_get _ _ _ _ _ _ _ (by omega), show h - 1 - (h - 1 - (n + 1)) = n + 1 by omega]
    have hd2 := hd
    rw [dn_succ hx, show (h : Int) - 2 - (n : Nat) = y by omega] at hd2
    have cb := cellV_best (w := w) (ps := ps) (mn := mn) (t := t) (dnRow w h ps mn t n) y x
    rw [hd2] at cb
    obtain ⟨⟨a, ha, ca⟩, _⟩ := cb
    have kept : cell t x y ≠ 1 := fun c => by
      unfold candV at ca
      cases z : getI (dnRow w h ps mn t n) a with
      | none => rw [z] at ca; cases ca
      | some u =>
        rw [z] at ca
        have ca : (if cell t x y = 1 then none else some (hereV ps mn t u x a y)) = some d := ca
        rw [if_pos c] at ca; cases ca
    have ef : fitsV ps mn t (dnTab w h ps mn t (h - 1)) y x = fun there => decide (candV ps mn t (dnRow w h ps mn t n) y x there = some d) := by
      funext there
      unfold fitsV candV
      rw [t1, t0, hd]
      cases getI (dnRow w h ps mn t n) there with
      | none => rfl
      | some u => simp [kept]
    have eg : goV w ps mn t (dnTab w h ps mn t (h - 1)) (pre ++ [x]) y = match (nexts w x).find? (fun there => decide (candV ps mn t (dnRow w h ps mn t n) y x there = some d)) with
        | some there => pre ++ [x] ++ [there]
        | none => pre ++ [x] := by
      unfold goV
      rw [last_snoc, ef]
      all_goals cases (nexts w x).find? (fun there => decide (candV ps mn t (dnRow w h ps mn t n) y x there = some d)) <;> rfl
    rw [eg]
    unfold greedy
    rw [show (h : Int) - 2 - (n : Nat) = y by omega, hd2]
    cases q : (nexts w x).find? (fun there => decide (candV ps mn t (dnRow w h ps mn t n) y x there = some d)) with
    | none =>
      have := List.find?_eq_none.mp q a ha
      rw [ca] at this
      simp at this
    | some b =>
      have hb := List.mem_of_find?_eq_some q
      have pb := List.find?_some q
      rw [decide_eq_true_eq] at pb
      obtain ⟨u, hu⟩ : ∃ u, getI (dnRow w h ps mn t n) b = some u := by
        unfold candV at pb
        cases z : getI (dnRow w h ps mn t n) b with
        | none => rw [z] at pb; cases pb
        | some u => exact ⟨u, rfl⟩
      dsimp only
      rw [go_greedy n b (y + 1) u (pre ++ [x]) (by omega) (by omega) (mem_nexts.mp hb).2 hu, List.append_assoc]; rfl
theorem starts_get {top : List (Option (Int × Int))} {x : Int} (hx : 0 ≤ x ∧ x < (w : Int)) : getI (startsV w ps mn top) x = (getI top x).map fun b => addP b (0, stepsV ps mn x 0 none) := by
  unfold startsV
  rw [getI_map _ _ (by simp; omega) (by simp; omega), getI_up hx.1 hx.2]
theorem totV_cons (x : Int) (l : List Int) : totV ps mn t (x :: l) = (pcV ps mn t 0 (x :: l)).map fun b => addP b (0, stepsV ps mn x 0 none) := rfl
theorem le_cons_of_lt {a b : Int} {l m : List Int} (h : a < b) : a :: l ≤ b :: m := by
  rw [List.cons_le_cons_iff]; exact .inl h
theorem bw_least (h1 : 1 ≤ h) : Least w h (totV ps mn t) (bwV w h ps mn t) := by
  have sl : (startsV w ps mn (dnRow w h ps mn t (h - 1))).length = w := by simp [startsV]
  have key : ∀ s, Way w h s → ∀ v, totV ps mn t s = some v → ∃ x l d, s = x :: l ∧ (0 ≤ x ∧ x < (w : Int)) ∧ getI (dnRow w h ps mn t (h - 1)) x = some d ∧ getI (startsV w ps mn (dnRow w h ps mn t (h - 1))) x = some (addP d (0, stepsV ps mn x 0 none)) ∧ leP (addP d (0, stepsV ps mn x 0 none)) v ∧ ∃ b, pcV ps mn t 0 s = some b ∧ v = addP b (0, stepsV ps mn x 0 none) := by
    intro s q v hv
    have hl := q.len
    cases s with
    | nil => simp at hl; omega
    | cons x l =>
      have hx := q.rng x (by simp)
      rw [totV_cons] at hv
      cases q2 : pcV ps mn t 0 (x :: l) with
      | none => rw [q2] at hv; cases hv
      | some b =>
        rw [q2] at hv
        cases hv
        obtain ⟨d, e1, e2⟩ := dn_le (h := h) (h - 1) x l 0 (by omega) (by simp at hl; omega) q.sub b q2
        refine ⟨x, l, d, rfl, hx, e1, by rw [starts_get hx, e1]; rfl, leP_add _ e2, b, rfl, rfl⟩
  unfold bwV
  cases q : (startsV w ps mn (dnRow w h ps mn t (h - 1))).filterMap id with
  | nil =>
    refine ⟨fun _ s qs => ?_, fun s e => (nomatch e)⟩
    cases z : totV ps mn t s with
    | none => rfl
    | some v =>
      obtain ⟨x, l, d, _, hx, _, e2, _⟩ := key s qs v z
      have hm : getI (startsV w ps mn (dnRow w h ps mn t (h - 1))) x ∈ startsV w ps mn (dnRow w h ps mn t (h - 1)) := getI_mem (by omega) (by omega)
      have : addP d (0, stepsV ps mn x 0 none) ∈ (startsV w ps mn (dnRow w h ps mn t (h - 1))).filterMap id := List.mem_filterMap.mpr ⟨_, hm, e2⟩
      rw [q] at this; cases this
  | cons x xs =>
    refine ⟨fun e => (nomatch e), fun s e => ?_⟩
    injection e with e
    have hm : some (minBy ltP x xs) ∈ startsV w ps mn (dnRow w h ps mn t (h - 1)) := by
      have := minBy_mem ltP xs x
      rw [← q, List.mem_filterMap] at this
      obtain ⟨o, ho, e⟩ := this
      have e : o = some (minBy ltP x xs) := e
      rw [← e]; exact ho
    have pl := plc_lt hm
    obtain ⟨pg, pf⟩ := plc_get hm
    revert e pl pg pf
    generalize plc (some (minBy ltP x xs)) (startsV w ps mn (dnRow w h ps mn t (h - 1))) = x0
    intro e pl pg pf
    rw [sl] at pl
    have hx0 : 0 ≤ (x0 : Int) ∧ (x0 : Int) < (w : Int) := by omega
    have pg0 := pg
    rw [starts_get hx0] at pg
    cases z : getI (dnRow w h ps mn t (h - 1)) (x0 : Int) with
    | none => rw [z] at pg; cases pg
    | some d =>
      rw [z] at pg
      have pg : some (addP d (0, stepsV ps mn x0 0 none)) = some (minBy ltP x xs) := pg
      injection pg with pg
      have gg := go_greedy (ps := ps) (mn := mn) (t := t) (h := h) (w := w) (h - 1) (x0 : Int) 0 d [] (by omega) (by omega) hx0 z
      rw [List.nil_append, List.nil_append] at gg
      obtain ⟨g1, g2, g3, g4⟩ := greedy_ok (ps := ps) (mn := mn) (t := t) (h := h) (w := w) (h - 1) (x0 : Int) 0 d (by omega) hx0 z
      obtain ⟨l, el⟩ := greedy_cons (ps := ps) (mn := mn) (t := t) (h := h) (w := w) (h - 1) (x0 : Int)
      rw [gg] at e
      rw [e] at g1 g2 g3 g4 el
      have qs : Way w h s := ⟨by omega, g1.rng, g1.st⟩
      have tv : totV ps mn t s = some (minBy ltP x xs) := by
        rw [el]
        rw [totV_cons, ← el, g3, ← pg]; rfl
      refine ⟨qs, _, tv, fun s' qs' v' hv' => ?_⟩
      obtain ⟨x', l', d', es, hx', e1, e2, e3, b', e4, e5⟩ := key s' qs' v' hv'
      have hm' : getI (startsV w ps mn (dnRow w h ps mn t (h - 1))) x' ∈ startsV w ps mn (dnRow w h ps mn t (h - 1)) := getI_mem (by omega) (by omega)
      have mm : addP d' (0, stepsV ps mn x' 0 none) ∈ x :: xs := by rw [← q]; exact List.mem_filterMap.mpr ⟨_, hm', e2⟩
      have le1 := minBy_le mm
      refine ⟨leP_trans le1 e3, fun ev => ?_⟩
      subst ev
      have ed := leP_antisymm le1 e3
      rw [es, el]
      rcases Int.lt_trichotomy (x0 : Int) x' with lt | eq | gt
      · exact le_cons_of_lt lt
      · subst eq
        have hd : d' = d := by rw [z] at e1; injection e1 with e1; exact e1.symm
        subst hd
        have hb : b' = d' := addP_inj (e5.symm.trans pg.symm)
        rw [hb, es] at e4
        have := g4 l' (by have := qs'.len; rw [es] at this; simp at this; omega) (by rw [← es]; exact qs'.sub) e4
        rw [← el]; exact this
      · exfalso
        have := pf x'.toNat (by omega)
        rw [show ((x'.toNat : Nat) : Int) = x' by omega, e2, ← ed] at this
        exact this rfl
end
/-! ### what a way is worth, told at once -/
def keptFree (t : List (List Int)) : Int → List Int → Bool
  | _, [] => true
  | y, x :: l => !decide (cell t x y = 1) && keptFree t (y + 1) l
def goneSum (t : List (List Int)) : Int → List Int → Int
  | _, [] => 0
  | y, x :: l => gone t x y + goneSum t (y + 1) l
def tailSum (ps : List (List (List Int))) (mn : Bool) (y b : Int) (l : List Int) : Int := (ps.map fun p => tailCost mn p y b l).sum
def costSum (ps : List (List (List Int))) (mn : Bool) (s : List Int) : Int := (ps.map fun p => costV mn p s).sum
theorem sum_add {α : Type} (f g : α → Int) : ∀ l : List α, (l.map fun a => f a + g a).sum = (l.map f).sum + (l.map g).sum
  | [] => rfl
  | a :: l => by
    simp only [List.map_cons, List.sum_cons, sum_add f g l]
    omega
theorem pcV_eq (ps : List (List (List Int))) (mn : Bool) (t : List (List Int)) : ∀ (l : List Int) (x y : Int), pcV ps mn t y (x :: l) = if keptFree t y (x :: l) = true then some (goneSum t y (x :: l), tailSum ps mn (y + 1) x l) else none
  | [], x, y => by
    unfold pcV
    have e : tailSum ps mn (y + 1) x [] = 0 := by
      unfold tailSum
      simp only [tailCost]
      induction ps with
      | nil => rfl
      | cons p ps ih => simpa using ih
    by_cases c : cell t x y = 1
    · simp [keptFree, c]
    · simp [keptFree, c, goneSum, e]
  | x2 :: l, x, y => by
    unfold pcV
    rw [pcV_eq ps mn t l x2 (y + 1)]
    have e : tailSum ps mn (y + 1) x (x2 :: l) = stepsV ps mn x2 (y + 1) (some x) + tailSum ps mn (y + 1 + 1) x2 l := by
      unfold tailSum stepsV
      rw [← sum_add]; rfl
    by_cases c : cell t x y = 1
    · simp [keptFree, c]
    · have e2 : keptFree t y (x :: x2 :: l) = keptFree t (y + 1) (x2 :: l) := by
        show (!decide (cell t x y = 1) && keptFree t (y + 1) (x2 :: l)) = _
        simp [c]
      rw [if_neg c, e2]
      cases keptFree t (y + 1) (x2 :: l) with
      | false => rfl
      | true =>
        simp only [if_true, Option.map_some, e]
        congr 1
        unfold hereV addP
        refine Prod.ext ?_ ?_
        · show goneSum t (y + 1) (x2 :: l) + gone t x y = gone t x y + goneSum t (y + 1) (x2 :: l)
          omega
        · show tailSum ps mn (y + 1 + 1) x2 l + stepsV ps mn x2 (y + 1) (some x) = _
          omega
theorem totV_eq (ps : List (List (List Int))) (mn : Bool) (t : List (List Int)) (s : List Int) (h : s ≠ []) : totV ps mn t s = if keptFree t 0 s = true then some (goneSum t 0 s, costSum ps mn s) else none := by
  cases s with
  | nil => exact absurd rfl h
  | cons x l =>
    rw [totV_cons, pcV_eq]
    cases keptFree t 0 (x :: l) with
    | false => rfl
    | true =>
      simp only [if_true, Option.map_some]
      congr 1
      have e : costSum ps mn (x :: l) = stepsV ps mn x 0 none + tailSum ps mn 1 x l := by
        unfold costSum tailSum stepsV
        rw [← sum_add]; rfl
      rw [e]
      unfold addP
      refine Prod.ext ?_ ?_
      · show goneSum t 0 (x :: l) + 0 = _
        omega
      · show tailSum ps mn (0 + 1) x l + stepsV ps mn x 0 none = _
        rw [show (0 : Int) + 1 = 1 by rfl]; omega
theorem costSum_one (p : List (List Int)) (mn : Bool) (s : List Int) : costSum [p] mn s = costV mn p s := by simp [costSum]
end Rf
set_option Elab.async false
set_option linter.all false
set_option autoImplicit false
set_option maxHeartbeats 2000000
set_option maxRecDepth 100000
namespace Rf
open PySem L2
/-! ### least seam -/
abbrev Sp_least_seam (m : List D → Rs D) : Prop := ∀ w h p mn o, Good w h p → MkOk w h o → m [pic p, man mn, mkD o] = .ok (op row (bwV w h [p] mn (mkV p o)))
theorem ok_least_seam {T : Tb} {fB fN : Nat} (hB : Sp_best_way (T.fn fB)) (hN : Sp_need_all (T.fn fN)) : Sp_least_seam (runD T 3 3 (B_least_seam fB fN)) := by
  intro w h p mn o g q
  have e1 : T.fn fB [.list [pic p], man mn, pic (mkV p o)] = .ok (op row (bwV w h [p] mn (mkV p o))) := hB w h [p] mn _ g.pics (mkV_marks g.toRect q).toRect
  simp [runD, B_least_seam, hN w h p mn o g q, e1]
theorem least_ok {w h : Nat} {p : List (List Int)} {mn : Bool} (g : Good w h p) (t : List (List Int)) : Least w h (totV [p] mn t) (bwV w h [p] mn t) := bw_least g.h1
/-! ### all ways -/
def waysV (w : Nat) : Nat → List (List Int)
  | 0 => (upI 0 w).map fun x => [x]
  | k + 1 => (waysV w k).flatMap fun s => (nexts w (getI s (-1))).map fun x => s ++ [x]
theorem snoc_of {α : Type} : ∀ {l : List α}, l ≠ [] → ∃ i a, l = i ++ [a]
  | l, h => ⟨l.dropLast, l.getLast h, (List.dropLast_concat_getLast h).symm⟩
theorem steps_snoc_iff : ∀ {l : List Int} {a b : Int}, stepsOk (l ++ [a] ++ [b]) = (stepsOk (l ++ [a]) && decide ((a - b).natAbs < 2))
  | [], a, b => by simp [stepsOk]
  | [x], a, b => by simp [stepsOk]
  | x :: y :: l, a, b => by
    have ih := steps_snoc_iff (l := y :: l) (a := a) (b := b)
    show (decide ((x - y).natAbs < 2) && stepsOk (y :: l ++ [a] ++ [b])) = ((decide ((x - y).natAbs < 2) && stepsOk (y :: l ++ [a])) && _)
    rw [ih, Bool.and_assoc]
theorem way_snoc {w h : Nat} {s : List Int} {a b : Int} : Way w (h + 1) (s ++ [a] ++ [b]) ↔ Way w h (s ++ [a]) ∧ b ∈ nexts w a := by
  constructor
  · intro q
    have st := q.st
    rw [steps_snoc_iff, Bool.and_eq_true, decide_eq_true_eq] at st
    have rb := q.rng b (by simp)
    have hl := q.len
    rw [List.length_append, List.length_singleton] at hl
    refine ⟨⟨by omega, fun x hx => q.rng x (List.mem_append_left _ hx), st.1⟩, mem_nexts.mpr (by omega)⟩
  · rintro ⟨q, hb⟩
    have hb := mem_nexts.mp hb
    have hl := q.len
    refine ⟨by rw [List.length_append, hl]; rfl, fun x hx => ?_, ?_⟩
    · rcases List.mem_append.mp hx with hx | hx
      · exact q.rng x hx
      · rw [List.mem_singleton.mp hx]; exact hb.2
    · rw [steps_snoc_iff, q.st, Bool.true_and, decide_eq_true_eq]; omega
theorem mem_waysV {w : Nat} : ∀ {k : Nat} {s : List Int}, s ∈ waysV w k ↔ Way w (k + 1) s
  | 0, s => by
    unfold waysV
    rw [List.mem_map]
    constructor
    · rintro ⟨x, hx, rfl⟩
      have := mem_upI.mp hx
      exact ⟨rfl, fun y hy => by rw [List.mem_singleton.mp hy]; omega, rfl⟩
    · intro q
      have hl := q.len
      rcases s with _ | ⟨x, _ | ⟨y, s⟩⟩
      · simp at hl
      · exact ⟨x, mem_upI.mpr (by have := q.rng x (by simp); omega), rfl⟩
      · simp at hl
  | k + 1, s => by
    unfold waysV
    rw [List.mem_flatMap]
    constructor
    · rintro ⟨r, hr, hs⟩
      obtain ⟨x, hx, rfl⟩ := List.mem_map.mp hs
      have q := mem_waysV.mp hr
      obtain ⟨i, a, rfl⟩ := snoc_of (l := r) (fun e => by have := q.len; rw [e] at this; simp at this)
      rw [last_snoc] at hx
      exact way_snoc.mpr ⟨q, hx⟩
    · intro q
      have hl := q.len
      obtain ⟨i, b, rfl⟩ := snoc_of (l := s) (fun e => by rw [e] at hl; simp at hl)
      rw [List.length_append, List.length_singleton] at hl
      obtain ⟨i, a, rfl⟩ := snoc_of (l := i) (fun e => by rw [e] at hl; simp at hl)
      obtain ⟨q1, q2⟩ := way_snoc.mp q
      exact ⟨i ++ [a], mem_waysV.mpr q1, List.mem_map.mpr ⟨b, by rw [last_snoc]; exact q2, rfl⟩⟩
theorem nexts_len (w x : Int) : (nexts w x).length ≤ 3 := by
  unfold nexts
  exact Nat.le_trans (List.length_filter_le _ _) (by simp)
theorem flatMap_len {α β : Type} (f : α → List β) (n : Nat) : ∀ l : List α, (∀ a ∈ l, (f a).length ≤ n) → (l.flatMap f).length ≤ l.length * n
  | [], _ => by simp
  | a :: l, H => by
    have h1 := H a List.mem_cons_self
    have h2 := flatMap_len f n l fun b hb => H b (List.mem_cons_of_mem _ hb)
    rw [List.flatMap_cons, List.length_append, List.length_cons, Nat.succ_mul]
    omega
theorem waysV_len (w : Nat) : ∀ k : Nat, (waysV w k).length ≤ w * 3 ^ k
  | 0 => by simp [waysV]
  | k + 1 => by
    have h1 := flatMap_len (fun s => (nexts w (getI s (-1))).map fun x => s ++ [x]) 3 (waysV w k) fun s _ => by rw [List.length_map]; exact nexts_len _ _
    have h2 := waysV_len w k
    have h3 : (waysV w (k + 1)).length ≤ (waysV w k).length * 3 := h1
    have h4 : (waysV w k).length * 3 ≤ w * 3 ^ k * 3 := Nat.mul_le_mul_right 3 h2
    rw [Nat.pow_succ, ← Nat.mul_assoc]
    omega
theorem waysV_few {w k : Nat} (hw : w ≤ 20) (hk : k ≤ 7) : (waysV w k).length < 100000 := by
  have h1 := waysV_len w k
  have h2 : w * 3 ^ k ≤ 20 * 3 ^ 7 := Nat.mul_le_mul hw (Nat.pow_le_pow_right (by decide) hk)
  omega
abbrev Sp_law_ways (m : List D → Rs D) : Prop := ∀ w h : Nat, w ≤ 20 → 1 ≤ h → h ≤ 8 → m [.int w, .int h] = .ok (li row (waysV w (h - 1)))
theorem ok_law_ways {T : Tb} : Sp_law_ways (runD T 2 7 B_law_ways) := by
  intro w h hw h1 h2
  simp (disch := omega) [runD, B_law_ways, it_rng1]
  rw [cmpr_li row (fun x => [x]) rfl (by simp; omega) fun x _ => by simp [turnD]; rfl]
  simp (disch := omega) [it_rng1]
  refine for_end (fun pre ρ => ∃ z3 z4 z5 z6, ρ = [.fz (.int w), .fz (.int h), .fz (li row (waysV w pre.length)), z3, z4, z5, z6]) ⟨_, _, _, _, rfl⟩ ?_ ?_
  · rintro pre y suf _ ep ⟨z3, z4, z5, z6, rfl⟩
    obtain ⟨hl, hy⟩ := pre_len ep
    rw [len_upI] at hl
    have few := waysV_few (k := pre.length) hw (by omega)
    have few1 := waysV_few (k := pre.length + 1) hw (by omega)
    simp
    refine for_nxt (fun pr ρ => ∃ z5 z6, ρ = [.fz (.int w), .fz (.int h), .fz (li row (waysV w pre.length)), .fz (.int y), .fz (li row (pr.flatMap fun s => (nexts w (getI s (-1))).map fun x => s ++ [x])), z5, z6]) ⟨_, _, rfl⟩ ?_ ?_
    · rintro pr s sf _ es ⟨z5, z6, rfl⟩
      obtain ⟨hl2, hs⟩ := pre_len es
      have q := mem_waysV.mp hs
      have hls := q.len
      simp (disch := omega) [idx_tu]
      rw [cmpr_fl (its := [.int (getI s (-1) - 1), .int (getI s (-1)), .int (getI s (-1) + 1)]) (h := PyData.int) row (fun x : Int => s ++ [x]) (fun t => decide (0 ≤ t) && decide (t < (w : Int))) (l := [getI s (-1) - 1, getI s (-1), getI s (-1) + 1]) rfl (by simp) fun x _ => by
        have ea : binD .Add (row s) (.tuple [.int x]) = .ok (row (s ++ [x])) := add_tu .int s [x] (by simp; omega)
        simp [turnD]
        by_cases c1 : 0 ≤ x <;> by_cases c2 : x < (w : Int) <;> simp [c1, c2, ea]]
      have lp : (pr.flatMap fun s => (nexts w (getI s (-1))).map fun x => s ++ [x]).length ≤ pr.length * 3 := flatMap_len _ 3 pr fun s _ => by rw [List.length_map]; exact nexts_len _ _
      have ln : ((nexts w (getI s (-1))).map fun x => s ++ [x]).length ≤ 3 := by rw [List.length_map]; exact nexts_len _ _
      have ea := add_li row (pr.flatMap fun s => (nexts w (getI s (-1))).map fun x => s ++ [x]) ((nexts w (getI s (-1))).map fun x => s ++ [x]) (by omega)
      have en : ([getI s (-1) - 1, getI s (-1), getI s (-1) + 1].filter fun t => decide (0 ≤ t) && decide (t < (w : Int))) = nexts w (getI s (-1)) := rfl
      rw [en]
      simp [ea]
      exact nxt_ok ⟨_, _, rfl⟩
    · rintro _ ⟨z5, z6, rfl⟩
      simp
      exact nxt_ok ⟨_, _, _, _, rfl⟩
  · rintro _ ⟨z3, z4, z5, z6, rfl⟩
    simp
/-! ### signs on a way -/
def signV (t : List (List Int)) (s : List Int) (k : Int) : Int := (((t.zip s).filter fun q => decide (getI q.1 q.2 = k)).length : Nat)
abbrev Sp_law_signs (m : List D → Rs D) : Prop := ∀ w h t s k, Rect w h t → h < 1000 → Way w h s → m [pic t, row s, .int k] = .ok (.int (signV t s k))
theorem ok_law_signs {T : Tb} : Sp_law_signs (runD T 3 5 B_law_signs) := by
  intro w h t s k g hh q
  have h1 := g.hh
  simp [runD, B_law_signs]
  rw [cmpr_fl .int (fun q : List Int × Int => q.2) (fun q => decide (getI q.1 q.2 = k)) rfl (by simp; omega)]
  · simp [signV]
  · rintro ⟨r, x⟩ hm
    have hr := g.ww r (List.of_mem_zip hm).1
    have hx := q.rng x (List.of_mem_zip hm).2
    simp (disch := omega) [turnD, pr, idx_tu]
    by_cases c : getI r x = k <;> simp [c]
theorem sign_suffix (t : List (List Int)) (k : Int) : ∀ (s : List Int) (y : Nat), s.length + y = t.length → (((t.drop y).zip s).filter fun q => decide (getI q.1 q.2 = k)).length = match s with
    | [] => 0
    | x :: l => (if cell t x (y : Int) = k then 1 else 0) + (((t.drop (y + 1)).zip l).filter fun q => decide (getI q.1 q.2 = k)).length
  | [], y, _ => by simp
  | x :: l, y, h => by
    have hy : y < t.length := by simp at h; omega
    have e : t.drop y = t[y] :: t.drop (y + 1) := List.drop_eq_getElem_cons hy
    have e2 : getI t (y : Int) = t[y] := by rw [getI_nat, List.getD_eq_getElem?_getD, List.getElem?_eq_getElem hy]; rfl
    rw [e, List.zip_cons_cons, List.filter_cons]
    unfold cell
    rw [e2]
    by_cases c : getI t[y] x = k
    · simp [c]; omega
    · simp [c]
theorem sign_free (t : List (List Int)) : ∀ (s : List Int) (y : Nat), s.length + y = t.length → ((((t.drop y).zip s).filter fun q => decide (getI q.1 q.2 = 1)).length = 0 ↔ keptFree t (y : Int) s = true)
  | [], y, _ => by simp [keptFree]
  | x :: l, y, h => by
    rw [sign_suffix t 1 (x :: l) y h]
    have ih := sign_free t l (y + 1) (by simp at h; omega)
    unfold keptFree
    by_cases c : cell t x (y : Int) = 1
    · simp [c]
    · simp only [c, if_false, Nat.zero_add, decide_false, Bool.not_false, Bool.true_and]
      exact ih
theorem sign_gone (t : List (List Int)) : ∀ (s : List Int) (y : Nat), s.length + y = t.length → -((((t.drop y).zip s).filter fun q => decide (getI q.1 q.2 = 2)).length : Int) = goneSum t (y : Int) s
  | [], y, _ => by simp [goneSum]
  | x :: l, y, h => by
    rw [sign_suffix t 2 (x :: l) y h]
    have ih := sign_gone t l (y + 1) (by simp at h; omega)
    unfold goneSum gone
    rw [show ((y : Int) + 1) = ((y + 1 : Nat) : Int) by omega, ← ih]
    by_cases c : cell t x (y : Int) = 2
    · simp [c]; omega
    · simp [c]
theorem sign1 {w h : Nat} {t : List (List Int)} {s : List Int} (g : Rect w h t) (q : Way w h s) : signV t s 1 = 0 ↔ keptFree t 0 s = true := by
  have := sign_free t s 0 (by have := g.hh; have := q.len; omega)
  unfold signV
  rw [List.drop_zero] at this
  rw [show (0 : Int) = ((0 : Nat) : Int) by rfl, ← this]
  omega
theorem sign2 {w h : Nat} {t : List (List Int)} {s : List Int} (g : Rect w h t) (q : Way w h s) : -signV t s 2 = goneSum t 0 s := by
  have := sign_gone t s 0 (by have := g.hh; have := q.len; omega)
  rw [List.drop_zero] at this
  exact this
/-! ### the law's own best -/
def betterG {β : Type} (lt : β → β → Bool) (best : Option β) (v : β) : Option β := match best with
  | none => some v
  | some z => if lt v z = true then some v else some z
def stepG {α β : Type} (f : α → Option β) (lt : β → β → Bool) (best : Option β) (a : α) : Option β := match f a with
  | none => best
  | some v => betterG lt best v
theorem fold_bestG {α β : Type} (f : α → Option β) (lt : β → β → Bool) (le : β → β → Prop) (rf : ∀ a, le a a) (tr : ∀ a b c, le a b → le b c → le a c) (l1 : ∀ a b, lt a b = true → le a b) (l2 : ∀ a b, lt a b = false → le b a) : ∀ (l : List α) (init : Option β), match l.foldl (stepG f lt) init with
    | none => init = none ∧ ∀ a ∈ l, f a = none
    | some m => (init = some m ∨ ∃ a ∈ l, f a = some m) ∧ (∀ a ∈ l, ∀ v, f a = some v → le m v) ∧ ∀ z, init = some z → le m z
  | [], init => by
    cases init with
    | none => exact ⟨rfl, fun a ha => (nomatch ha)⟩
    | some m => exact ⟨.inl rfl, fun a ha => (nomatch ha), fun z hz => by cases hz; exact rf _⟩
  | a :: l, init => by
    rw [List.foldl_cons]
    cases q : f a with
    | none =>
      have eq : stepG f lt init a = init := by unfold stepG; rw [q]
      rw [eq]
      have ih := fold_bestG f lt le rf tr l1 l2 l init
      revert ih
      generalize l.foldl (stepG f lt) init = r
      cases r with
      | none => exact fun ih => ⟨ih.1, fun b hb => by rcases List.mem_cons.mp hb with e | e; rw [e]; exact q; exact ih.2 b e⟩
      | some m =>
        rintro ⟨i1, i2, i3⟩
        refine ⟨?_, fun b hb v hv => ?_, i3⟩
        · rcases i1 with e | ⟨b, hb, e⟩
          · exact .inl e
          · exact .inr ⟨b, List.mem_cons_of_mem _ hb, e⟩
        · rcases List.mem_cons.mp hb with e | e
          · rw [e, q] at hv; cases hv
          · exact i2 b e v hv
    | some v =>
      have eq : stepG f lt init a = betterG lt init v := by unfold stepG; rw [q]
      rw [eq]
      obtain ⟨u, hu, s1, s2, s3⟩ : ∃ u, betterG lt init v = some u ∧ (init = some u ∨ v = u) ∧ le u v ∧ ∀ z, init = some z → le u z := by
        cases init with
        | none => exact ⟨v, rfl, .inr rfl, rf _, fun z hz => (nomatch hz)⟩
        | some z =>
          cases c : lt v z with
          | true => exact ⟨v, by simp [betterG, c], .inr rfl, rf _, fun y hy => by cases hy; exact l1 _ _ c⟩
          | false => exact ⟨z, by simp [betterG, c], .inl rfl, l2 _ _ c, fun y hy => by cases hy; exact rf _⟩
      rw [hu]
      have ih := fold_bestG f lt le rf tr l1 l2 l (some u)
      revert ih
      generalize l.foldl (stepG f lt) (some u) = r
      cases r with
      | none => exact fun ih => (nomatch ih.1)
      | some m =>
        rintro ⟨i1, i2, i3⟩
        have mu := i3 u rfl
        refine ⟨?_, fun b hb y hy => ?_, fun z hz => tr _ _ _ mu (s3 z hz)⟩
        · rcases i1 with e | ⟨b, hb, e⟩
          · injection e with e
            subst e
            rcases s1 with e2 | e2
            · exact .inl e2
            · exact .inr ⟨a, List.mem_cons_self, by rw [q, e2]⟩
          · exact .inr ⟨b, List.mem_cons_of_mem _ hb, e⟩
        · rcases List.mem_cons.mp hb with e | e
          · rw [e, q] at hy
            cases hy
            exact tr _ _ _ mu s2
          · exact i2 b e y hy
abbrev Tri := (Int × Int) × List Int
def tri (q : Tri) : D := .tuple [.int q.1.1, .int q.1.2, row q.2]
def ltT (a b : Tri) : Bool := ltP a.1 b.1 || (decide (a.1 = b.1) && decide (a.2 < b.2))
def leT (a b : Tri) : Prop := ltP a.1 b.1 = true ∨ (a.1 = b.1 ∧ a.2 ≤ b.2)
theorem leT_refl (a : Tri) : leT a a := .inr ⟨rfl, List.le_refl _⟩
theorem ltP_trans {a b c : Int × Int} (h : ltP a b = true) (k : ltP b c = true) : ltP a c = true := by rw [ltP_iff] at *; omega
theorem leT_trans (a b c : Tri) (h : leT a b) (k : leT b c) : leT a c := by
  rcases h with h | ⟨h1, h2⟩
  · rcases k with k | ⟨k1, k2⟩
    · exact .inl (ltP_trans h k)
    · exact .inl (by rw [← k1]; exact h)
  · rcases k with k | ⟨k1, k2⟩
    · exact .inl (by rw [h1]; exact k)
    · exact .inr ⟨h1.trans k1, List.le_trans h2 k2⟩
theorem ltT_le (a b : Tri) (h : ltT a b = true) : leT a b := by
  unfold ltT at h
  rw [Bool.or_eq_true, Bool.and_eq_true, decide_eq_true_eq, decide_eq_true_eq] at h
  rcases h with h | ⟨h1, h2⟩
  · exact .inl h
  · exact .inr ⟨h1, List.le_of_lt h2⟩
theorem ltT_ge (a b : Tri) (h : ltT a b = false) : leT b a := by
  unfold ltT at h
  rw [Bool.or_eq_false_iff, Bool.and_eq_false_iff, decide_eq_false_iff_not, decide_eq_false_iff_not] at h
  have h1 := ltP_false.mp h.1
  rcases h.2 with e | e
  · refine .inl (ltP_iff.mpr ?_)
    unfold leP at h1
    have : ¬ (a.1.1 = b.1.1 ∧ a.1.2 = b.1.2) := fun z => e (Prod.ext z.1 z.2)
    omega
  · by_cases z : a.1 = b.1
    · exact .inr ⟨z.symm, List.not_lt.mp e⟩
    · refine .inl (ltP_iff.mpr ?_)
      unfold leP at h1
      have : ¬ (a.1.1 = b.1.1 ∧ a.1.2 = b.1.2) := fun y => z (Prod.ext y.1 y.2)
      omega
end Rf
set_option Elab.async false
set_option linter.all false
set_option autoImplicit false
set_option maxHeartbeats 2000000
set_option maxRecDepth 100000
namespace Rf
open PySem L2
theorem alike_row (a b : List Int) : PySem.W.alike (row a) (row b) = true := by
  show PySem.W.alike (.tuple _) (.tuple _) = true
  simp only [PySem.W.alike]
  exact PySem.W.alike_ints a b
theorem dataLt_row (a b : List Int) : PySem.W.dataLt (row a) (row b) = decide (a < b) := by
  show PySem.W.dataLt (.tuple _) (.tuple _) = _
  rw [PySem.W.dataLt_tuple]
  exact PySem.W.dataLt_ints a b
theorem alike_tri (a b : Tri) : PySem.W.alike (tri a) (tri b) = true := by
  show PySem.W.alike (.tuple _) (.tuple _) = true
  simp only [PySem.W.alike, PySem.W.alikeAll, alike_row]
  rfl
theorem dataLt_tri (a b : Tri) : PySem.W.dataLt (tri a) (tri b) = ltT a b := by
  show PySem.W.dataLt (.tuple [.int a.1.1, .int a.1.2, row a.2]) (.tuple [.int b.1.1, .int b.1.2, row b.2]) = _
  have e0 : PyProof.Rows.lexLt PyProof.Rows.itemOrd (PySem.W.keyToksAll []) (PySem.W.keyToksAll []) = false := PyProof.Rows.lex_irrefl _
  rw [PySem.W.dataLt_tuple, PySem.W.dataLt_cons (alike_int _ _), PySem.W.dataLt_cons (alike_int _ _), PySem.W.dataLt_cons (alike_row _ _), PySem.W.dataLt_int, PySem.W.dataLt_int, dataLt_row, e0]
  have q1 : ∀ x y : Int, (PyData.eqv (.int x) (.int y) = true) = (x = y) := fun x y => propext (enc_int.eqv x y)
  have q2 : (PyData.eqv (row a.2) (row b.2) = true) = (a.2 = b.2) := propext (enc_row.eqv _ _)
  simp only [q1, q2]
  unfold ltT ltP
  by_cases c1 : a.1.1 = b.1.1
  · rw [if_pos c1]
    by_cases c2 : a.1.2 = b.1.2
    · have e : a.1 = b.1 := Prod.ext c1 c2
      rw [if_pos c2]
      by_cases c3 : a.2 = b.2
      · rw [if_pos c3]
        have : ¬ (b.2 < b.2) := List.lt_irrefl _
        simp [e, c3, this]
      · rw [if_neg c3]; simp [e]
    · rw [if_neg c2]
      have e : ¬ a.1 = b.1 := fun z => c2 (by rw [z])
      simp [c1, e]
  · rw [if_neg c1]
    have e : ¬ a.1 = b.1 := fun z => c1 (by rw [z])
    simp [c1, e]
theorem enc_tri : Enc 3 tri := by
  refine ⟨fun a b => ?_, fun a => ?_, fun a => ?_⟩
  · have r := enc_row.eqv a.2 b.2
    unfold tri
    simp only [PyData.eqv, PyData.eqvAll, Bool.and_eq_true, and_true, decide_eq_true_eq] at r ⊢
    have r' : (PyData.eqv (row a.2) (row b.2) = true) ↔ a.2 = b.2 := enc_row.eqv a.2 b.2
    rw [r']
    constructor
    · rintro ⟨h1, h2, h3⟩
      have h1 : a.1.1 = b.1.1 := by simpa using h1
      have h2 : a.1.2 = b.1.2 := by simpa using h2
      exact Prod.ext (Prod.ext h1 h2) h3
    · rintro rfl
      simp
  · have := lay_row a.2
    unfold tri
    simp [PyData.canLay0, PyData.canLayAll0, this]
  · have := enc_row.dep a.2
    unfold tri
    simp only [PyData.depth, PyData.depthAll]
    omega
theorem lt_of_map {α : Type} {n : Nat} {f : α → D} (e : Enc n f) (hn : n ≤ 60) (xs ys : List D) (a b : α) (ha : f a = .tuple xs) (hb : f b = .tuple ys) (al : PySem.W.alike (f a) (f b) = true) : cmpB .Lt (f a) (f b) = .ok (PySem.W.dataLt (f a) (f b)) := by
  have hd := e.dep a
  rw [ha] at hd al ⊢
  rw [hb] at al ⊢
  show ltD (.tuple xs) (.tuple ys) = _
  simp only [ltD]
  have : Nat.ble (PyData.tuple xs).depth 60 = true := by rw [Nat.ble_eq]; omega
  rw [al, this]; rfl
@[simp] theorem lt_tri (a b : Tri) : cmpB .Lt (tri a) (tri b) = .ok (ltT a b) := by
  rw [lt_of_map enc_tri (by decide) _ _ a b rfl rfl (alike_tri a b), dataLt_tri]
@[simp] theorem isNo_tri (a : Tri) : isNo (tri a) = false := id rfl
@[simp] theorem lt_row (a b : List Int) : cmpB .Lt (row a) (row b) = .ok (decide (a < b)) := by
  rw [lt_of_map enc_row (by decide) _ _ a b rfl rfl (alike_row a b), dataLt_row]
abbrev orow : Option (List Int) → D := op row
theorem enc_orow : Enc 2 orow := enc_row.op (fun a => ⟨rfl, rfl⟩) (by omega)
@[simp] theorem eq_orow (i j : Option (List Int)) : cmpB .Eq (orow i) (orow j) = .ok (decide (i = j)) := eq_enc enc_orow (by decide) i j
@[simp] theorem ne_orow (i j : Option (List Int)) : cmpB .NotEq (orow i) (orow j) = .ok (!decide (i = j)) := ne_enc enc_orow (by decide) i j
/-! ### the law's best -/
def triV (p : List (List Int)) (mn : Bool) (t : List (List Int)) (s : List Int) : Option Tri := if signV t s 1 = 0 then some ((-signV t s 2, costV mn p s), s) else none
def bestV (w h : Nat) (p : List (List Int)) (mn : Bool) (t : List (List Int)) : Option Tri := (waysV w (h - 1)).foldl (stepG (triV p mn t) ltT) none
abbrev Sp_law_best (m : List D → Rs D) : Prop := ∀ w h p t mn, Good w h p → h ≤ 8 → Rect w h t → m [pic p, man mn, pic t] = .ok (op row (bwV w h [p] mn t))
theorem bestV_least {w h : Nat} {p : List (List Int)} {mn : Bool} {t : List (List Int)} (g : Good w h p) (q : Rect w h t) : (bestV w h p mn t).map (·.2) = bwV w h [p] mn t := by
  refine Least.unique (tot := totV [p] mn t) ?_ (least_ok g t)
  have h1 := g.h1
  have fb := fold_bestG (triV p mn t) ltT leT leT_refl leT_trans ltT_le ltT_ge (waysV w (h - 1)) none
  have key : ∀ s, Way w h s → triV p mn t s = (totV [p] mn t s).map fun v => (v, s) := by
    intro s qs
    have e1 := sign1 q qs
    have e2 := sign2 q qs
    rw [totV_eq [p] mn t s (fun e => by have := qs.len; rw [e] at this; simp at this; omega), costSum_one]
    unfold triV
    rw [e2]
    by_cases c : signV t s 1 = 0
    · rw [if_pos c, if_pos (e1.mp c)]; rfl
    · rw [if_neg c, if_neg (fun z => c (e1.mpr z))]; rfl
  have mw : ∀ s, s ∈ waysV w (h - 1) ↔ Way w h s := fun s => by rw [mem_waysV, show h - 1 + 1 = h by omega]
  have eb : bestV w h p mn t = (waysV w (h - 1)).foldl (stepG (triV p mn t) ltT) none := rfl
  rw [eb]
  revert fb
  generalize (waysV w (h - 1)).foldl (stepG (triV p mn t) ltT) none = r
  cases r with
  | none =>
    rintro ⟨_, f2⟩
    refine ⟨fun _ s qs => ?_, fun s e => (nomatch e)⟩
    have := f2 s ((mw s).mpr qs)
    rw [key s qs] at this
    cases z : totV [p] mn t s with
    | none => rfl
    | some v => rw [z] at this; cases this
  | some m =>
    rintro ⟨f1, f2, _⟩
    refine ⟨fun e => (nomatch e), fun s e => ?_⟩
    injection e with e
    rcases f1 with z | ⟨s0, hs0, e0⟩
    · cases z
    · have qs0 := (mw s0).mp hs0
      rw [key s0 qs0] at e0
      cases z : totV [p] mn t s0 with
      | none => rw [z] at e0; cases e0
      | some v =>
        rw [z] at e0
        have e0 : some ((v, s0) : Tri) = some m := e0
        injection e0 with e0
        subst e0
        have e : s0 = s := e
        subst e
        refine ⟨qs0, v, z, fun s' qs' v' hv' => ?_⟩
        have := f2 s' ((mw s').mpr qs') (v', s') (by rw [key s' qs', hv']; rfl)
        rcases this with k | ⟨k1, k2⟩
        · have k : ltP v v' = true := k
          refine ⟨leP_of_lt k, fun ev => ?_⟩
          rw [ev] at k
          rw [ltP_iff] at k
          omega
        · have k1 : v = v' := k1
          exact ⟨by rw [k1]; exact leP_refl _, fun _ => k2⟩
theorem ok_law_best {T : Tb} {fW fS fC : Nat} (hW : Sp_law_ways (T.fn fW)) (hS : Sp_law_signs (T.fn fS)) (hC : Sp_law_cost (T.fn fC)) : Sp_law_best (runD T 3 6 (B_law_best fW fS fC)) := by
  intro w h p t mn g h8 q
  have h0 := g.row0
  have h1 := g.hh
  have k1 := g.h1
  have w2 := g.w2
  rw [← bestV_least g q]
  simp (disch := omega) [runD, B_law_best, idx_tu, h0, h1, hW w h w2 k1 h8]
  refine for_bind (fun (best : Option Tri) ρ => ∃ z4 z5, ρ = [.fz (pic p), .fz (man mn), .fz (pic t), .fz (op tri best), z4, z5]) (stepG (triV p mn t) ltT) none ⟨_, _, rfl⟩ ?_ ?_
  · rintro best s _ hs ⟨z4, z5, rfl⟩
    have qs : Way w h s := by have := mem_waysV.mp hs; rwa [show h - 1 + 1 = h by omega] at this
    have s1 := hS w h t s 1 q (by omega) qs
    have s2 := hS w h t s 2 q (by omega) qs
    have c1 := hC w h p s mn g qs
    by_cases c : signV t s 1 = 0
    · have et : PyData.tuple [.int (-signV t s 2), .int (costV mn p s), row s] = tri ((-signV t s 2, costV mn p s), s) := rfl
      rw [show stepG (triV p mn t) ltT best s = betterG ltT best ((-signV t s 2, costV mn p s), s) by unfold stepG triV; rw [if_pos c]]
      show Nxt _ _
      simp [s1, c, s2, c1, et]
      cases best with
      | none => simp [betterG, op]; exact nxt_ok ⟨_, _, rfl⟩
      | some z =>
        have e2 : op tri (some z) = tri z := rfl
        cases lt : ltT ((-signV t s 2, costV mn p s), s) z <;> simp [betterG, e2, lt] <;> exact nxt_ok ⟨_, _, rfl⟩
    · rw [show stepG (triV p mn t) ltT best s = best by unfold stepG triV; rw [if_neg c]]
      show Nxt _ _
      simp [s1, c]
      exact nxt_ok ⟨_, _, rfl⟩
  · rintro _ ⟨z4, z5, rfl⟩
    show _ = Rs.ok (op row ((bestV w h p mn t).map (·.2)))
    unfold bestV
    generalize (waysV w (h - 1)).foldl (stepG (triV p mn t) ltT) none = r
    cases r with
    | none => simp [op]
    | some z =>
      have i2 : idxD (tri z) (.int 2) = .ok (row z.2) := rfl
      simp [op, i2]
/-! ### free marks, manners, drawn marks -/
theorem row_rep' (r : List Int) : PyData.tuple (List.replicate r.length (.int 0)) = row (r.map fun _ => 0) := by
  unfold row tu
  rw [List.map_map]
  congr 1
  induction r with
  | nil => rfl
  | cons a r ih => rw [List.length_cons, List.replicate_succ, ih]; rfl
abbrev Sp_law_free (m : List D → Rs D) : Prop := ∀ w h p, Rect w h p → w < 1000 → h < 1000 → m [pic p] = .ok (pic (freeV p))
theorem ok_law_free {T : Tb} : Sp_law_free (runD T 1 2 B_law_free) := by
  intro w h p g hw hh
  have h1 := g.hh
  simp [runD, B_law_free]
  rw [cmpr_li row (fun r => r.map fun _ => (0 : Int)) rfl (by omega)]
  · simp [freeV]
  · intro r hr
    have := g.ww r hr
    simp (disch := omega) [turnD, mul1]
    rw [row_rep']
abbrev Sp_law_manner (m : List D → Rs D) : Prop := ∀ (s : List Int) (at_ : Int), s.length ≤ 63 → 0 ≤ at_ → at_ < 1000000 → ∃ b, m [li .int s, .int at_] = .ok (man b)
theorem ok_law_manner {T : Tb} {fD : Nat} (hD : Sp_law_drawn (T.fn fD)) : Sp_law_manner (runD T 2 2 (B_law_manner fD)) := by
  intro s at_ hs h1 h2
  obtain ⟨v, v1, v2, ev⟩ := hD s at_ 2 hs h1 h2 (by omega)
  have : v = 0 ∨ v = 1 := by omega
  rcases this with rfl | rfl
  · refine ⟨true, ?_⟩
    have i : idxD (.list [.str (Str.ofString "worth"), .str (Str.ofString "joins")]) (.int 0) = .ok (man true) := rfl
    simp [runD, B_law_manner, ev, i]
  · refine ⟨false, ?_⟩
    have i : idxD (.list [.str (Str.ofString "worth"), .str (Str.ofString "joins")]) (.int 1) = .ok (man false) := rfl
    simp [runD, B_law_manner, ev, i]
theorem idx_signs {i : Int} (h1 : 0 ≤ i) (h2 : i < 4) : ∃ l : List Int, 1 ≤ l.length ∧ l.length ≤ 5 ∧ (∀ x ∈ l, 0 ≤ x ∧ x ≤ 2) ∧ idxD (.list [.list [.int 0, .int 0, .int 0, .int 1, .int 2], .list [.int 0, .int 0, .int 0, .int 0, .int 1], .list [.int 0, .int 0, .int 2, .int 0, .int 0], .list [.int 0]]) (.int i) = .ok (li .int l) := by
  have : i = 0 ∨ i = 1 ∨ i = 2 ∨ i = 3 := by omega
  rcases this with rfl | rfl | rfl | rfl
  · exact ⟨[0, 0, 0, 1, 2], by decide, by decide, by decide, rfl⟩
  · exact ⟨[0, 0, 0, 0, 1], by decide, by decide, by decide, rfl⟩
  · exact ⟨[0, 0, 2, 0, 0], by decide, by decide, by decide, rfl⟩
  · exact ⟨[0], by decide, by decide, by decide, rfl⟩
abbrev Sp_law_marks (m : List D → Rs D) : Prop := ∀ (s : List Int) (at_ : Int) (w h : Nat) (p : List (List Int)), s.length ≤ 63 → 0 ≤ at_ → at_ < 100000 → w ≤ 20 → h ≤ 20 → Rect w h p → ∃ t, Marks w h t ∧ m [li .int s, .int at_, pic p] = .ok (pic t)
theorem ok_law_marks {T : Tb} {fD : Nat} (hD : Sp_law_drawn (T.fn fD)) : Sp_law_marks (runD T 3 9 (B_law_marks fD)) := by
  intro s at_ w h p hs h1 h2 hw hh gp
  obtain ⟨v, v1, v2, ev⟩ := hD s at_ 4 hs h1 (by omega) (by omega)
  obtain ⟨l, l1, l2, l3, el⟩ := idx_signs v1 v2
  have hp := gp.hh
  let g : Int × List Int → List Int := fun q => (upI 0 w).map fun x => getI l (drawV (T.fn fD) s (at_ + 1 + (w : Int) * q.1 + x) l.length)
  have key : ∀ y : Int, 0 ≤ y → y < (h : Int) → ∀ x : Int, x ∈ upI 0 w → T.fn fD [li .int s, .int (at_ + 1 + (w : Int) * y + x), .int l.length] = .ok (.int (drawV (T.fn fD) s (at_ + 1 + (w : Int) * y + x) l.length)) ∧ 0 ≤ drawV (T.fn fD) s (at_ + 1 + (w : Int) * y + x) l.length ∧ drawV (T.fn fD) s (at_ + 1 + (w : Int) * y + x) l.length < l.length := fun y hy1 hy2 x hx => by
    have hx := mem_upI.mp hx
    have q := mul_bd (a := (w : Int)) (b := y) (by omega) (by omega) (by omega) (by omega)
    exact drawV_ok hD hs (by omega) (by omega) (by omega)
  have hz : ∀ q ∈ (upI 0 p.length).zip p, 0 ≤ q.1 ∧ q.1 < (h : Int) ∧ q.2.length = w := fun q hq => by
    have a := mem_upI.mp (List.of_mem_zip (show (q.1, q.2) ∈ (upI 0 p.length).zip p from hq)).1
    exact ⟨a.1, by omega, gp.ww _ (List.of_mem_zip (show (q.1, q.2) ∈ (upI 0 p.length).zip p from hq)).2⟩
  refine ⟨((upI 0 p.length).zip p).map g, ⟨⟨by simp [hp], fun r hr => ?_⟩, fun r hr c hc => ?_⟩, ?_⟩
  · obtain ⟨q, _, rfl⟩ := List.mem_map.mp hr
    simp [g]
  · obtain ⟨q, hq, rfl⟩ := List.mem_map.mp hr
    obtain ⟨x, hx, rfl⟩ := List.mem_map.mp hc
    obtain ⟨a, b, _⟩ := hz q hq
    have k := key q.1 a b x hx
    exact l3 _ (getI_mem (by omega) (by omega))
  · simp (disch := omega) [runD, B_law_marks, ev, el]
    refine for_end (fun pre ρ => ∃ z5 z6 z7 z8, ρ = [.fz (li .int s), .fz (.int at_), .fz (pic p), .ow ((pre.map g).map row), .fz (li .int l), z5, z6, z7, z8]) ⟨_, _, _, _, rfl⟩ ?_ ?_
    · rintro pre ⟨y, r⟩ q _ ep ⟨z5, z6, z7, z8, rfl⟩
      obtain ⟨hl, hm⟩ := pre_len ep
      obtain ⟨y1, y2, rl⟩ := hz _ hm
      have y1 : 0 ≤ y := y1
      have y2 : y < (h : Int) := y2
      have rl : r.length = w := rl
      rw [List.length_zip, len_upI] at hl
      simp (disch := omega) [pr, rl, mulL, it_rng1, -List.map_map]
      rw [cmpr_li .int (fun x => getI l (drawV (T.fn fD) s (at_ + 1 + (w : Int) * y + x) l.length)) rfl (by rw [len_upI]; omega)]
      · simp (disch := omega) [-List.map_map, grdFew]
        exact nxt_ok ⟨_, _, _, _, rfl⟩
      · intro x hx
        have k1 := key y y1 y2 x hx
        simp (disch := omega) [turnD, k1.1, idx_li]
    · rintro _ ⟨z5, z6, z7, z8, rfl⟩
      simp [-List.map_map]
      rfl
end Rf
set_option Elab.async false
set_option linter.all false
set_option autoImplicit false
set_option maxHeartbeats 2000000
set_option maxRecDepth 100000
namespace Rf
open PySem L2
/-! ### papers -/
def toldV (o : Option (Int × Int)) : Option (Int × Int) := o.map fun b => (-b.1, b.2)
def paperV (w h : Nat) (p : List (List Int)) (mn : Bool) (t : List (List Int)) : List (List (Option (Int × Int))) := (dnTab w h [p] mn t (h - 1)).map fun r => r.map toldV
abbrev topp : List (Option (Int × Int)) → D := tu opp
theorem enc_topp : Enc 3 topp := enc_opp.tu
theorem enc_paper : Enc 4 (tu topp) := enc_topp.tu
@[simp] theorem eq_paper (i j : List (List (Option (Int × Int)))) : cmpB .Eq (tu topp i) (tu topp j) = .ok (decide (i = j)) := eq_enc enc_paper (by decide) i j
@[simp] theorem ne_paper (i j : List (List (Option (Int × Int)))) : cmpB .NotEq (tu topp i) (tu topp j) = .ok (!decide (i = j)) := ne_enc enc_paper (by decide) i j
@[simp] theorem ne_topp (i j : List (Option (Int × Int))) : cmpB .NotEq (topp i) (topp j) = .ok (!decide (i = j)) := ne_enc enc_topp (by decide) i j
@[simp] theorem eq_topp (i j : List (Option (Int × Int))) : cmpB .Eq (topp i) (topp j) = .ok (decide (i = j)) := eq_enc enc_topp (by decide) i j
theorem dnTab_rows {w h : Nat} {ps : List (List (List Int))} {mn : Bool} {t : List (List Int)} : ∀ {k : Nat} {r : List (Option (Int × Int))}, r ∈ dnTab w h ps mn t k → r.length = w
  | 0, r, hr => by rw [List.mem_singleton.mp hr]; exact dnRow_len _ _ _ _ _ _
  | k + 1, r, hr => by
    rcases List.mem_cons.mp hr with e | e
    · rw [e]; exact dnRow_len _ _ _ _ _ _
    · exact dnTab_rows e
abbrev Sp_paper (m : List D → Rs D) : Prop := ∀ w h p mn o, Good w h p → MkOk w h o → m [pic p, man mn, mkD o] = .ok (tu topp (paperV w h p mn (mkV p o)))
theorem ok_paper {T : Tb} {fD fN : Nat} (hD : Sp_downs (T.fn fD)) (hN : Sp_need_all (T.fn fN)) : Sp_paper (runD T 3 6 (B_paper fD fN)) := by
  intro w h p mn o g q
  have k1 := g.h1; have k2 := g.h2; have w2 := g.w2
  have e1 : T.fn fD [.list [pic p], man mn, pic (mkV p o)] = .ok (li (li opp) (dnTab w h [p] mn (mkV p o) (h - 1))) := hD w h [p] mn _ g.pics (mkV_marks g.toRect q).toRect
  have tl := dnTab_len w h [p] mn (mkV p o) (h - 1)
  simp [runD, B_paper, hN w h p mn o g q, e1]
  rw [cmpr_li topp (fun r => r.map toldV) rfl (by omega)]
  · simp
    rfl
  · intro r hr
    have hl := dnTab_rows hr
    simp [turnD]
    rw [cmpr_li opp toldV rfl (by omega)]
    · simp
    · intro o _
      cases o with
      | none => simp [turnD, op, toldV]
      | some b =>
        have i0 : idxD (opp (some b)) (.int 0) = .ok (.int b.1) := rfl
        have i1 : idxD (opp (some b)) (.int 1) = .ok (.int b.2) := rfl
        simp [turnD, i0, i1, toldV]
        rfl
theorem paper_len (w h : Nat) (p : List (List Int)) (mn : Bool) (t : List (List Int)) (h1 : 1 ≤ h) : (paperV w h p mn t).length = h := by
  unfold paperV
  rw [List.length_map, dnTab_len]; omega
theorem paper_row {w h : Nat} {p : List (List Int)} {mn : Bool} {t : List (List Int)} {y : Int} (h1 : 1 ≤ h) (y1 : 0 ≤ y) (y2 : y < (h : Int)) : getI (paperV w h p mn t) y = (dnRow w h [p] mn t (h - 1 - y.toNat)).map toldV := by
  unfold paperV
  rw [getI_map _ _ (by rw [dnTab_len]; omega) (by rw [dnTab_len]; omega), show y = ((y.toNat : Nat) : Int) by omega, dnTab_get _ _ _ _ _ _ _ (by omega)]
  rfl
theorem paper_cell {w h : Nat} {p : List (List Int)} {mn : Bool} {t : List (List Int)} {x y : Int} (h1 : 1 ≤ h) (y1 : 0 ≤ y) (y2 : y < (h : Int)) (x1 : 0 ≤ x) (x2 : x < (w : Int)) : getI (getI (paperV w h p mn t) y) x = toldV (getI (dnRow w h [p] mn t (h - 1 - y.toNat)) x) := by
  rw [paper_row h1 y1 y2, getI_map _ _ (by rw [dnRow_len]; omega) (by rw [dnRow_len]; omega)]
theorem stepsV_one (p : List (List Int)) (mn : Bool) (x y : Int) (b : Option Int) : stepsV [p] mn x y b = stepV mn p x y b := by simp [stepsV]
abbrev Sp_law_cell_due (m : List D → Rs D) : Prop := ∀ w h p t mn x y, Good w h p → Rect w h t → 0 ≤ x → x < (w : Int) → 0 ≤ y → y < (h : Int) → m [pic p, pic t, man mn, tu topp (paperV w h p mn t), .int x, .int y] = .ok (opp (getI (getI (paperV w h p mn t) y) x))
theorem ok_law_cell_due {T : Tb} {fS : Nat} (hS : Sp_law_step (T.fn fS)) : Sp_law_cell_due (runD T 6 12 (B_law_cell_due fS)) := by
  intro w h p t mn x y g q x1 x2 y1 y2
  have k1 := g.h1; have k2 := g.h2; have w2 := g.w2
  have hh := g.hh
  have h0 := g.row0
  have ht := q.hh
  have rt := q.row y1 y2
  rw [paper_cell k1 y1 y2 x1 x2]
  simp (disch := omega) [runD, B_law_cell_due, idx_tu, rt]
  by_cases c1 : getI (getI t y) x = 1
  · simp [c1]
    have : getI (dnRow w h [p] mn t (h - 1 - y.toNat)) x = none := by
      cases hk : h - 1 - y.toNat with
      | zero =>
        rw [dn_zero ⟨x1, x2⟩, show (h : Int) - 1 = y by omega]
        unfold cell
        rw [if_pos c1]
      | succ k =>
        rw [dn_succ ⟨x1, x2⟩, show (h : Int) - 2 - (k : Nat) = y by omega]
        have cb := cellV_best (w := w) (ps := [p]) (mn := mn) (t := t) (dnRow w h [p] mn t k) y x
        revert cb
        cases cellV w [p] mn t (dnRow w h [p] mn t k) y x with
        | none => intro _; rfl
        | some m =>
          rintro ⟨⟨a, _, ca⟩, _⟩
          unfold candV at ca
          cases z : getI (dnRow w h [p] mn t k) a with
          | none => rw [z] at ca; cases ca
          | some u =>
            rw [z] at ca
            have ca : (if getI (getI t y) x = 1 then none else some (hereV [p] mn t u x a y)) = some m := ca
            rw [if_pos c1] at ca; cases ca
    rw [this]; rfl
  · simp (disch := omega) [c1, hh, idx_tu, rt]
    by_cases c2 : y = (h : Int) - 1
    · simp [c2]
      rw [dn_zero ⟨x1, x2⟩]
      have c1' : ¬ cell t x ((h : Int) - 1) = 1 := by unfold cell; rw [← c2]; exact c1
      rw [if_neg c1']
      show _ = (PyData.tuple [.int (-gone t x ((h : Int) - 1)), .int 0])
      unfold gone cell
      by_cases c3 : getI (getI t ((h : Int) - 1)) x = 2 <;> simp [c3]
    · simp [c2]
      obtain ⟨k, ek⟩ : ∃ k, h - 1 - y.toNat = k + 1 := ⟨h - 1 - y.toNat - 1, by omega⟩
      have e1 : getI (paperV w h p mn t) (y + 1) = (dnRow w h [p] mn t k).map toldV := by
        rw [paper_row k1 (by omega) (by omega), show h - 1 - (y + 1).toNat = k by omega]
      have dl := dnRow_len w h [p] mn t k
      have pl := paper_len w h p mn t k1
      rw [ek, dn_succ ⟨x1, x2⟩, show (h : Int) - 2 - (k : Nat) = y by omega]
      have ef : cellV w [p] mn t (dnRow w h [p] mn t k) y x = [x - 1, x, x + 1].foldl (fun best there => if 0 ≤ there ∧ there < (w : Int) then turnV [p] mn t (dnRow w h [p] mn t k) y x best there else best) none := by
        unfold cellV nexts
        rw [List.foldl_filter]
        congr 1
        funext best there
        by_cases c : 0 ≤ there ∧ there < (w : Int)
        · simp [c]
        · rw [if_neg c]
          have : (decide (0 ≤ there) && decide (there < (w : Int))) = false := by
            cases z : (decide (0 ≤ there) && decide (there < (w : Int))) with
            | false => rfl
            | true => simp at z; exact absurd z c
          simp [this]
      rw [ef]
      have eg : ([.int (x - 1), .int x, .int (x + 1)] : List D) = [x - 1, x, x + 1].map PyData.int := rfl
      rw [eg]
      generalize dnRow w h [p] mn t k = below at *
      generalize paperV w h p mn t = P at *
      let ow : Int := if getI (getI t y) x = 2 then 1 else 0
      have how : (if getI (getI t y) x = 2 then (1 : Int) else 0) = ow := rfl
      rw [how]
      refine for_bind (fun (best : Option (Int × Int)) ρ => ∃ z8 z9 z10 z11, ρ = [.fz (pic p), .fz (pic t), .fz (man mn), .fz (tu topp P), .fz (.int x), .fz (.int y), .fz (.int ow), .fz (opp best), z8, z9, z10, z11]) (fun best there => if 0 ≤ there ∧ there < (w : Int) then turnV [p] mn t below y x best there else best) none ⟨_, _, _, _, rfl⟩ ?_ ?_
      · rintro best there _ _ ⟨z8, z9, z10, z11, rfl⟩
        show Nxt _ _
        by_cases c : 0 ≤ there ∧ there < (w : Int)
        · rw [if_pos c]
          have it : idxD (tu topp P) (.int (y + 1)) = .ok (topp (below.map toldV)) := by rw [idx_tu topp P (by omega) (by omega), e1]
          have ic : idxD (topp (below.map toldV)) (.int there) = .ok (opp (toldV (getI below there))) := by rw [idx_tu opp _ (by rw [List.length_map]; omega) (by rw [List.length_map]; omega), getI_map _ _ (by omega) (by omega)]
          unfold turnV
          cases eb : getI below there with
          | none =>
            rw [eb] at ic
            have ic : idxD (topp (below.map toldV)) (.int there) = .ok .none := ic
            simp (disch := omega) [c.1, c.2, idx_tu, h0, hh, it, ic]
            exact nxt_ok ⟨_, _, _, _, rfl⟩
          | some b =>
            rw [eb] at ic
            have ic : idxD (topp (below.map toldV)) (.int there) = .ok (.tuple [.int (-b.1), .int b.2]) := ic
            have hst := hS w h p there (y + 1) (some x) mn g.toRect c.1 c.2 (by omega) (by omega) (fun z e => by cases e; omega)
            have hst : T.fn fS [pic p, man mn, .int there, .int (y + 1), .int x] = .ok (.int (stepV mn p there (y + 1) (some x))) := hst
            have c1' : ¬ cell t x y = 1 := c1
            have eh : PyData.tuple [.int (b.1 - ow), .int (b.2 + stepV mn p there (y + 1) (some x))] = pp (hereV [p] mn t b x there y) := by
              show _ = PyData.tuple [.int (b.1 + gone t x y), .int (b.2 + stepsV [p] mn there (y + 1) (some x))]
              rw [stepsV_one]
              have : b.1 - ow = b.1 + gone t x y := by
                unfold gone cell
                show b.1 - (if getI (getI t y) x = 2 then (1 : Int) else 0) = _
                omega
              rw [this]
            simp (disch := omega) [c.1, c.2, idx_tu, h0, hh, it, ic, hst, c1', eh]
            cases best with
            | none => simp [betterV, op]; exact nxt_ok ⟨_, _, _, _, rfl⟩
            | some z =>
              have e2 : opp (some z) = pp z := rfl
              cases lt : ltP (hereV [p] mn t b x there y) z <;> simp [betterV, e2, lt] <;> exact nxt_ok ⟨_, _, _, _, rfl⟩
        · rw [if_neg c]
          by_cases c3 : 0 ≤ there
          · have c4 : ¬ there < (w : Int) := fun z => c ⟨c3, z⟩
            simp (disch := omega) [c3, c4, idx_tu, h0, hh]
            exact nxt_ok ⟨_, _, _, _, rfl⟩
          · simp [c3]
            exact nxt_ok ⟨_, _, _, _, rfl⟩
      · rintro _ ⟨z8, z9, z10, z11, rfl⟩
        generalize [x - 1, x, x + 1].foldl (fun best there => if 0 ≤ there ∧ there < (w : Int) then turnV [p] mn t below y x best there else best) none = r
        cases r with
        | none => simp [op, toldV]
        | some b =>
          have i0 : idxD (opp (some b)) (.int 0) = .ok (.int b.1) := rfl
          have i1 : idxD (opp (some b)) (.int 1) = .ok (.int b.2) := rfl
          simp [i0, i1, toldV]
          rfl
end Rf
set_option Elab.async false
set_option linter.all false
set_option autoImplicit false
set_option maxHeartbeats 2000000
set_option maxRecDepth 100000
namespace Rf
open PySem L2
/-! ### pictures turned about -/
theorem getI_rev {α : Type} [Inhabited α] {l : List α} {i : Int} (h1 : 0 ≤ i) (h2 : i < l.length) : getI l.reverse ((l.length : Int) - 1 - i) = getI l i := by
  have e1 : (l.length : Int) - 1 - i = ((l.length - 1 - i.toNat : Nat) : Int) := by omega
  have e2 : i = ((i.toNat : Nat) : Int) := by omega
  rw [e1, getI_nat]
  conv => rhs; rw [e2]
  rw [getI_nat, List.getD_eq_getElem?_getD, List.getD_eq_getElem?_getD, List.getElem?_reverse (by omega)]
  congr 2
  omega
theorem near_map {f : Int → Int} {r : List Int} (hr : 1 ≤ r.length) (x : Int) : nearV (r.map f) x = f (nearV r x) := by
  unfold nearV
  rw [List.length_map, getI_map f r (by omega) (by omega)]
theorem near_rev {r : List Int} (hr : 1 ≤ r.length) (x : Int) : nearV r.reverse ((r.length : Int) - 1 - x) = nearV r x := by
  unfold nearV
  rw [List.length_reverse, show max 0 (min ((r.length : Int) - 1) ((r.length : Int) - 1 - x)) = (r.length : Int) - 1 - max 0 (min ((r.length : Int) - 1) x) by omega]
  exact getI_rev (by omega) (by omega)
/-- steps cost the same in both, the columns told by φ -/
def SameSteps (w h : Nat) (p p' : List (List Int)) (φ : Int → Int) : Prop := ∀ mn x y (b : Option Int), 0 ≤ x → x < (w : Int) → 0 ≤ y → y < (h : Int) → (∀ z, b = some z → 1 ≤ y ∧ 0 ≤ z ∧ z < (w : Int)) → stepV mn p' (φ x) y (b.map φ) = stepV mn p x y b
theorem same_tail {w h : Nat} {p p' : List (List Int)} {φ : Int → Int} (H : SameSteps w h p p' φ) (mn : Bool) : ∀ (l : List Int) (b y : Int), 1 ≤ y → y + l.length ≤ h → (0 ≤ b ∧ b < (w : Int)) → (∀ x ∈ l, 0 ≤ x ∧ x < (w : Int)) → tailCost mn p' y (φ b) (l.map φ) = tailCost mn p y b l
  | [], _, _, _, _, _, _ => rfl
  | x :: l, b, y, h1, h2, hb, hx => by
    have hxx := hx x List.mem_cons_self
    rw [List.length_cons] at h2
    show stepV mn p' (φ x) y (some (φ b)) + tailCost mn p' (y + 1) (φ x) (l.map φ) = stepV mn p x y (some b) + tailCost mn p (y + 1) x l
    rw [same_tail H mn l x (y + 1) (by omega) (by omega) hxx fun z hz => hx z (List.mem_cons_of_mem _ hz)]
    have := H mn x y (some b) hxx.1 hxx.2 (by omega) (by omega) (fun z e => by cases e; omega)
    rw [show some (φ b) = (some b).map φ from rfl, this]
theorem same_cost {w h : Nat} {p p' : List (List Int)} {φ : Int → Int} (H : SameSteps w h p p' φ) (mn : Bool) {s : List Int} (q : Way w h s) : costV mn p' (s.map φ) = costV mn p s := by
  have hl := q.len
  cases s with
  | nil => rfl
  | cons x l =>
    rw [List.length_cons] at hl
    have hx := q.rng x List.mem_cons_self
    show stepV mn p' (φ x) 0 none + tailCost mn p' 1 (φ x) (l.map φ) = stepV mn p x 0 none + tailCost mn p 1 x l
    rw [same_tail H mn l x 1 (by omega) (by omega) hx fun z hz => q.rng z (List.mem_cons_of_mem _ hz)]
    have := H mn x 0 none hx.1 hx.2 (by omega) (by omega) (fun z e => (nomatch e))
    rw [show (none : Option Int) = (none : Option Int).map φ from rfl, this]; rfl
section
variable {w h : Nat} {p : List (List Int)}
theorem rect_map (g : Rect w h p) (f : List Int → List Int) (hf : ∀ r, (f r).length = r.length) : Rect w h (p.map f) :=
  ⟨by rw [List.length_map, g.hh], fun r hr => by obtain ⟨r0, h0, rfl⟩ := List.mem_map.mp hr; rw [hf, g.ww r0 h0]⟩
theorem cell_map (g : Rect w h p) (f : Int → Int) {x y : Int} (h1 : 0 ≤ x) (h2 : x < w) (h3 : 0 ≤ y) (h4 : y < h) : cell (p.map fun r => r.map f) x y = f (cell p x y) := by
  have a := g.hh
  have b := g.row h3 h4
  unfold cell
  rw [getI_map _ p (by omega) (by omega), getI_map f _ (by omega) (by omega)]
theorem cell_mir (g : Rect w h p) {x y : Int} (h1 : 0 ≤ x) (h2 : x < w) (h3 : 0 ≤ y) (h4 : y < h) : cell (p.map List.reverse) ((w : Int) - 1 - x) y = cell p x y := by
  have a := g.hh
  have b := g.row h3 h4
  unfold cell
  rw [getI_map _ p (by omega) (by omega)]
  have := getI_rev (l := getI p y) (i := x) h1 (by omega)
  rwa [b] at this
theorem join_map (g : Rect w h p) {f : Int → Int} (hf : ∀ a b, (f a - f b).natAbs = (a - b).natAbs) {x y : Int} (w1 : 1 ≤ w) (h3 : 0 ≤ y) (h4 : y < h) : joinV (p.map fun r => r.map f) x y = joinV p x y := by
  have a := g.hh
  have b := g.row h3 h4
  unfold joinV
  rw [getI_map _ p (by omega) (by omega), near_map (by omega), near_map (by omega), hf]
theorem join_mir (g : Rect w h p) {x y : Int} (w1 : 1 ≤ w) (h3 : 0 ≤ y) (h4 : y < h) : joinV (p.map List.reverse) ((w : Int) - 1 - x) y = joinV p x y := by
  have a := g.hh
  have b := g.row h3 h4
  unfold joinV
  rw [getI_map _ p (by omega) (by omega)]
  have e1 := near_rev (r := getI p y) (by omega) (x + 1)
  have e2 := near_rev (r := getI p y) (by omega) (x - 1)
  rw [b] at e1 e2
  rw [show (w : Int) - 1 - x - 1 = (w : Int) - 1 - (x + 1) by omega, show (w : Int) - 1 - x + 1 = (w : Int) - 1 - (x - 1) by omega, e1, e2]
  omega
theorem worth_map (g : Rect w h p) {f : Int → Int} (hf : ∀ a b, (f a - f b).natAbs = (a - b).natAbs) {x y : Int} (h1 : 0 ≤ x) (h2 : x < w) (h3 : 0 ≤ y) (h4 : y < h) : worthV (p.map fun r => r.map f) x y = worthV p x y := by
  have a := g.hh
  unfold worthV
  rw [join_map g hf (by omega) h3 h4, List.length_map, cell_map g f h1 h2 (by omega) (by omega), cell_map g f h1 h2 (by omega) (by omega), hf]
theorem worth_mir (g : Rect w h p) {x y : Int} (h1 : 0 ≤ x) (h2 : x < w) (h3 : 0 ≤ y) (h4 : y < h) : worthV (p.map List.reverse) ((w : Int) - 1 - x) y = worthV p x y := by
  have a := g.hh
  unfold worthV
  rw [join_mir g (by omega) h3 h4, List.length_map, cell_mir g h1 h2 (by omega) (by omega), cell_mir g h1 h2 (by omega) (by omega)]
theorem steps_map (g : Rect w h p) {f : Int → Int} (hf : ∀ a b, (f a - f b).natAbs = (a - b).natAbs) : SameSteps w h p (p.map fun r => r.map f) fun x => x := by
  intro mn x y b h1 h2 h3 h4 hb
  have e1 := worth_map g hf h1 h2 h3 h4
  have e2 := join_map (x := x) g hf (by omega) h3 h4
  cases b with
  | none => unfold stepV; dsimp only [Option.map]; rw [e1, e2]
  | some z =>
    obtain ⟨z1, z2, z3⟩ := hb z rfl
    unfold stepV
    dsimp only [Option.map]
    rw [e1, e2]
    by_cases c : z = x
    · rw [if_pos c, if_pos c]
    · rw [if_neg c, if_neg c, cell_map g f h1 h2 (by omega) (by omega)]
      by_cases c2 : z < x
      · rw [if_pos c2, cell_map g f (by omega) (by omega) h3 h4, hf]
      · rw [if_neg c2, cell_map g f (by omega) (by omega) h3 h4, hf]
theorem steps_mir (g : Rect w h p) : SameSteps w h p (p.map List.reverse) fun x => (w : Int) - 1 - x := by
  intro mn x y b h1 h2 h3 h4 hb
  have e1 := worth_mir g h1 h2 h3 h4
  have e2 := join_mir (x := x) g (by omega) h3 h4
  cases b with
  | none => unfold stepV; dsimp only [Option.map]; rw [e1, e2]
  | some z =>
    obtain ⟨z1, z2, z3⟩ := hb z rfl
    unfold stepV
    dsimp only [Option.map]
    rw [e1, e2]
    cases mn with
    | true => rfl
    | false =>
      rw [if_neg Bool.false_ne_true, if_neg Bool.false_ne_true]
      by_cases c : z = x
      · rw [if_pos c, if_pos (by omega)]
      · rw [if_neg c, if_neg (by omega), cell_mir g h1 h2 (by omega) (by omega)]
        by_cases c2 : z < x
        · have := cell_mir (x := x - 1) g (by omega) (by omega) h3 h4
          rw [if_pos c2, if_neg (by omega), show (w : Int) - 1 - x + 1 = (w : Int) - 1 - (x - 1) by omega, this]
        · have := cell_mir (x := x + 1) g (by omega) (by omega) h3 h4
          rw [if_neg c2, if_pos (by omega), show (w : Int) - 1 - x - 1 = (w : Int) - 1 - (x + 1) by omega, this]
theorem worths_map (g : Rect w h p) (h1 : 1 ≤ h) {f : Int → Int} (hf : ∀ a b, (f a - f b).natAbs = (a - b).natAbs) : worthsV (p.map fun r => r.map f) = worthsV p := by
  have a := g.hh
  have b := g.row (y := 0) (by omega) (by omega)
  unfold worthsV
  rw [List.length_map, getI_map _ p (by omega) (by omega), List.length_map, a, b]
  apply List.map_congr_left
  intro y hy
  have hy := mem_upI.mp hy
  apply List.map_congr_left
  intro x hx
  have hx := mem_upI.mp hx
  exact worth_map g hf (by omega) (by omega) (by omega) (by omega)
theorem upI_rev (n : Nat) : (upI 0 n).reverse = (upI 0 n).map fun x => (n : Int) - 1 - x := by
  unfold upI
  rw [← List.map_reverse, List.map_map]
  apply List.ext_getElem?
  intro i
  rw [List.getElem?_map, List.getElem?_map]
  by_cases h : i < n
  · rw [List.getElem?_reverse (by simpa using h), List.getElem?_range h, List.length_range, List.getElem?_range (by omega)]
    simp only [Option.map_some, Function.comp]
    congr 1
    omega
  · rw [List.getElem?_eq_none (by simp; omega), List.getElem?_eq_none (by simp; omega)]
    rfl
theorem worths_mir (g : Rect w h p) (h1 : 1 ≤ h) : worthsV (p.map List.reverse) = (worthsV p).map List.reverse := by
  have a := g.hh
  have b := g.row (y := 0) (by omega) (by omega)
  unfold worthsV
  rw [List.length_map, getI_map _ p (by omega) (by omega), List.length_reverse, a, b, List.map_map]
  apply List.map_congr_left
  intro y hy
  have hy := mem_upI.mp hy
  simp only [Function.comp]
  rw [← List.map_reverse, upI_rev, List.map_map]
  apply List.map_congr_left
  intro x hx
  have hx := mem_upI.mp hx
  simp only [Function.comp]
  have := worth_mir (x := (w : Int) - 1 - x) g (by omega) (by omega) (y := y) (by omega) (by omega)
  rw [← this]
  congr 1
  omega
theorem row_flip (g : Rect w h p) {y : Int} (h3 : 0 ≤ y) (h4 : y < h) : getI p.reverse ((h : Int) - 1 - y) = getI p y := by
  have := getI_rev (l := p) (i := y) h3 (by have := g.hh; omega)
  rwa [g.hh] at this
theorem rect_flip (g : Rect w h p) : Rect w h p.reverse := ⟨by rw [List.length_reverse, g.hh], fun r hr => g.ww r (List.mem_reverse.mp hr)⟩
theorem worth_flip (g : Rect w h p) {x y : Int} (h3 : 0 ≤ y) (h4 : y < h) : worthV p.reverse x ((h : Int) - 1 - y) = worthV p x y := by
  have a := g.hh
  have e0 := row_flip g h3 h4
  unfold worthV
  have e1 : joinV p.reverse x ((h : Int) - 1 - y) = joinV p x y := by unfold joinV; rw [e0]
  have e2 : cell p.reverse x (max 0 ((h : Int) - 1 - y - 1)) = cell p x (min ((p.length : Int) - 1) (y + 1)) := by
    unfold cell
    rw [show max 0 ((h : Int) - 1 - y - 1) = (h : Int) - 1 - min ((p.length : Int) - 1) (y + 1) by omega, row_flip g (by omega) (by omega)]
  have e3 : cell p.reverse x (min ((p.length : Int) - 1) ((h : Int) - 1 - y + 1)) = cell p x (max 0 (y - 1)) := by
    unfold cell
    rw [show min ((p.length : Int) - 1) ((h : Int) - 1 - y + 1) = (h : Int) - 1 - max 0 (y - 1) by omega, row_flip g (by omega) (by omega)]
  rw [e1, List.length_reverse, e2, e3]
  omega
theorem worths_flip (g : Rect w h p) (h1 : 1 ≤ h) : worthsV p.reverse = (worthsV p).reverse := by
  have a := g.hh
  have b := g.row (y := 0) (by omega) (by omega)
  have b2 := (rect_flip g).row (y := 0) (by omega) (by omega)
  unfold worthsV
  rw [List.length_reverse, a, b, b2, ← List.map_reverse, upI_rev, List.map_map]
  apply List.map_congr_left
  intro y hy
  have hy := mem_upI.mp hy
  simp only [Function.comp]
  apply List.map_congr_left
  intro x hx
  have := worth_flip (x := x) g (y := (h : Int) - 1 - y) (by omega) (by omega)
  rw [← this]
  congr 1
  omega
theorem cost_true (p : List (List Int)) (s : List Int) : costV true p s = (((upI 0 s.length).zip s).map fun q => worthV p q.2 q.1).sum := by
  rw [← cost_sum0]
  simp only [show ∀ x y b, stepV true p x y b = worthV p x y from fun x y b => by cases b <;> simp [stepV]]
theorem sum_rev : ∀ l : List Int, l.reverse.sum = l.sum
  | [] => rfl
  | a :: l => by rw [List.reverse_cons, List.sum_append, sum_rev l, List.sum_cons]; simp; omega
theorem sum_upI_rev (n : Nat) (F : Int → Int) : ((upI 0 n).map fun x => F ((n : Int) - 1 - x)).sum = ((upI 0 n).map F).sum := by
  rw [← sum_rev ((upI 0 n).map F), ← List.map_reverse, upI_rev, List.map_map]; rfl
theorem cost_flip (g : Rect w h p) {s : List Int} (q : Way w h s) : costV true p.reverse s.reverse = costV true p s := by
  have hl := q.len
  have e1 := enum_map s fun q : Int × Int => worthV p q.2 q.1
  have e2 := enum_map s.reverse fun q : Int × Int => worthV p.reverse q.2 q.1
  rw [cost_true, cost_true, e1, e2, List.length_reverse, hl, ← sum_upI_rev h]
  congr 1
  apply List.map_congr_left
  intro y hy
  have hy := mem_upI.mp hy
  dsimp only
  have e3 := getI_rev (l := s) (i := y) hy.1 (by omega)
  rw [hl] at e3
  rw [e3]
  exact worth_flip g (by omega) (by omega)
theorem way_mir {s : List Int} (q : Way w h s) : Way w h (s.map fun x => (w : Int) - 1 - x) := by
  refine ⟨by rw [List.length_map, q.len], fun x hx => ?_, ?_⟩
  · obtain ⟨z, hz, rfl⟩ := List.mem_map.mp hx
    have := q.rng z hz
    omega
  · have := q.st
    rw [stepsOk_zip] at this ⊢
    rw [← List.map_tail, List.zip_map, List.all_map]
    rw [List.all_eq_true] at this ⊢
    intro z hz
    have := this z hz
    simp only [Function.comp, Prod.map, decide_eq_true_eq] at this ⊢
    omega
theorem way_flip {s : List Int} (q : Way w h s) : Way w h s.reverse := by
  refine ⟨by rw [List.length_reverse, q.len], fun x hx => q.rng x (List.mem_reverse.mp hx), ?_⟩
  have key : ∀ s : List Int, stepsOk s = true → stepsOk s.reverse = true := by
    intro s
    induction s with
    | nil => exact fun h => h
    | cons a s ih =>
      intro h
      cases s with
      | nil => rfl
      | cons b s =>
        have h' : (decide ((a - b).natAbs < 2) && stepsOk (b :: s)) = true := h
        rw [Bool.and_eq_true, decide_eq_true_eq] at h'
        have i1 := ih h'.2
        rw [List.reverse_cons] at i1 ⊢
        rw [List.reverse_cons]
        exact stepsOk_snoc i1 (by omega)
  exact key s q.st
theorem step_pos (mn : Bool) (p : List (List Int)) (x y : Int) (b : Option Int) : 0 ≤ stepV mn p x y b := by
  unfold stepV worthV joinV
  cases b with
  | none => split <;> omega
  | some z =>
    dsimp only
    split
    · omega
    · split <;> omega
theorem tail_pos (mn : Bool) (p : List (List Int)) : ∀ (l : List Int) (b y : Int), 0 ≤ tailCost mn p y b l
  | [], _, _ => Int.le_refl _
  | x :: l, b, y => by
    have h1 := step_pos mn p x y (some b)
    have h2 := tail_pos mn p l x (y + 1)
    show 0 ≤ stepV mn p x y (some b) + tailCost mn p (y + 1) x l
    omega
theorem cost_pos (mn : Bool) (p : List (List Int)) (s : List Int) : 0 ≤ costV mn p s := by
  cases s with
  | nil => exact Int.le_refl _
  | cons x l =>
    have h1 := step_pos mn p x 0 none
    have h2 := tail_pos mn p l x 1
    show 0 ≤ stepV mn p x 0 none + tailCost mn p 1 x l
    omega
theorem sum_le {α : Type} {f g : α → Int} : ∀ {l : List α}, (∀ a ∈ l, f a ≤ g a) → (l.map f).sum ≤ (l.map g).sum
  | [], _ => Int.le_refl _
  | a :: l, H => by
    have h1 := H a List.mem_cons_self
    have h2 := sum_le (l := l) fun b hb => H b (List.mem_cons_of_mem _ hb)
    rw [List.map_cons, List.map_cons, List.sum_cons, List.sum_cons]
    omega
theorem joins_le (p : List (List Int)) (s : List Int) : (((upI 0 s.length).zip s).map fun q => joinV p q.2 q.1).sum ≤ costV false p s := by
  rw [← cost_sum0]
  apply sum_le
  rintro ⟨y, x⟩ _
  dsimp only
  unfold stepV
  cases getI (befs s) y with
  | none => simp
  | some z =>
    dsimp only
    rw [if_neg (by decide)]
    split <;> omega
end
/-! ### pictures of one shade -/
def flat (w h : Nat) (c : Int) : List (List Int) := List.replicate h (List.replicate w c)
theorem flat_rect (w h : Nat) (c : Int) : Rect w h (flat w h c) := ⟨by simp [flat], fun r hr => by rw [(List.mem_replicate.mp hr).2]; simp⟩
theorem getI_rep {α : Type} [Inhabited α] {n : Nat} {a : α} {i : Int} (h1 : 0 ≤ i) (h2 : i < n) : getI (List.replicate n a) i = a :=
  (List.mem_replicate.mp (getI_mem (l := List.replicate n a) (i := i) (by simp; omega) (by simp; omega))).2
theorem flat_cell {w h : Nat} {c x y : Int} (h1 : 0 ≤ x) (h2 : x < w) (h3 : 0 ≤ y) (h4 : y < h) : cell (flat w h c) x y = c := by
  unfold cell flat
  rw [getI_rep h3 h4, getI_rep h1 h2]
theorem flat_near {w : Nat} {c x : Int} (w1 : 1 ≤ w) : nearV (List.replicate w c) x = c := by
  unfold nearV
  rw [List.length_replicate]
  exact getI_rep (by omega) (by omega)
theorem flat_step {w h : Nat} {c x y : Int} (mn : Bool) (b : Option Int) (h1 : 0 ≤ x) (h2 : x < w) (h3 : 0 ≤ y) (h4 : y < h) (hb : ∀ z, b = some z → 1 ≤ y ∧ 0 ≤ z ∧ z < (w : Int)) : stepV mn (flat w h c) x y b = 0 := by
  have hl : (flat w h c).length = h := by simp [flat]
  have e1 : joinV (flat w h c) x y = 0 := by
    unfold joinV flat
    rw [getI_rep h3 h4, flat_near (by omega), flat_near (by omega)]; simp
  have e2 : worthV (flat w h c) x y = 0 := by
    unfold worthV
    rw [e1, flat_cell h1 h2 (by omega) (by omega), flat_cell h1 h2 (by omega) (by omega)]; simp
  unfold stepV
  cases b with
  | none => rw [e1, e2]; simp
  | some z =>
    obtain ⟨z1, z2, z3⟩ := hb z rfl
    dsimp only
    rw [e1, e2, flat_cell h1 h2 (by omega) (by omega)]
    by_cases c1 : z = x
    · rw [if_pos c1]; simp
    · rw [if_neg c1]
      by_cases c2 : z < x
      · rw [if_pos c2, flat_cell (by omega) (by omega) h3 h4]; simp
      · rw [if_neg c2, flat_cell (by omega) (by omega) h3 h4]; simp
theorem flat_tail {w h : Nat} {c : Int} (mn : Bool) : ∀ (l : List Int) (b y : Int), 1 ≤ y → y + l.length ≤ h → (0 ≤ b ∧ b < (w : Int)) → (∀ x ∈ l, 0 ≤ x ∧ x < (w : Int)) → tailCost mn (flat w h c) y b l = 0
  | [], _, _, _, _, _, _ => rfl
  | x :: l, b, y, h1, h2, hb, hx => by
    have hxx := hx x List.mem_cons_self
    rw [List.length_cons] at h2
    show stepV mn _ x y (some b) + tailCost mn _ (y + 1) x l = 0
    rw [flat_tail mn l x (y + 1) (by omega) (by omega) hxx fun z hz => hx z (List.mem_cons_of_mem _ hz), flat_step mn _ hxx.1 hxx.2 (by omega) (by omega) (fun z e => by cases e; omega)]
    rfl
theorem flat_cost {w h : Nat} {c : Int} (mn : Bool) {s : List Int} (q : Way w h s) : costV mn (flat w h c) s = 0 := by
  have hl := q.len
  cases s with
  | nil => rfl
  | cons x l =>
    rw [List.length_cons] at hl
    have hx := q.rng x List.mem_cons_self
    show stepV mn _ x 0 none + tailCost mn _ 1 x l = 0
    rw [flat_tail mn l x 1 (by omega) (by omega) hx fun z hz => q.rng z (List.mem_cons_of_mem _ hz), flat_step mn none hx.1 hx.2 (by omega) (by omega) (fun z e => by cases e)]
    rfl
theorem flat_worths {w h : Nat} {c : Int} (h1 : 1 ≤ h) : worthsV (flat w h c) = flat w h 0 := by
  have hl : (flat w h c).length = h := by simp [flat]
  have h0 : (getI (flat w h c) 0).length = w := by unfold flat; rw [getI_rep (by omega) (by omega)]; simp
  unfold worthsV
  rw [hl, h0]
  have : ∀ y ∈ upI 0 h, ((upI 0 w).map fun x => worthV (flat w h c) x y) = List.replicate w 0 := by
    intro y hy
    have hy := mem_upI.mp hy
    rw [List.eq_replicate_iff]
    refine ⟨by simp, fun z hz => ?_⟩
    obtain ⟨x, hx, rfl⟩ := List.mem_map.mp hz
    have hx := mem_upI.mp hx
    have := flat_step (w := w) (h := h) (c := c) (x := x) (y := y) true none (by omega) (by omega) (by omega) (by omega) (fun z e => by cases e)
    simpa [stepV] using this
  unfold flat at this ⊢
  rw [List.eq_replicate_iff]
  refine ⟨by simp, fun z hz => ?_⟩
  obtain ⟨y, hy, rfl⟩ := List.mem_map.mp hz
  exact this y hy
/-! ### the greatest of a list -/
def maxL : List Int → Int
  | [] => 0
  | x :: xs => maxBy ltI x xs
theorem maxBy_mem (xs : List Int) : ∀ x : Int, maxBy ltI x xs ∈ x :: xs := by
  induction xs with
  | nil => intro x; exact List.mem_cons_self
  | cons y xs ih =>
    intro x
    have := ih (if ltI x y = true then y else x)
    show maxBy ltI (if ltI x y = true then y else x) xs ∈ _
    rcases List.mem_cons.mp this with e | e
    · rw [e]
      by_cases q : ltI x y = true
      · rw [if_pos q]; simp
      · rw [if_neg q]; simp
    · exact List.mem_cons_of_mem _ (List.mem_cons_of_mem _ e)
theorem maxBy_ge (xs : List Int) : ∀ x y : Int, y ∈ x :: xs → y ≤ maxBy ltI x xs := by
  induction xs with
  | nil => intro x y hy; rw [List.mem_singleton.mp hy]; exact Int.le_refl _
  | cons z xs ih =>
    intro x y hy
    show y ≤ maxBy ltI (if ltI x z = true then z else x) xs
    by_cases q : ltI x z = true
    · have q2 : x < z := by unfold ltI at q; simpa using q
      rw [if_pos q]
      rcases List.mem_cons.mp hy with e | e
      · have := ih z z List.mem_cons_self
        omega
      · exact ih z y e
    · have q2 : ¬ x < z := by unfold ltI at q; simpa using q
      rw [if_neg q]
      rcases List.mem_cons.mp hy with e | e
      · have := ih x x List.mem_cons_self
        omega
      · rcases List.mem_cons.mp e with e | e
        · have := ih x x List.mem_cons_self
          omega
        · exact ih x y (List.mem_cons_of_mem _ e)
theorem maxL_mem {l : List Int} (h : l ≠ []) : maxL l ∈ l := by
  cases l with
  | nil => exact absurd rfl h
  | cons x xs => exact maxBy_mem xs x
theorem maxL_ge {l : List Int} {y : Int} (h : y ∈ l) : y ≤ maxL l := by
  cases l with
  | nil => cases h
  | cons x xs => exact maxBy_ge xs x y h
theorem max_rowL {l : List Int} (h : l ≠ []) : bclD .max [row l] = .ok (.int (maxL l)) := by
  cases l with
  | nil => exact absurd rfl h
  | cons x xs => exact max_row x xs
theorem max_liL {l : List Int} (h : l ≠ []) : bclD .max [li .int l] = .ok (.int (maxL l)) := by
  cases l with
  | nil => exact absurd rfl h
  | cons x xs => exact max_ints x xs
end Rf
set_option Elab.async false
set_option linter.all false
set_option autoImplicit false
set_option maxHeartbeats 2000000
set_option maxRecDepth 100000
namespace Rf
open PySem L2
section
variable {w h : Nat} {ps : List (List (List Int))} {mn : Bool} {t : List (List Int)}
/-- the least way, and what the table tells of its first cell -/
theorem bw_top {s : List Int} (h1 : 1 ≤ h) (e : bwV w h ps mn t = some s) : ∃ d, 0 ≤ getI s 0 ∧ getI s 0 < (w : Int) ∧ getI (dnRow w h ps mn t (h - 1)) (getI s 0) = some d ∧ totV ps mn t s = some (addP d (0, stepsV ps mn (getI s 0) 0 none)) := by
  obtain ⟨q, v, ev, lv⟩ := (bw_least (w := w) (ps := ps) (mn := mn) (t := t) h1).some s e
  have hl := q.len
  cases s with
  | nil => simp at hl; omega
  | cons x l =>
    have hx := q.rng x (by simp)
    rw [getI_zero]
    rw [totV_cons] at ev
    cases q2 : pcV ps mn t 0 (x :: l) with
    | none => rw [q2] at ev; cases ev
    | some b =>
      rw [q2] at ev
      have ev : some (addP b (0, stepsV ps mn x 0 none)) = some v := ev
      injection ev with ev
      obtain ⟨d, e1, e2⟩ := dn_le (h := h) (h - 1) x l 0 (by omega) (by simp at hl; omega) q.sub b q2
      obtain ⟨g1, g2, g3, _⟩ := greedy_ok (ps := ps) (mn := mn) (t := t) (h := h) (w := w) (h - 1) x 0 d (by omega) hx e1
      obtain ⟨l2, el⟩ := greedy_cons (ps := ps) (mn := mn) (t := t) (h := h) (w := w) (h - 1) x
      rw [el] at g1 g2 g3
      have q3 : Way w h (x :: l2) := ⟨by omega, g1.rng, g1.st⟩
      have t3 : totV ps mn t (x :: l2) = some (addP d (0, stepsV ps mn x 0 none)) := by rw [totV_cons, g3]; rfl
      have l3 := (lv _ q3 _ t3).1
      rw [← ev] at l3
      have eb : b = d := leP_antisymm (leP_add_back l3) e2
      refine ⟨d, hx.1, hx.2, e1, ?_⟩
      rw [totV_cons, q2, eb]; rfl
theorem bw_none_iff : bwV w h ps mn t = none ↔ ∀ x : Int, 0 ≤ x → x < (w : Int) → getI (dnRow w h ps mn t (h - 1)) x = none := by
  have sl : (startsV w ps mn (dnRow w h ps mn t (h - 1))).length = w := by simp [startsV]
  unfold bwV
  constructor
  · intro e x x1 x2
    cases q : (startsV w ps mn (dnRow w h ps mn t (h - 1))).filterMap id with
    | nil =>
      cases z : getI (dnRow w h ps mn t (h - 1)) x with
      | none => rfl
      | some d =>
        have hm : getI (startsV w ps mn (dnRow w h ps mn t (h - 1))) x ∈ startsV w ps mn (dnRow w h ps mn t (h - 1)) := getI_mem (by omega) (by omega)
        have e2 : getI (startsV w ps mn (dnRow w h ps mn t (h - 1))) x = some (addP d (0, stepsV ps mn x 0 none)) := by rw [starts_get ⟨x1, x2⟩, z]; rfl
        have : addP d (0, stepsV ps mn x 0 none) ∈ (startsV w ps mn (dnRow w h ps mn t (h - 1))).filterMap id := List.mem_filterMap.mpr ⟨_, hm, e2⟩
        rw [q] at this; cases this
    | cons a as => rw [q] at e; cases e
  · intro H
    cases q : (startsV w ps mn (dnRow w h ps mn t (h - 1))).filterMap id with
    | nil => rfl
    | cons a as =>
      have hm : a ∈ (startsV w ps mn (dnRow w h ps mn t (h - 1))).filterMap id := by rw [q]; exact List.mem_cons_self
      obtain ⟨o, ho, e⟩ := List.mem_filterMap.mp hm
      unfold startsV at ho
      obtain ⟨x, hx, rfl⟩ := List.mem_map.mp ho
      have hx := mem_upI.mp hx
      rw [H x hx.1 (by omega)] at e
      cases e
theorem bw_way {s : List Int} (h1 : 1 ≤ h) (e : bwV w h ps mn t = some s) : Way w h s ∧ keptFree t 0 s = true ∧ totV ps mn t s = some (goneSum t 0 s, costSum ps mn s) := by
  obtain ⟨q, v, ev, _⟩ := (bw_least (w := w) (ps := ps) (mn := mn) (t := t) h1).some s e
  have ne : s ≠ [] := fun z => by have := q.len; rw [z] at this; simp at this; omega
  refine ⟨q, ?_⟩
  rw [totV_eq ps mn t s ne] at ev ⊢
  cases k : keptFree t 0 s with
  | true => exact ⟨rfl, rfl⟩
  | false => rw [k] at ev; cases ev
/-- no free way is better -/
theorem bw_le {s s' : List Int} (h1 : 1 ≤ h) (e : bwV w h ps mn t = some s) (q' : Way w h s') (k : keptFree t 0 s' = true) : leP (goneSum t 0 s, costSum ps mn s) (goneSum t 0 s', costSum ps mn s') := by
  obtain ⟨q, v, ev, lv⟩ := (bw_least (w := w) (ps := ps) (mn := mn) (t := t) h1).some s e
  obtain ⟨_, _, ev2⟩ := bw_way h1 e
  have ne : s' ≠ [] := fun z => by have := q'.len; rw [z] at this; simp at this; omega
  have e3 : totV ps mn t s' = some (goneSum t 0 s', costSum ps mn s') := by rw [totV_eq ps mn t s' ne, k]; rfl
  rw [ev] at ev2
  injection ev2 with ev2
  rw [← ev2]
  exact (lv s' q' _ e3).1
theorem bw_some {s' : List Int} (h1 : 1 ≤ h) (q' : Way w h s') (k : keptFree t 0 s' = true) : ∃ s, bwV w h ps mn t = some s := by
  cases e : bwV w h ps mn t with
  | some s => exact ⟨s, rfl⟩
  | none =>
    have := (bw_least (w := w) (ps := ps) (mn := mn) (t := t) h1).none e s' q'
    have ne : s' ≠ [] := fun z => by have := q'.len; rw [z] at this; simp at this; omega
    rw [totV_eq ps mn t s' ne, k] at this
    cases this
theorem kept_iff {t : List (List Int)} : ∀ {s : List Int} {y : Int}, keptFree t y s = true ↔ ∀ j : Nat, j < s.length → cell t (getI s (j : Int)) (y + (j : Int)) ≠ 1
  | [], y => by simp [keptFree]
  | x :: l, y => by
    have ih := kept_iff (t := t) (s := l) (y := y + 1)
    unfold keptFree
    rw [Bool.and_eq_true, ih, Bool.not_eq_true', decide_eq_false_iff_not]
    constructor
    · rintro ⟨a, b⟩ j hj
      cases j with
      | zero => rw [show ((0 : Nat) : Int) = 0 by rfl, getI_zero, show y + 0 = y by omega]; exact a
      | succ j =>
        rw [getI_cons_succ, show y + ((j + 1 : Nat) : Int) = y + 1 + (j : Int) by omega]
        exact b j (by simp at hj; omega)
    · intro H
      refine ⟨?_, fun j hj => ?_⟩
      · have := H 0 (by simp)
        rwa [show ((0 : Nat) : Int) = 0 by rfl, getI_zero, show y + 0 = y by omega] at this
      · have := H (j + 1) (by simp; omega)
        rwa [getI_cons_succ, show y + ((j + 1 : Nat) : Int) = y + 1 + (j : Int) by omega] at this
theorem dn_shut (hs : ∀ x : Int, 0 ≤ x → x < (w : Int) → cell t x ((h : Int) - 1) = 1) : ∀ (k : Nat) (x : Int), 0 ≤ x → x < (w : Int) → getI (dnRow w h ps mn t k) x = none
  | 0, x, x1, x2 => by rw [dn_zero ⟨x1, x2⟩, if_pos (hs x x1 x2)]
  | k + 1, x, x1, x2 => by
    rw [dn_succ ⟨x1, x2⟩]
    have cb := cellV_best (w := w) (ps := ps) (mn := mn) (t := t) (dnRow w h ps mn t k) ((h : Int) - 2 - (k : Nat)) x
    revert cb
    cases cellV w ps mn t (dnRow w h ps mn t k) ((h : Int) - 2 - (k : Nat)) x with
    | none => intro _; rfl
    | some m =>
      rintro ⟨⟨a, ha, ca⟩, _⟩
      have ha := mem_nexts.mp ha
      unfold candV at ca
      rw [dn_shut hs k a ha.2.1 ha.2.2] at ca
      cases ca
end
section
variable {w h : Nat} {p t : List (List Int)} {mn : Bool}
theorem kept_mir (g : Rect w h t) : ∀ (s : List Int) (y : Int), 0 ≤ y → y + s.length ≤ h → (∀ x ∈ s, 0 ≤ x ∧ x < (w : Int)) → keptFree (t.map List.reverse) y (s.map fun x => (w : Int) - 1 - x) = keptFree t y s
  | [], _, _, _, _ => rfl
  | x :: l, y, h1, h2, hx => by
    rw [List.length_cons] at h2
    have hxx := hx x List.mem_cons_self
    show (!decide (cell _ ((w : Int) - 1 - x) y = 1) && keptFree _ (y + 1) (l.map fun x => (w : Int) - 1 - x)) = (!decide (cell t x y = 1) && keptFree t (y + 1) l)
    rw [cell_mir g hxx.1 hxx.2 h1 (by omega), kept_mir g l (y + 1) (by omega) (by omega) fun z hz => hx z (List.mem_cons_of_mem _ hz)]
theorem gone_mir (g : Rect w h t) : ∀ (s : List Int) (y : Int), 0 ≤ y → y + s.length ≤ h → (∀ x ∈ s, 0 ≤ x ∧ x < (w : Int)) → goneSum (t.map List.reverse) y (s.map fun x => (w : Int) - 1 - x) = goneSum t y s
  | [], _, _, _, _ => rfl
  | x :: l, y, h1, h2, hx => by
    rw [List.length_cons] at h2
    have hxx := hx x List.mem_cons_self
    show gone _ ((w : Int) - 1 - x) y + goneSum _ (y + 1) (l.map fun x => (w : Int) - 1 - x) = gone t x y + goneSum t (y + 1) l
    unfold gone
    rw [cell_mir g hxx.1 hxx.2 h1 (by omega), gone_mir g l (y + 1) (by omega) (by omega) fun z hz => hx z (List.mem_cons_of_mem _ hz)]
theorem mir_mir {s : List Int} : (s.map fun x => (w : Int) - 1 - x).map (fun x => (w : Int) - 1 - x) = s := by
  rw [List.map_map]
  conv => rhs; rw [← List.map_id s]
  apply List.map_congr_left
  intro x _
  simp only [Function.comp, id]
  omega
/-- mirrored, the least one is worth as much -/
theorem bw_mir {s s' : List Int} (h1 : 1 ≤ h) (gp : Rect w h p) (gt : Rect w h t) (e : bwV w h [p] mn t = some s) (e' : bwV w h [p.map List.reverse] mn (t.map List.reverse) = some s') : (goneSum (t.map List.reverse) 0 s', costV mn (p.map List.reverse) s') = (goneSum t 0 s, costV mn p s) := by
  obtain ⟨q, k, _⟩ := bw_way h1 e
  obtain ⟨q', k', _⟩ := bw_way h1 e'
  have hl := q.len
  have hl' := q'.len
  have val : ∀ {z : List Int}, Way w h z → keptFree (t.map List.reverse) 0 (z.map fun x => (w : Int) - 1 - x) = keptFree t 0 z ∧ goneSum (t.map List.reverse) 0 (z.map fun x => (w : Int) - 1 - x) = goneSum t 0 z ∧ costV mn (p.map List.reverse) (z.map fun x => (w : Int) - 1 - x) = costV mn p z := fun {z} qz => by
    have := qz.len
    exact ⟨kept_mir gt z 0 (by omega) (by omega) qz.rng, gone_mir gt z 0 (by omega) (by omega) qz.rng, same_cost (steps_mir gp) mn qz⟩
  obtain ⟨a1, a2, a3⟩ := val q
  obtain ⟨b1, b2, b3⟩ := val (way_mir q')
  rw [mir_mir] at b1 b2 b3
  have l1 := bw_le h1 e' (way_mir q) (by rw [a1]; exact k)
  have l2 := bw_le h1 e (way_mir q') (by rw [← b1]; exact k')
  rw [costSum_one, costSum_one] at l1 l2
  rw [a2, a3] at l1
  rw [← b2, ← b3] at l2
  exact leP_antisymm l1 l2
theorem Marks.good {t : List (List Int)} (m : Marks w h t) (w1 : 1 ≤ w) (w2 : w ≤ 20) (h1 : 1 ≤ h) (h2 : h ≤ 20) : Good w h t := ⟨m.toRect, w1, w2, h1, h2, fun r hr c hc => by have := m.cl r hr c hc; omega⟩
theorem Good.mir (g : Good w h p) : Good w h (p.map List.reverse) := ⟨rect_map g.toRect _ (fun r => by simp), g.w1, g.w2, g.h1, g.h2, fun r hr x hx => by
  obtain ⟨r0, hr0, rfl⟩ := List.mem_map.mp hr
  exact g.cl r0 hr0 x (List.mem_reverse.mp hx)⟩
theorem Marks.mir {t : List (List Int)} (g : Marks w h t) : Marks w h (t.map List.reverse) := ⟨rect_map g.toRect _ (fun r => by simp), fun r hr x hx => by
  obtain ⟨r0, hr0, rfl⟩ := List.mem_map.mp hr
  exact g.cl r0 hr0 x (List.mem_reverse.mp hx)⟩
/-! ### marks with one more -/
def setC (t : List (List Int)) (x y : Int) (c : Int) : List (List Int) := t.take y.toNat ++ [(getI t y).take x.toNat ++ [c] ++ (getI t y).drop (x + 1).toNat] ++ t.drop (y + 1).toNat
theorem getI_splice {α : Type} [Inhabited α] {l : List α} {i j : Int} {a : α} (h1 : 0 ≤ i) (h2 : i < l.length) (h3 : 0 ≤ j) (h4 : j < l.length) : getI (l.take i.toNat ++ [a] ++ l.drop (i + 1).toNat) j = if j = i then a else getI l j := by
  have e : l.take i.toNat ++ [a] ++ l.drop (i + 1).toNat = l.set i.toNat a := by
    rw [List.set_eq_take_append_cons_drop, if_pos (by omega), show (i + 1).toNat = i.toNat + 1 by omega, List.append_assoc]; rfl
  rw [e, getI_pos _ h3, getI_pos _ h3, List.getD_eq_getElem?_getD, List.getD_eq_getElem?_getD]
  by_cases c : j = i
  · subst c
    rw [if_pos rfl, List.getElem?_set_self (by omega)]; rfl
  · rw [if_neg c, List.getElem?_set_ne (by omega)]
theorem cell_set (g : Rect w h t) {x y x' y' c : Int} (x1 : 0 ≤ x) (x2 : x < w) (y1 : 0 ≤ y) (y2 : y < h) (x3 : 0 ≤ x') (x4 : x' < w) (y3 : 0 ≤ y') (y4 : y' < h) : cell (setC t x y c) x' y' = if x' = x ∧ y' = y then c else cell t x' y' := by
  have hh := g.hh
  have hr := g.row y1 y2
  unfold cell setC
  rw [getI_splice y1 (by omega) y3 (by omega)]
  by_cases e : y' = y
  · subst e
    rw [if_pos rfl, getI_splice x1 (by omega) x3 (by omega)]
    by_cases e2 : x' = x
    · rw [if_pos e2, if_pos ⟨e2, rfl⟩]
    · rw [if_neg e2, if_neg (fun z => e2 z.1)]
  · rw [if_neg e, if_neg (fun z => e z.2)]
theorem mem_splice {α : Type} {l : List α} {i : Int} {a b : α} (h : b ∈ l.take i.toNat ++ [a] ++ l.drop (i + 1).toNat) : b = a ∨ b ∈ l := by
  rcases List.mem_append.mp h with h | h
  · rcases List.mem_append.mp h with h | h
    · exact .inr (List.mem_of_mem_take h)
    · exact .inl (List.mem_singleton.mp h)
  · exact .inr (List.mem_of_mem_drop h)
theorem len_splice {α : Type} {l : List α} {i : Int} {a : α} (h1 : 0 ≤ i) (h2 : i < l.length) : (l.take i.toNat ++ [a] ++ l.drop (i + 1).toNat).length = l.length := by
  simp only [List.length_append, List.length_take, List.length_drop, List.length_singleton]
  omega
theorem set_marks (g : Marks w h t) {x y c : Int} (x1 : 0 ≤ x) (x2 : x < w) (y1 : 0 ≤ y) (y2 : y < h) (c1 : 0 ≤ c) (c2 : c ≤ 2) : Marks w h (setC t x y c) := by
  have hh := g.hh
  have hr := g.toRect.row y1 y2
  have hm : getI t y ∈ t := getI_mem (by omega) (by omega)
  refine ⟨⟨by unfold setC; rw [len_splice y1 (by omega), hh], fun r hr' => ?_⟩, fun r hr' z hz => ?_⟩
  · rcases mem_splice hr' with e | e
    · rw [e, len_splice x1 (by omega), hr]
    · exact g.ww r e
  · rcases mem_splice hr' with e | e
    · rw [e] at hz
      rcases mem_splice hz with e2 | e2
      · rw [e2]; exact ⟨c1, c2⟩
      · exact g.cl _ hm z e2
    · exact g.cl r e z hz
/-- the last row shut -/
def shutL (w : Nat) (t : List (List Int)) : List (List Int) := t.dropLast ++ [List.replicate w 1]
theorem shut_marks (g : Marks w h t) (h1 : 1 ≤ h) : Marks w h (shutL w t) := by
  have hh := g.hh
  refine ⟨⟨by unfold shutL; simp; omega, fun r hr => ?_⟩, fun r hr z hz => ?_⟩
  · rcases List.mem_append.mp hr with e | e
    · exact g.ww r (List.dropLast_subset t e)
    · rw [List.mem_singleton.mp e]; simp
  · rcases List.mem_append.mp hr with e | e
    · exact g.cl r (List.dropLast_subset t e) z hz
    · rw [List.mem_singleton.mp e] at hz
      rw [(List.mem_replicate.mp hz).2]; decide
theorem shut_cell (g : Rect w h t) (h1 : 1 ≤ h) {x : Int} (x1 : 0 ≤ x) (x2 : x < w) : cell (shutL w t) x ((h : Int) - 1) = 1 := by
  have hh := g.hh
  have e : getI (shutL w t) ((h : Int) - 1) = List.replicate w 1 := by
    unfold shutL
    rw [show (h : Int) - 1 = ((t.dropLast.length : Nat) : Int) by simp; omega, getI_nat, List.getD_eq_getElem?_getD]
    simp
  unfold cell
  rw [e]
  exact getI_rep x1 x2
end
end Rf
set_option Elab.async false
set_option linter.all false
set_option autoImplicit false
set_option maxHeartbeats 2000000
set_option maxRecDepth 100000
namespace Rf
open PySem L2
/-! ### widths -/
abbrev Sp_need_width (c : Nat) (m : List D → Rs D) : Prop := ∀ w h p d, Good w h p → d.canLay0 = true → m [pic p, d] = if isNum d 1 w = true then .ok .none else .ex (c, none)
theorem ok_need_width {T : Tb} {fN cN : Nat} (hN : Sp_is_number (T.fn fN)) (hc : cN < T.cls.length) : Sp_need_width cN (runD T 2 2 (B_need_width fN cN)) := by
  intro w h p d g hd
  have h0 := g.row0
  have h1 := g.hh
  have h2 := g.h1
  have e := hN d 1 w hd
  simp (disch := omega) [runD, B_need_width, idx_tu, h0, e]
  cases isNum d 1 w <;> simp [hc]
theorem width_ok {c : Nat} {m : List D → Rs D} (s : Sp_need_width c m) {w h : Nat} {p : List (List Int)} (g : Good w h p) {k : Int} (k1 : 1 ≤ k) (k2 : k ≤ w) : m [pic p, .int k] = .ok .none := by
  rw [s w h p _ g rfl]
  simp [isNum, k1, k2]
/-! ### cells taken out, put in -/
def cutR (r : List Int) (x : Int) : List Int := r.take x.toNat ++ r.drop (x + 1).toNat
def cutV (rows : List (List Int)) (s : List Int) : List (List Int) := (rows.zip s).map fun q => cutR q.1 q.2
theorem cutR_len {r : List Int} {x : Int} (h1 : 0 ≤ x) (h2 : x < r.length) : (cutR r x).length = r.length - 1 := by
  unfold cutR
  rw [List.length_append, List.length_take, List.length_drop]
  omega
theorem cut_rect {w h : Nat} {p : List (List Int)} {s : List Int} (g : Rect w h p) (q : Way w h s) : Rect (w - 1) h (cutV p s) := by
  have hh := g.hh
  have hl := q.len
  refine ⟨by unfold cutV; rw [List.length_map, List.length_zip]; omega, fun r hr => ?_⟩
  obtain ⟨⟨r0, x⟩, hm, rfl⟩ := List.mem_map.mp hr
  have hx := q.rng x (List.of_mem_zip hm).2
  have hw := g.ww r0 (List.of_mem_zip hm).1
  have hx : 0 ≤ x ∧ x < (w : Int) := hx
  have hw : r0.length = w := hw
  show (cutR r0 x).length = _
  rw [cutR_len hx.1 (by omega), hw]
theorem cut_mem {p : List (List Int)} {s : List Int} {r : List Int} {c : Int} (hr : r ∈ cutV p s) (hc : c ∈ r) : ∃ r0 ∈ p, c ∈ r0 := by
  obtain ⟨⟨r0, x⟩, hm, rfl⟩ := List.mem_map.mp hr
  refine ⟨r0, (List.of_mem_zip hm).1, ?_⟩
  unfold cutR at hc
  rcases List.mem_append.mp hc with h | h
  · exact List.mem_of_mem_take h
  · exact List.mem_of_mem_drop h
theorem cut_good {w h : Nat} {p : List (List Int)} {s : List Int} (g : Good w h p) (q : Way w h s) (h2 : 2 ≤ w) : Good (w - 1) h (cutV p s) := by
  have w2 := g.w2
  refine ⟨cut_rect g.toRect q, by omega, by omega, g.h1, g.h2, fun r hr c hc => ?_⟩
  obtain ⟨r0, h0, hc0⟩ := cut_mem hr hc
  exact g.cl r0 h0 c hc0
theorem cut_marks {w h : Nat} {t : List (List Int)} {s : List Int} (g : Marks w h t) (q : Way w h s) : Marks (w - 1) h (cutV t s) := by
  refine ⟨cut_rect g.toRect q, fun r hr c hc => ?_⟩
  obtain ⟨r0, h0, hc0⟩ := cut_mem hr hc
  exact g.cl r0 h0 c hc0
abbrev Sp_without (m : List D → Rs D) : Prop := ∀ w h p s, Rect w h p → w < 1000 → h < 1000 → Way w h s → m [pic p, row s] = .ok (pic (cutV p s))
theorem ok_without {T : Tb} : Sp_without (runD T 2 4 B_without) := by
  intro w h p s g hw hh q
  have h1 := g.hh
  simp [runD, B_without]
  rw [cmpr_li row (fun q : List Int × Int => cutR q.1 q.2) rfl (by simp; omega)]
  · simp [cutV]
  · rintro ⟨r, x⟩ hm
    have hx := q.rng x (List.of_mem_zip hm).2
    have hr := g.ww r (List.of_mem_zip hm).1
    have c1 : cutD r none (some x) = r.take x.toNat := cut_to _ hx.1
    have c2 : cutD r (some (x + 1)) none = r.drop (x + 1).toNat := cut_from _ (by omega)
    have a1 : binD .Add (row (r.take x.toNat)) (row (r.drop (x + 1).toNat)) = .ok (row (cutR r x)) := add_tu .int _ _ (by simp; omega)
    simp [pr, c1, c2, a1]
def cellsV (p : List (List Int)) (s : List Int) : List Int := (p.zip s).map fun q => getI q.1 q.2
def isCells : D → Int → Bool
  | .tuple xs, h => decide ((xs.length : Int) = h) && xs.all fun d => isNum d 0 99
  | _, _ => false
abbrev Sp_is_cells (m : List D → Rs D) : Prop := ∀ (d : D) (h : Int), d.canLay0 = true → h < 1000000 → m [d, .int h] = .ok (.bool (isCells d h))
theorem ok_is_cells {T : Tb} {fN gM : Nat} (hN : Sp_is_number (T.fn fN)) (hM : T.gl gM = .ok (.int 99)) : Sp_is_cells (runD T 2 3 (B_is_cells fN gM)) := by
  intro d h hd hh
  cases d <;> first | (simp [PyData.canLay0] at hd; done) | simp [runD, B_is_cells, isCells]
  rename_i xs
  simp only [PyData.canLay0] at hd
  by_cases e : (xs.length : Int) = h
  · simp [e]
    rw [cmpr_li .bool (fun d => isNum d 0 99) (map_id' xs) (by omega) fun a ha => by simp [hM, hN _ _ _ (lay_mem hd ha)]]
    simp [List.all_map, Function.comp_def]
  · simp [e]
/-! ### narrowing, step by step -/
abbrev Step := List Int × List Int
abbrev stp : Step → D := pr row row
def stepsTo (h : Nat) (mn : Bool) : Nat → Nat → List (List Int) → List (List Int) → Option (List Step × List (List Int))
  | 0, _, p, _ => some ([], p)
  | n + 1, w, p, t => match bwV w h [p] mn t with
    | none => none
    | some s => (stepsTo h mn n (w - 1) (cutV p s) (cutV t s)).map fun r => ((s, cellsV p s) :: r.1, r.2)
def stpo : Option (List Step × List (List Int)) → D := op (pr (li stp) pic)
abbrev Sp_steps_to (m : List D → Rs D) : Prop := ∀ (w h : Nat) p (k : Nat) mn t, Good w h p → Marks w h t → 1 ≤ k → k ≤ w → m [pic p, .int k, man mn, pic t] = .ok (stpo (stepsTo h mn (w - k) w p t))
theorem ok_steps_to {T : Tb} {fW fB : Nat} (hW : Sp_without (T.fn fW)) (hB : Sp_best_way (T.fn fB)) : Sp_steps_to (runD T 4 8 (B_steps_to fW fB)) := by
  intro w h p k mn t g q k1 k2
  have key : ∀ (n fuel w : Nat) (p t : List (List Int)) (acc : List Step) (z : Sl), Good w h p → Marks w h t → w = k + n → n < fuel → acc.length + n < 1000 → ∃ z' : Sl × Sl, whlD (tstE T (.cmp .Gt (.bcl .len (.cons (.idx (.var 0) (.cst (.int 0))) .nil)) (.var 1))) ((Ss.cons (.asg (.nm 5) (.fcl fB (.cons (.lst (.cons (.var 0) .nil)) (.cons (.var 2) (.cons (.var 3) .nil)))) []) (.cons (.ite (.cmp .Is (.var 5) (.cst .none)) (.cons (.ret (.cst .none) []) .nil) .nil) (.cons (.app 4 (.tup (.cons (.var 5) (.cons (.bcl .tuple (.cons (.cmpr (.idx (.var 6) (.var 7)) (.t2 (.nm 6) (.nm 7)) .zip (.cons (.var 0) (.cons (.var 5) .nil)) .nil [6, 7]) .nil)) .nil))) []) (.cons (.par 0 3 (.v (.fcl fW (.cons (.var 0) (.cons (.var 5) .nil)))) (.v (.fcl fW (.cons (.var 3) (.cons (.var 5) .nil)))) []) .nil)))).ex T) fuel
      [.fz (pic p), .fz (.int k), .fz (man mn), .fz (pic t), .ow (acc.map stp), z, .un, .un] = .ok (match stepsTo h mn n w p t with
        | none => .rt .none
        | some r => .nx [.fz (pic r.2), .fz (.int k), .fz (man mn), z'.1, .ow ((acc ++ r.1).map stp), z'.2, .un, .un]) := by
    intro n
    induction n with
    | zero =>
      intro fuel w p t acc z g q e1 e2 e3
      obtain ⟨fuel, rfl⟩ : ∃ m, fuel = m + 1 := ⟨fuel - 1, by omega⟩
      have h0 := g.row0
      have hh := g.hh
      have a1 := g.h1
      refine ⟨(.fz (pic t), z), ?_⟩
      unfold whlD
      have nl : ¬ ((k : Int) < (w : Int)) := by omega
      simp (disch := omega) [idx_tu, h0, nl, stepsTo]
    | succ n ih =>
      intro fuel w p t acc z g q e1 e2 e3
      obtain ⟨fuel, rfl⟩ : ∃ m, fuel = m + 1 := ⟨fuel - 1, by omega⟩
      have h0 := g.row0
      have hh := g.hh
      have a1 := g.h1
      have a2 := g.h2
      have a3 := g.w2
      have lt : ((k : Int) < (w : Int)) := by omega
      have eb : T.fn fB [.list [pic p], man mn, pic t] = .ok (orow (bwV w h [p] mn t)) := hB w h [p] mn t g.pics q.toRect
      unfold whlD stepsTo
      cases z2 : bwV w h [p] mn t with
      | none =>
        rw [z2] at eb
        refine ⟨(.un, .un), ?_⟩
        simp (disch := omega) [idx_tu, h0, lt, eb, op]
      | some s =>
        rw [z2] at eb
        have eb : T.fn fB [.list [pic p], man mn, pic t] = .ok (row s) := eb
        obtain ⟨qs, _, _⟩ := bw_way a1 z2
        have c1 := hW w h p s g.toRect (by omega) (by omega) qs
        have c2 := hW w h t s q.toRect (by omega) (by omega) qs
        obtain ⟨z', ez⟩ := ih fuel (w - 1) (cutV p s) (cutV t s) (acc ++ [(s, cellsV p s)]) (.fz (row s)) (cut_good g qs (by omega)) (cut_marks q qs) (by omega) (by omega) (by simp; omega)
        refine ⟨z', ?_⟩
        simp (disch := omega) [idx_tu, h0, lt, eb, -List.map_append]
        rw [cmpr_li .int (fun q : List Int × Int => getI q.1 q.2) rfl (by simp; omega)]
        · have ec : tu PyData.int ((p.zip s).map fun q => getI q.1 q.2) = row (cellsV p s) := rfl
          have ea : acc.map stp ++ [PyData.tuple [row s, row (cellsV p s)]] = (acc ++ [(s, cellsV p s)]).map stp := by rw [List.map_append]; rfl
          simp (disch := omega) [ec, grdFew, ea, c1, c2, -List.map_append]
          rw [ez]
          cases stepsTo h mn n (w - 1) (cutV p s) (cutV t s) with
          | none => rfl
          | some r => simp
        · rintro ⟨r, x⟩ hm
          have hx := qs.rng x (List.of_mem_zip hm).2
          have hr := g.ww r (List.of_mem_zip hm).1
          simp (disch := omega) [pr, idx_tu]
  have w2 := g.w2
  obtain ⟨z', ez⟩ := key (w - k) 10000 w p t [] .un g q (by omega) (by omega) (by simp; omega)
  rw [List.map_nil] at ez
  simp [runD, B_steps_to]
  rw [ez]
  cases stepsTo h mn (w - k) w p t with
  | none => rfl
  | some r => simp [stpo, op, pr]; rfl

def nrwV (w h k : Nat) (mn : Bool) (p t : List (List Int)) : Option (List (List Int)) := (stepsTo h mn (w - k) w p t).map (·.2)
def hisV (w h k : Nat) (mn : Bool) (p t : List (List Int)) : Option (List Step) := (stepsTo h mn (w - k) w p t).map (·.1)
abbrev opic : Option (List (List Int)) → D := op pic
abbrev ohis : Option (List Step) → D := op (li stp)
theorem enc_opic : Enc 3 opic := enc_pic.op (fun a => ⟨rfl, rfl⟩) (by omega)
theorem enc_stp : Enc 3 stp := enc_row.pr enc_row
theorem enc_ohis : Enc 4 ohis := enc_stp.li.op (fun a => ⟨rfl, rfl⟩) (by omega)
@[simp] theorem eq_opic (i j : Option (List (List Int))) : cmpB .Eq (opic i) (opic j) = .ok (decide (i = j)) := eq_enc enc_opic (by decide) i j
@[simp] theorem ne_opic (i j : Option (List (List Int))) : cmpB .NotEq (opic i) (opic j) = .ok (!decide (i = j)) := ne_enc enc_opic (by decide) i j
@[simp] theorem eq_ohis (i j : Option (List Step)) : cmpB .Eq (ohis i) (ohis j) = .ok (decide (i = j)) := eq_enc enc_ohis (by decide) i j
@[simp] theorem ne_ohis (i j : Option (List Step)) : cmpB .NotEq (ohis i) (ohis j) = .ok (!decide (i = j)) := ne_enc enc_ohis (by decide) i j
abbrev Sp_narrowed (m : List D → Rs D) : Prop := ∀ (w h : Nat) p (k : Nat) mn o, Good w h p → MkOk w h o → 1 ≤ k → k ≤ w → m [pic p, .int k, man mn, mkD o] = .ok (opic (nrwV w h k mn p (mkV p o)))
theorem ok_narrowed {T : Tb} {fS fW fN c : Nat} (hS : Sp_steps_to (T.fn fS)) (hW : Sp_need_width c (T.fn fW)) (hN : Sp_need_all (T.fn fN)) : Sp_narrowed (runD T 4 5 (B_narrowed fS fW fN)) := by
  intro w h p k mn o g q k1 k2
  have e1 := hS w h p k mn (mkV p o) g (mkV_marks g.toRect q) k1 k2
  have e2 := width_ok hW g (k := (k : Int)) (by omega) (by omega)
  simp [runD, B_narrowed, hN w h p mn o g q, e1, e2]
  unfold nrwV
  cases stepsTo h mn (w - k) w p (mkV p o) with
  | none => simp [stpo, op]
  | some r =>
    have i1 : idxD (stpo (some r)) (.int 1) = .ok (pic r.2) := rfl
    have no : isNo (stpo (some r)) = false := rfl
    simp [no, i1, op]
abbrev Sp_history (m : List D → Rs D) : Prop := ∀ (w h : Nat) p (k : Nat) mn o, Good w h p → MkOk w h o → 1 ≤ k → k ≤ w → m [pic p, .int k, man mn, mkD o] = .ok (ohis (hisV w h k mn p (mkV p o)))
theorem ok_history {T : Tb} {fS fW fN c : Nat} (hS : Sp_steps_to (T.fn fS)) (hW : Sp_need_width c (T.fn fW)) (hN : Sp_need_all (T.fn fN)) : Sp_history (runD T 4 5 (B_history fS fW fN)) := by
  intro w h p k mn o g q k1 k2
  have e1 := hS w h p k mn (mkV p o) g (mkV_marks g.toRect q) k1 k2
  have e2 := width_ok hW g (k := (k : Int)) (by omega) (by omega)
  simp [runD, B_history, hN w h p mn o g q, e1, e2]
  unfold hisV
  cases stepsTo h mn (w - k) w p (mkV p o) with
  | none => simp [stpo, op]
  | some r =>
    have i1 : idxD (stpo (some r)) (.int 0) = .ok (li stp r.1) := rfl
    have no : isNo (stpo (some r)) = false := rfl
    simp [no, i1, op]
/-! ### put in -/
def t3 {α β γ : Type} (f : α → D) (g : β → D) (k : γ → D) (q : α × β × γ) : D := .tuple [f q.1, g q.2.1, k q.2.2]
theorem zip3_map {α β γ : Type} (f : α → D) (g : β → D) (k : γ → D) : ∀ (l : List α) (m : List β) (n : List γ), zip3 (l.map f) (m.map g) (n.map k) = (l.zip (m.zip n)).map (t3 f g k)
  | [], _, _ => by simp [zip3]
  | _ :: _, [], _ => by simp [zip3]
  | _ :: _, _ :: _, [] => by simp [zip3]
  | a :: l, b :: m, c :: n => by
    show _ :: zip3 (l.map f) (m.map g) (n.map k) = _
    rw [zip3_map f g k l m n]; rfl
theorem it_zip3 {α β γ : Type} {f : α → D} {g : β → D} {k : γ → D} {l : List α} {m : List β} {n : List γ} {x y z : D} (h1 : itsD x = .ok (l.map f)) (h2 : itsD y = .ok (m.map g)) (h3 : itsD z = .ok (n.map k)) : itD .zip [x, y, z] = .ok ((l.zip (m.zip n)).map (t3 f g k)) := by
  show (itsD x).bind (fun xs => (itsD y).bind fun ys => (itsD z).map fun zs => zip3 xs ys zs) = _
  rw [h1, h2, h3]
  show Rs.ok (zip3 (l.map f) (m.map g) (n.map k)) = _
  rw [zip3_map]
@[simp] theorem it_zip3_t {α β γ : Type} (f : α → D) (g : β → D) (k : γ → D) (l : List α) (m : List β) (n : List γ) : itD .zip [tu f l, tu g m, tu k n] = .ok ((l.zip (m.zip n)).map (t3 f g k)) := it_zip3 rfl rfl rfl
def putR (r : List Int) (x c : Int) : List Int := r.take x.toNat ++ [c] ++ r.drop x.toNat
def putV (rows : List (List Int)) (s c : List Int) : List (List Int) := (rows.zip (s.zip c)).map fun q => putR q.1 q.2.1 q.2.2
abbrev Sp_put_in (m : List D → Rs D) : Prop := ∀ w h p s c, Rect w h p → w < 1000 → h < 1000 → Way (w + 1) h s → c.length = h → m [pic p, row s, row c] = .ok (pic (putV p s c))
theorem ok_put_in {T : Tb} : Sp_put_in (runD T 3 6 B_put_in) := by
  intro w h p s c g hw hh q hc
  have h1 := g.hh
  have hl := q.len
  simp [runD, B_put_in]
  rw [cmpr_li row (fun q : List Int × Int × Int => putR q.1 q.2.1 q.2.2) rfl (by simp; omega)]
  · simp [putV]
  · rintro ⟨r, x, z⟩ hm
    have hr := g.ww r (List.of_mem_zip hm).1
    have hx := q.rng x (List.of_mem_zip (List.of_mem_zip hm).2).1
    have c1 : cutD r none (some x) = r.take x.toNat := cut_to _ hx.1
    have c2 : cutD r (some x) none = r.drop x.toNat := cut_from _ hx.1
    have a1 : binD .Add (row (r.take x.toNat)) (.tuple [.int z]) = .ok (row (r.take x.toNat ++ [z])) := add_tu .int _ [z] (by simp; omega)
    have a2 : binD .Add (row (r.take x.toNat ++ [z])) (row (r.drop x.toNat)) = .ok (row (putR r x z)) := add_tu .int _ _ (by simp; omega)
    simp [t3, c1, c2, a1, a2]
end Rf
set_option Elab.async false
set_option linter.all false
set_option autoImplicit false
set_option maxHeartbeats 2000000
set_option maxRecDepth 100000
namespace Rf
open PySem L2
/-! ### all ways, told from their heads -/
/-- the ways of k + 1 cells from x on -/
def wl (w : Nat) : Nat → Int → List (List Int)
  | 0, x => [[x]]
  | k + 1, x => (nexts w x).flatMap fun t => (wl w k t).map (x :: ·)
def snocs (w : Nat) (s : List Int) : List (List Int) := (nexts w (getI s (-1))).map fun x => s ++ [x]
def iters (w : Nat) : Nat → List (List Int) → List (List Int)
  | 0, L => L
  | k + 1, L => iters w k (L.flatMap (snocs w))
theorem flatMap_flatMap {α β γ : Type} (f : α → List β) (g : β → List γ) : ∀ l : List α, (l.flatMap f).flatMap g = l.flatMap fun a => (f a).flatMap g
  | [] => rfl
  | a :: l => by rw [List.flatMap_cons, List.flatMap_append, List.flatMap_cons, flatMap_flatMap f g l]
theorem iters_flat (w : Nat) : ∀ (k : Nat) (L : List (List Int)), iters w k L = L.flatMap fun s => iters w k [s]
  | 0, L => by
    show L = L.flatMap fun s => [s]
    induction L with
    | nil => rfl
    | cons a L ih => rw [List.flatMap_cons, ← ih]; rfl
  | k + 1, L => by
    show iters w k (L.flatMap (snocs w)) = L.flatMap fun s => iters w k ([s].flatMap (snocs w))
    rw [iters_flat w k (L.flatMap (snocs w)), flatMap_flatMap]
    congr 1
    funext s
    rw [iters_flat w k ([s].flatMap (snocs w)), List.flatMap_cons, List.flatMap_nil, List.append_nil]
theorem map_flatMap' {α β γ : Type} (f : α → β) (g : β → List γ) : ∀ l : List α, (l.map f).flatMap g = l.flatMap fun a => g (f a)
  | [] => rfl
  | a :: l => by rw [List.map_cons, List.flatMap_cons, List.flatMap_cons, map_flatMap' f g l]
theorem flatMap_map' {α β γ : Type} (f : α → List β) (g : β → γ) : ∀ l : List α, (l.flatMap f).map g = l.flatMap fun a => (f a).map g
  | [] => rfl
  | a :: l => by rw [List.flatMap_cons, List.map_append, List.flatMap_cons, flatMap_map' f g l]
theorem iters_wl (w : Nat) : ∀ (k : Nat) (p : List Int) (x : Int), iters w k [p ++ [x]] = (wl w k x).map (p ++ ·)
  | 0, p, x => rfl
  | k + 1, p, x => by
    show iters w k ([p ++ [x]].flatMap (snocs w)) = ((nexts w x).flatMap fun t => (wl w k t).map (x :: ·)).map (p ++ ·)
    rw [List.flatMap_cons, List.flatMap_nil, List.append_nil, iters_flat, flatMap_map']
    unfold snocs
    rw [last_snoc, map_flatMap']
    congr 1
    funext t
    rw [iters_wl w k (p ++ [x]) t, List.map_map]
    congr 1
    funext l
    simp [Function.comp]
theorem iters_snoc (w : Nat) : ∀ (k : Nat) (L : List (List Int)), iters w (k + 1) L = (iters w k L).flatMap (snocs w)
  | 0, L => rfl
  | k + 1, L => by
    show iters w (k + 1) (L.flatMap (snocs w)) = (iters w k (L.flatMap (snocs w))).flatMap (snocs w)
    exact iters_snoc w k _
theorem waysV_iters (w : Nat) : ∀ k : Nat, waysV w k = iters w k ((upI 0 w).map fun x => [x])
  | 0 => rfl
  | k + 1 => by
    rw [iters_snoc, ← waysV_iters w k]; rfl
/-- the same ways in the same order -/
theorem waysV_wl (w k : Nat) : waysV w k = (upI 0 w).flatMap (wl w k) := by
  rw [waysV_iters, iters_flat, map_flatMap']
  congr 1
  funext x
  have := iters_wl w k [] x
  simpa using this
theorem mem_wl {w : Nat} : ∀ {k : Nat} {x : Int} {s : List Int}, 0 ≤ x ∧ x < (w : Int) → (s ∈ wl w k x ↔ ∃ l, s = x :: l ∧ l.length = k ∧ Sub w (x :: l))
  | 0, x, s, hx => by
    unfold wl
    rw [List.mem_singleton]
    constructor
    · rintro rfl
      exact ⟨[], rfl, rfl, Sub.one hx⟩
    · rintro ⟨l, rfl, hl, _⟩
      rw [List.length_eq_zero_iff.mp hl]
  | k + 1, x, s, hx => by
    unfold wl
    rw [List.mem_flatMap]
    constructor
    · rintro ⟨t, ht, hs⟩
      obtain ⟨r, hr, rfl⟩ := List.mem_map.mp hs
      obtain ⟨l, rfl, hl, q⟩ := (mem_wl (mem_nexts.mp ht).2).mp hr
      exact ⟨t :: l, rfl, by simp [hl], Sub.cons hx ht q⟩
    · rintro ⟨l, rfl, hl, q⟩
      cases l with
      | nil => cases hl
      | cons t l =>
        have ht := q.next
        exact ⟨t, ht, List.mem_map.mpr ⟨t :: l, (mem_wl (mem_nexts.mp ht).2).mpr ⟨l, rfl, by simpa using hl, q.tail⟩, rfl⟩⟩
end Rf
set_option Elab.async false
set_option linter.all false
set_option autoImplicit false
set_option maxHeartbeats 4000000
set_option maxRecDepth 100000
namespace Rf
open PySem L2
/-! ### how many ways are as good as the best -/
section
variable (w h : Nat) (p : List (List Int)) (mn : Bool) (t : List (List Int))
def wfit (y x : Int) (here below : Option (Int × Int)) (there : Int) : Bool := match here, below with
  | some d, some b => decide (addP b (gone t x y, stepV mn p there (y + 1) (some x)) = d)
  | _, _ => false
def wTurn (here below : List (Option (Int × Int))) (wb : List Int) (y x : Int) (there : Int) : Int := if wfit p mn t y x (getI here x) (getI below there) there = true then getI wb there else 0
def wNext (here below : List (Option (Int × Int))) (wb : List Int) (y : Int) : List Int := (upI 0 w).map fun x => (nexts w x).foldl (fun m there => m + wTurn p mn t here below wb y x there) 0
def wRow : Nat → List Int
  | 0 => (upI 0 w).map fun _ => 1
  | k + 1 => wNext w p mn t (dnRow w h [p] mn t (k + 1)) (dnRow w h [p] mn t k) (wRow k) ((h : Int) - 2 - (k : Nat))
theorem wRow_len : ∀ k, (wRow w h p mn t k).length = w
  | 0 => by simp [wRow]
  | k + 1 => by simp [wRow, wNext]
def manyV : Int := match (startsV w [p] mn (dnRow w h [p] mn t (h - 1))).filterMap id with
  | [] => 0
  | a :: as => (((upI 0 w).filter fun x => decide (getI (startsV w [p] mn (dnRow w h [p] mn t (h - 1))) x = some (minBy ltP a as))).map fun x => getI (wRow w h p mn t (h - 1)) x).sum
end
theorem foldl_sum {α : Type} (f : α → Int) : ∀ (l : List α) (a : Int), l.foldl (fun m x => m + f x) a = a + (l.map f).sum
  | [], a => by simp
  | x :: l, a => by
    rw [List.foldl_cons, foldl_sum f l, List.map_cons, List.sum_cons]
    omega
theorem countP_flat {α β : Type} (q : β → Bool) (f : α → List β) : ∀ l : List α, (((l.flatMap f).countP q : Nat) : Int) = (l.map fun a => (((f a).countP q : Nat) : Int)).sum
  | [] => rfl
  | a :: l => by
    have ih := countP_flat q f l
    rw [List.flatMap_cons, List.countP_append, List.map_cons, List.sum_cons, ← ih]
    omega
section
variable {w h : Nat} {p : List (List Int)} {mn : Bool} {t : List (List Int)}
theorem wRow_count : ∀ (k : Nat) (x y : Int) (d : Int × Int), y = (h : Int) - 1 - (k : Nat) → 0 ≤ x ∧ x < (w : Int) → getI (dnRow w h [p] mn t k) x = some d → getI (wRow w h p mn t k) x = (((wl w k x).countP fun s => decide (pcV [p] mn t y s = some d) : Nat) : Int)
  | 0, x, y, d, ey, hx, hd => by
    have ey : y = (h : Int) - 1 := by omega
    subst ey
    rw [dn_zero hx] at hd
    have e1 : getI (wRow w h p mn t 0) x = 1 := by
      unfold wRow
      rw [getI_map _ _ (by simp; omega) (by simp; omega)]
    have e2 : pcV [p] mn t ((h : Int) - 1) [x] = some d := hd
    rw [e1]
    unfold wl
    rw [List.countP_cons, List.countP_nil, e2]; simp
  | k + 1, x, y, d, ey, hx, hd => by
    have hd2 := hd
    rw [dn_succ hx, show (h : Int) - 2 - (k : Nat) = y by omega] at hd2
    have cb := cellV_best (w := w) (ps := [p]) (mn := mn) (t := t) (dnRow w h [p] mn t k) y x
    rw [hd2] at cb
    obtain ⟨⟨a, ha, ca⟩, cmin⟩ := cb
    have kept : cell t x y ≠ 1 := fun c => by
      unfold candV at ca
      cases z : getI (dnRow w h [p] mn t k) a with
      | none => rw [z] at ca; cases ca
      | some u =>
        rw [z] at ca
        have ca : (if cell t x y = 1 then none else some (hereV [p] mn t u x a y)) = some d := ca
        rw [if_pos c] at ca; cases ca
    have e1 : getI (wRow w h p mn t (k + 1)) x = ((nexts w x).map fun there => wTurn p mn t (dnRow w h [p] mn t (k + 1)) (dnRow w h [p] mn t k) (wRow w h p mn t k) y x there).sum := by
      show getI (wNext w p mn t _ _ _ _) x = _
      unfold wNext
      rw [getI_map _ _ (by simp; omega) (by simp; omega), getI_up hx.1 hx.2, foldl_sum, show (h : Int) - 2 - (k : Nat) = y by omega]
      exact Int.zero_add _
    rw [e1]
    unfold wl
    rw [countP_flat]
    congr 1
    apply List.map_congr_left
    intro there ht
    have rt := (mem_nexts.mp ht).2
    unfold wTurn
    rw [hd, List.countP_map]
    have pc : ∀ r ∈ wl w k there, pcV [p] mn t y (x :: r) = (pcV [p] mn t (y + 1) r).map fun b => hereV [p] mn t b x there y := fun r hr => by
      obtain ⟨l, rfl, _, _⟩ := (mem_wl rt).mp hr
      conv => lhs; unfold pcV
      rw [if_neg kept]
    cases z : getI (dnRow w h [p] mn t k) there with
    | none =>
      have e2 : wfit p mn t y x (some d) none there = false := rfl
      rw [e2, if_neg Bool.false_ne_true]
      have : (wl w k there).countP ((fun s => decide (pcV [p] mn t y s = some d)) ∘ fun r => x :: r) = 0 := by
        rw [List.countP_eq_zero]
        intro r hr
        simp only [Function.comp, decide_eq_true_eq]
        rw [pc r hr]
        intro e
        obtain ⟨l, rfl, hl, q⟩ := (mem_wl rt).mp hr
        cases z2 : pcV [p] mn t (y + 1) (there :: l) with
        | none => rw [z2] at e; cases e
        | some b =>
          obtain ⟨d2, e3, _⟩ := dn_le (h := h) k there l (y + 1) (by omega) hl q b z2
          rw [z] at e3; cases e3
      rw [this]; rfl
    | some b =>
      have eh : addP b (gone t x y, stepV mn p there (y + 1) (some x)) = hereV [p] mn t b x there y := by unfold hereV; rw [stepsV_one]
      have e2 : wfit p mn t y x (some d) (some b) there = decide (hereV [p] mn t b x there y = d) := by
        show decide (addP b _ = d) = _
        rw [eh]
      rw [e2]
      have cb : candV [p] mn t (dnRow w h [p] mn t k) y x there = some (hereV [p] mn t b x there y) := by
        unfold candV
        rw [z]
        show (if cell t x y = 1 then none else some _) = _
        rw [if_neg kept]
      have le := cmin there ht _ cb
      by_cases c : hereV [p] mn t b x there y = d
      · rw [decide_eq_true c, if_pos rfl, wRow_count k there (y + 1) b (by omega) rt z]
        congr 1
        apply List.countP_congr
        intro r hr
        simp only [Function.comp, decide_eq_true_eq]
        rw [pc r hr]
        constructor
        · intro e; rw [e, ← c]; rfl
        · intro e
          cases z2 : pcV [p] mn t (y + 1) r with
          | none => rw [z2] at e; cases e
          | some b2 =>
            rw [z2] at e
            have e : some (hereV [p] mn t b2 x there y) = some d := e
            injection e with e
            rw [← c] at e
            rw [addP_inj (show addP b2 _ = addP b _ from e)]
      · rw [decide_eq_false c, if_neg Bool.false_ne_true]
        have : (wl w k there).countP ((fun s => decide (pcV [p] mn t y s = some d)) ∘ fun r => x :: r) = 0 := by
          rw [List.countP_eq_zero]
          intro r hr
          simp only [Function.comp, decide_eq_true_eq]
          rw [pc r hr]
          intro e
          obtain ⟨l, rfl, hl, q⟩ := (mem_wl rt).mp hr
          cases z2 : pcV [p] mn t (y + 1) (there :: l) with
          | none => rw [z2] at e; cases e
          | some b2 =>
            rw [z2] at e
            have e : some (hereV [p] mn t b2 x there y) = some d := e
            injection e with e
            obtain ⟨d2, e3, e4⟩ := dn_le (h := h) k there l (y + 1) (by omega) hl q b2 z2
            rw [z] at e3
            injection e3 with e3
            subst e3
            have m2 : leP (hereV [p] mn t b x there y) (hereV [p] mn t b2 x there y) := leP_add _ e4
            rw [e] at m2
            exact c (leP_antisymm m2 le)
        rw [this]; rfl
/-- as many ways are as good as the best one -/
theorem many_count (h1 : 1 ≤ h) : match bwV w h [p] mn t with
    | none => manyV w h p mn t = 0 ∧ ∀ s, Way w h s → totV [p] mn t s = none
    | some s => ∃ v, totV [p] mn t s = some v ∧ manyV w h p mn t = (((waysV w (h - 1)).countP fun z => decide (totV [p] mn t z = some v) : Nat) : Int) := by
  have sl : (startsV w [p] mn (dnRow w h [p] mn t (h - 1))).length = w := by simp [startsV]
  have bl := bw_least (w := w) (ps := [p]) (mn := mn) (t := t) h1
  cases e : bwV w h [p] mn t with
  | none =>
    refine ⟨?_, bl.none e⟩
    unfold manyV
    unfold bwV at e
    cases q : (startsV w [p] mn (dnRow w h [p] mn t (h - 1))).filterMap id with
    | nil => rfl
    | cons a as => rw [q] at e; cases e
  | some s =>
    obtain ⟨d, x1, x2, ed, tv⟩ := bw_top h1 e
    refine ⟨_, tv, ?_⟩
    obtain ⟨qs, v, ev, lv⟩ := bl.some s e
    rw [tv] at ev
    injection ev with ev
    unfold manyV
    cases q : (startsV w [p] mn (dnRow w h [p] mn t (h - 1))).filterMap id with
    | nil => unfold bwV at e; rw [q] at e; cases e
    | cons a as =>
      have mem : ∀ x : Int, 0 ≤ x → x < (w : Int) → ∀ d, getI (dnRow w h [p] mn t (h - 1)) x = some d → addP d (0, stepsV [p] mn x 0 none) ∈ a :: as := fun x a1 a2 d hd => by
        have hm : getI (startsV w [p] mn (dnRow w h [p] mn t (h - 1))) x ∈ startsV w [p] mn (dnRow w h [p] mn t (h - 1)) := getI_mem (by omega) (by omega)
        rw [← q]
        exact List.mem_filterMap.mpr ⟨_, hm, by rw [starts_get ⟨a1, a2⟩, hd]; rfl⟩
      have em : minBy ltP a as = addP d (0, stepsV [p] mn (getI s 0) 0 none) := by
        refine leP_antisymm (minBy_le (mem _ x1 x2 d ed)) ?_
        have := minBy_mem ltP as a
        rw [← q, List.mem_filterMap] at this
        obtain ⟨o, ho, eo⟩ := this
        have eo : o = some (minBy ltP a as) := eo
        unfold startsV at ho
        obtain ⟨x, hx, ex⟩ := List.mem_map.mp ho
        have hx := mem_upI.mp hx
        cases z : getI (dnRow w h [p] mn t (h - 1)) x with
        | none => rw [z, eo] at ex; cases ex
        | some d2 =>
          rw [z, eo] at ex
          have ex : some (addP d2 (0, stepsV [p] mn x 0 none)) = some (minBy ltP a as) := ex
          injection ex with ex
          obtain ⟨g1, g2, g3, _⟩ := greedy_ok (ps := [p]) (mn := mn) (t := t) (h := h) (w := w) (h - 1) x 0 d2 (by omega) (by omega) z
          obtain ⟨l2, el⟩ := greedy_cons (ps := [p]) (mn := mn) (t := t) (h := h) (w := w) (h - 1) x
          rw [el] at g1 g2 g3
          have q3 : Way w h (x :: l2) := ⟨by omega, g1.rng, g1.st⟩
          have t3 : totV [p] mn t (x :: l2) = some (addP d2 (0, stepsV [p] mn x 0 none)) := by rw [totV_cons, g3]; rfl
          have := (lv _ q3 _ t3).1
          rw [← ev] at this
          rw [← ex]; exact this
      dsimp only
      rw [em]
      generalize hv : addP d (0, stepsV [p] mn (getI s 0) 0 none) = v0 at *
      have key : ∀ x ∈ upI 0 w, (((wl w (h - 1) x).countP fun z => decide (totV [p] mn t z = some v0) : Nat) : Int) = if getI (startsV w [p] mn (dnRow w h [p] mn t (h - 1))) x = some v0 then getI (wRow w h p mn t (h - 1)) x else 0 := by
        intro x hx
        have hx := mem_upI.mp hx
        have hx : 0 ≤ x ∧ x < (w : Int) := by omega
        rw [starts_get hx]
        have tot : ∀ r ∈ wl w (h - 1) x, totV [p] mn t r = (pcV [p] mn t 0 r).map fun b => addP b (0, stepsV [p] mn x 0 none) := fun r hr => by
          obtain ⟨l, rfl, _, _⟩ := (mem_wl hx).mp hr
          exact totV_cons x l
        cases z : getI (dnRow w h [p] mn t (h - 1)) x with
        | none =>
          rw [if_neg (by intro e; cases e)]
          have : (wl w (h - 1) x).countP (fun z => decide (totV [p] mn t z = some v0)) = 0 := by
            rw [List.countP_eq_zero]
            intro r hr
            simp only [decide_eq_true_eq]
            rw [tot r hr]
            intro e
            obtain ⟨l, rfl, hl, q5⟩ := (mem_wl hx).mp hr
            cases z2 : pcV [p] mn t 0 (x :: l) with
            | none => rw [z2] at e; cases e
            | some b =>
              obtain ⟨d2, e3, _⟩ := dn_le (h := h) (h - 1) x l 0 (by omega) hl q5 b z2
              rw [z] at e3; cases e3
          rw [this]; rfl
        | some d2 =>
          have es : ((some d2 : Option (Int × Int)).map fun b => addP b (0, stepsV [p] mn x 0 none)) = some (addP d2 (0, stepsV [p] mn x 0 none)) := rfl
          rw [es]
          have le := minBy_le (mem x hx.1 hx.2 d2 z)
          rw [em] at le
          by_cases c : addP d2 (0, stepsV [p] mn x 0 none) = v0
          · rw [if_pos (by rw [c]), wRow_count (h - 1) x 0 d2 (by omega) hx z]
            congr 1
            apply List.countP_congr
            intro r hr
            simp only [decide_eq_true_eq]
            rw [tot r hr]
            constructor
            · intro e
              cases z2 : pcV [p] mn t 0 r with
              | none => rw [z2] at e; cases e
              | some b =>
                rw [z2] at e
                have e : some (addP b (0, stepsV [p] mn x 0 none)) = some v0 := e
                injection e with e
                rw [← c] at e
                rw [addP_inj e]
            · intro e
              rw [e, ← c]; rfl
          · rw [if_neg (fun z => c (by injection z))]
            have : (wl w (h - 1) x).countP (fun z => decide (totV [p] mn t z = some v0)) = 0 := by
              rw [List.countP_eq_zero]
              intro r hr
              simp only [decide_eq_true_eq]
              rw [tot r hr]
              intro e
              obtain ⟨l, rfl, hl, q5⟩ := (mem_wl hx).mp hr
              cases z2 : pcV [p] mn t 0 (x :: l) with
              | none => rw [z2] at e; cases e
              | some b =>
                rw [z2] at e
                have e : some (addP b (0, stepsV [p] mn x 0 none)) = some v0 := e
                injection e with e
                obtain ⟨d3, e3, e4⟩ := dn_le (h := h) (h - 1) x l 0 (by omega) hl q5 b z2
                rw [z] at e3
                injection e3 with e3
                subst e3
                have := leP_add (0, stepsV [p] mn x 0 none) e4
                rw [e] at this
                exact c (leP_antisymm this le)
            rw [this]; rfl
      rw [waysV_wl, countP_flat]
      have fs : ∀ l : List Int, (∀ x ∈ l, x ∈ upI 0 w) → ((l.filter fun x => decide (getI (startsV w [p] mn (dnRow w h [p] mn t (h - 1))) x = some v0)).map fun x => getI (wRow w h p mn t (h - 1)) x).sum = (l.map fun x => (((wl w (h - 1) x).countP fun z => decide (totV [p] mn t z = some v0) : Nat) : Int)).sum := by
        intro l
        induction l with
        | nil => intro _; rfl
        | cons x l ih =>
          intro H
          have i1 := ih fun z hz => H z (List.mem_cons_of_mem _ hz)
          rw [List.map_cons, List.sum_cons, key x (H x List.mem_cons_self), ← i1, List.filter_cons]
          by_cases c : getI (startsV w [p] mn (dnRow w h [p] mn t (h - 1))) x = some v0
          · rw [if_pos c, if_pos (decide_eq_true c), List.map_cons, List.sum_cons]
          · rw [if_neg c, if_neg (by rw [decide_eq_false c]; exact Bool.false_ne_true)]; omega
      exact fs _ fun x hx => hx
end
end Rf
set_option Elab.async false
set_option linter.all false
set_option autoImplicit false
set_option maxHeartbeats 2000000
set_option maxRecDepth 100000
namespace Rf
open PySem L2
theorem isWay_len {xs : List D} {w h : Int} (e : (xs.length : Int) ≠ h) : isWay (.tuple xs) w h = false := by simp [isWay, e]
theorem isWay_mem {xs : List D} {w h : Int} {d : D} (hm : d ∈ xs) (e : isNum d 0 (w - 1) = false) : isWay (.tuple xs) w h = false := by
  have : (xs.all fun d => isNum d 0 (w - 1)) = false := List.all_eq_false.mpr ⟨d, hm, by rw [e]; exact Bool.false_ne_true⟩
  simp [isWay, this]
theorem stepsOk_rep (i : Int) : ∀ n : Nat, stepsOk (List.replicate n i) = true
  | 0 => rfl
  | 1 => rfl
  | n + 2 => by
    have ih := stepsOk_rep i (n + 1)
    rw [List.replicate_succ] at ih
    rw [List.replicate_succ, List.replicate_succ]
    show (decide ((i - i).natAbs < 2) && stepsOk (i :: List.replicate n i)) = true
    rw [ih]; simp
theorem rep_way {w h : Nat} (h1 : 1 ≤ w) : Way w h (List.replicate h 0) := ⟨by simp, fun x hx => by rw [(List.mem_replicate.mp hx).2]; omega, stepsOk_rep 0 h⟩
theorem row_rep (n : Nat) (i : Int) : PyData.tuple (List.replicate n (.int i)) = row (List.replicate n i) := by unfold row tu; rw [List.map_replicate]
theorem stepV_true (p : List (List Int)) (x y : Int) (b : Option Int) : stepV true p x y b = worthV p x y := by cases b <;> simp [stepV]
theorem zip_tail_mem {α : Type} (a b : α) (r : List α) : ∀ l : List α, (a, b) ∈ (l ++ a :: b :: r).zip (l ++ a :: b :: r).tail
  | [] => List.mem_cons_self
  | [x] => List.mem_cons_of_mem _ List.mem_cons_self
  | x :: y :: l => List.mem_cons_of_mem _ (zip_tail_mem a b r (y :: l))
theorem isWay_step {l r : List D} {a b w h : Int} (e : ¬ (a - b).natAbs < 2) : isWay (.tuple (l ++ .int a :: .int b :: r)) w h = false := by
  have hm := zip_tail_mem (PyData.int a) (PyData.int b) r l
  have : ((l ++ PyData.int a :: PyData.int b :: r).zip (l ++ PyData.int a :: PyData.int b :: r).tail).all nearP = false :=
    List.all_eq_false.mpr ⟨_, hm, by simp [nearP]; omega⟩
  show (decide _ && (_ && _)) = false
  rw [this, Bool.and_false, Bool.and_false]
/-- the bad seams of this law -/
theorem bads_k03 {w h : Nat} {s : List Int} (q : Way w h s) (h1 : 1 ≤ h) (h2 : h ≤ 20) (w1 : 1 ≤ w) : ∀ d ∈ [PyData.none, .tuple [], li .int s, row (s ++ [0]), row (cutD s (some 1) none), .tuple (List.replicate h (.int w)), .tuple (List.replicate h (.int (-1))), .tuple (List.replicate h .none), .tuple (List.replicate h (.bool true)), .str (repS (Str.ofString "0") h)], d.canLay0 = true ∧ isWay d w h = false := by
  have hl := q.len
  have hm : ∀ d : D, d ∈ List.replicate h d := fun d => by simp; omega
  intro d hd
  simp only [List.mem_cons, List.not_mem_nil, or_false] at hd
  rcases hd with rfl | rfl | rfl | rfl | rfl | rfl | rfl | rfl | rfl | rfl
  · exact ⟨rfl, rfl⟩
  · exact ⟨rfl, isWay_len (by simp; omega)⟩
  · exact ⟨enc_int.li.lay s, rfl⟩
  · exact ⟨lay_row _, isWay_len (by simp; omega)⟩
  · exact ⟨lay_row _, isWay_len (by rw [cut_from _ (by decide)]; simp; omega)⟩
  · exact ⟨layT (lay_rep rfl _), isWay_mem (hm _) (by simp [isNum]; omega)⟩
  · exact ⟨layT (lay_rep rfl _), isWay_mem (hm _) (by simp [isNum])⟩
  · exact ⟨layT (lay_rep rfl _), isWay_mem (hm _) (by simp [isNum])⟩
  · exact ⟨layT (lay_rep rfl _), isWay_mem (hm _) (by simp [isNum])⟩
  · refine ⟨?_, rfl⟩
    have : ∀ n : Nat, n ≤ 20 → (PyData.str (repS (Str.ofString "0") (n : Int))).canLay0 = true := by decide +kernel
    exact this h h2
theorem ok_law_k03 {T : Tb} {fIs fCo sCm fLc sC fWay fWs fSt fSo : Nat} (hIs : Sp_is_seam (T.fn fIs)) (hCo : Sp_cost_of (T.fn fCo)) (hs1 : ∀ a b c, T.arr sCm [a, b] [c] = [a, b, c]) (hLc : Sp_law_cost (T.fn fLc)) (hs2 : ∀ a b, T.arr sC [a, b] [] = [a, b, man true]) (hWay : Sp_law_way (T.fn fWay)) (hWs : Sp_worths (T.fn fWs))
    (hSt : Sp_law_step (T.fn fSt)) (hSo : Sp_law_some (T.fn fSo)) : ∀ ns : List Int, ns.length ≤ 63 → runD T 1 11 (B_law_k03 fIs fCo sCm fLc sC fWay fWs fSt fSo) [.list (ns.map PyData.int)] = .ok (.bool true) := by
  intro ns hs
  obtain ⟨w, h, p, hw, hh, g, e⟩ := hSo ns 0 7 6 hs (by omega) (by omega) (by omega) (by omega) (by omega) (by omega)
  have e : T.fn fSo [li .int ns, .int 0, .int 7, .int 6] = .ok (pic p) := e
  have ww : T.fn fWs [pic p] = .ok (pic (worthsV p)) := hWs w h p g
  have h0 := g.row0
  have h1 := g.hh
  have k1 := g.h1
  have k2 := g.w1
  have eW : worthsV p = (upI 0 h).map fun y => (upI 0 w).map fun x => worthV p x y := by unfold worthsV; rw [h1, h0]
  show runD T 1 11 _ [li .int ns] = _
  simp (disch := omega) [runD, B_law_k03, e, idx_tu, h0, h1, it_rng1]
  rw [cmpr_li row (fun y => (upI 0 w).map fun x => worthV p x y) rfl (by simp; omega)]
  rotate_left
  · intro y hy
    have hy := mem_upI.mp hy
    simp (disch := omega) [turnD, it_rng1]
    rw [cmpr_li .int (fun x => worthV p x y) rfl (by simp; omega)]
    · simp
    · intro x hx
      have hx := mem_upI.mp hx
      have es : T.fn fSt [pic p, man true, .int x, .int y, .none] = .ok (.int (worthV p x y)) := hSt w h p x y none true g.toRect (by omega) (by omega) (by omega) (by omega) (fun z q => nomatch q)
      simp [turnD, man_worth, es]
  simp (disch := omega) [ww, ← eW, it_rng1, -List.map_map]
  refine for_preB (fun pre ρ => ∃ k z, ρ = [.fz (li .int ns), .fz (pic p), .fz (.int w), .fz (.int h), .fz (li row (worthsV p)), k, z, .un, .un, .un, .un] ∧ (pre = [] ∨ ∃ q, Way w h q ∧ z = .fz (row q))) ⟨_, _, rfl, .inl rfl⟩ ?_ ?_
  · rintro pre k q _ ep ⟨k0, z0, rfl, _⟩
    have hk := mem_upI.mp (pre_len ep).2
    obtain ⟨q, hq, eq⟩ := hWay ns (60 + 9 * k) w h hs (by omega) (by omega) (by omega) (by omega) (by omega) (by omega)
    have i1 : T.fn fIs [row q, pic p] = .ok (.bool true) := by rw [hIs w h p _ g (lay_row q), isWay_way hq]
    have c1 : ∀ mn, T.fn fCo [pic p, row q, man mn] = .ok (.int (costV mn p q)) := fun mn => hCo w h p q mn g hq
    have c2 : ∀ mn, T.fn fLc [pic p, man mn, row q] = .ok (.int (costV mn p q)) := fun mn => hLc w h p q mn g hq
    refine ⟨_, ?_, .fz (.int k), .fz (row q), rfl, .inr ⟨q, hq, rfl⟩⟩
    simp (disch := omega) [mulL, eq, i1, hs1, hs2, c1, c2, man_worth, man_joins]
    rw [cmpr_li .int (fun z => worthV p z.2 z.1) rfl (by have := hq.len; simp; omega)]
    · have es := cost_sum0 true p q
      simp only [stepV_true] at es
      simp [es]
    · rintro ⟨y, x⟩ hm
      have hy := mem_upI.mp (List.of_mem_zip hm).1
      have hx := hq.rng x (List.of_mem_zip hm).2
      have hl := hq.len
      have l1 : (worthsV p).length = h := by rw [eW]; simp
      have ey : getI (worthsV p) y = (upI 0 w).map fun x => worthV p x y := by rw [eW, getI_map _ _ (by simp; omega) (by simp; omega), getI_up hy.1 (by omega)]
      have ex : getI ((upI 0 w).map fun x => worthV p x y) x = worthV p x y := by rw [getI_map _ _ (by simp; omega) (by simp; omega), getI_up hx.1 hx.2]
      have i2 : idxD (row ((upI 0 w).map fun x => worthV p x y)) (.int x) = .ok (.int (worthV p x y)) := by rw [idx_tu _ _ (by simp; omega) (by simp; omega), ex]
      simp (disch := omega) [turnD, pr, idx_li, ey, i2, -List.map_map]
  · rintro _ ⟨k, z, rfl, hz⟩
    rcases hz with hz | ⟨q, hq, rfl⟩
    · exact absurd hz (by decide)
    have hl := hq.len
    have ec := bads_k03 hq k1 (by omega) k2
    have a0 : binD .Add (row q) (.tuple [.int 0]) = .ok (row (q ++ [0])) := add_tu PyData.int q [0] (by simp; omega)
    have cp : cutD q (some 1) none = cutD q (some 1) none := rfl
    have hms : binD .Mult (.str (Str.ofString "0")) (.int (h : Int)) = .ok (.str (repS (Str.ofString "0") (h : Int))) := mulS (by omega) (by omega) (by decide) (by decide)
    have good : T.fn fIs [.tuple (List.replicate h (.int 0)), pic p] = .ok (.bool true) := by rw [row_rep, hIs w h p _ g (lay_row _), isWay_way (rep_way k2)]
    have bad : ∀ d : D, d.canLay0 = true ∧ isWay d w h = false → T.fn fIs [d, pic p] = .ok (.bool false) := fun d hd => by rw [hIs w h p d g hd.1, hd.2]
    by_cases c1 : (1 : Int) < h
    · by_cases c2 : (2 : Int) < w
      · simp (disch := first | omega | (simp; done) | (simp; omega)) [mul1, hms, a0, hl, c1, c2, add_list, add_tuple]
        rw [cmpr_none (by simp)]
        · simp (disch := omega) [mul1, good]
        · intro d hd
          have : T.fn fIs [d, pic p] = .ok (.bool false) := by
            simp only [List.cons_append, List.nil_append, List.mem_cons, List.not_mem_nil, or_false] at hd
            by_cases hd2 : d ∈ [PyData.none, .tuple [], li .int q, row (q ++ [0]), row (cutD q (some 1) none), .tuple (List.replicate h (.int w)), .tuple (List.replicate h (.int (-1))), .tuple (List.replicate h .none), .tuple (List.replicate h (.bool true)), .str (repS (Str.ofString "0") h)]
            · exact bad d (ec d hd2)
            · simp only [List.mem_cons, List.not_mem_nil, or_false, not_or] at hd2
              have hd : d = .tuple (List.replicate (h - 1) (.int 0) ++ [.int 2]) ∨ d = .tuple (.int 2 :: .int 0 :: List.replicate ((h : Int) - 2).toNat (.int 0)) := by
                obtain ⟨n1, n2, n3, n4, n5, n6, n7, n8, n9, n10⟩ := hd2
                simp only [n1, n2, n3, n4, n6, n7, n8, n9, n10, false_or] at hd
                rcases hd with hd | hd | hd
                · exact absurd hd n5
                · exact .inl hd
                · exact .inr hd
              rcases hd with rfl | rfl
              · refine bad _ ⟨layT (lay_app (lay_rep rfl _) rfl), ?_⟩
                have e2 : List.replicate (h - 1) (PyData.int 0) ++ [PyData.int 2] = List.replicate (h - 2) (PyData.int 0) ++ PyData.int 0 :: PyData.int 2 :: [] := by
                  rw [show h - 1 = h - 2 + 1 by omega, List.replicate_succ', List.append_assoc]; rfl
                rw [e2]
                exact isWay_step (by decide)
              · refine bad _ ⟨layT (lay_app (a := [.int 2, .int 0]) rfl (lay_rep rfl _)), ?_⟩
                exact isWay_step (l := []) (by decide)
          simp [turnD, this]
      · simp (disch := first | omega | (simp; done) | (simp; omega)) [mul1, hms, a0, hl, c1, c2, add_list, add_tuple]
        rw [cmpr_none (by simp)]
        · simp (disch := omega) [mul1, good]
        · intro d hd
          simp [turnD, bad d (ec d hd)]
    · simp (disch := first | omega | (simp; done) | (simp; omega)) [mul1, hms, a0, hl, c1, add_list, add_tuple]
      rw [cmpr_none (by simp)]
      · simp (disch := omega) [mul1, good]
      · intro d hd
        simp [turnD, bad d (ec d hd)]
end Rf
set_option Elab.async false
set_option linter.all false
set_option autoImplicit false
set_option maxHeartbeats 4000000
set_option maxRecDepth 100000
namespace Rf
open PySem L2
abbrev Sp_many_least (m : List D → Rs D) : Prop := ∀ w h p mn o, Good w h p → MkOk w h o → m [pic p, man mn, mkD o] = .ok (.int (manyV w h p mn (mkV p o)))
theorem ok_many_least {T : Tb} {fN fA fS gG fSt fD fNe : Nat} (hN : Sp_next_ones (T.fn fN)) (hA : Sp_add (T.fn fA)) (hS : Sp_step_cost (T.fn fS)) (hG : T.gl gG = .ok (.int 2)) (hSt : Sp_starts (T.fn fSt)) (hD : Sp_downs (T.fn fD)) (hNe : Sp_need_all (T.fn fNe)) : Sp_many_least (runD T 3 16 (B_many_least fN fA fS gG fSt fD fNe)) := by
  intro w h p mn o g qo
  have w1 := g.w1; have w2 := g.w2; have h1 := g.h1; have h2 := g.h2
  have h0 := g.row0
  have ph := g.hh
  have q := (mkV_marks g.toRect qo).toRect
  have en := hNe w h p mn o g qo
  generalize mkV p o = t at *
  have ht := q.hh
  have tl := dnTab_len w h [p] mn t (h - 1)
  have th := dnTab_head w h [p] mn t (h - 1)
  have dl := dnRow_len w h [p] mn t (h - 1)
  have tg : ∀ y : Int, 0 ≤ y → y < (h : Int) → getI (dnTab w h [p] mn t (h - 1)) y = dnRow w h [p] mn t (h - 1 - y.toNat) := fun y y1 y2 => by
    rw [show y = ((y.toNat : Nat) : Int) by omega, dnTab_get _ _ _ _ _ _ _ (by omega)]; rfl
  have ed : T.fn fD [.list [pic p], man mn, pic t] = .ok (li (li opp) (dnTab w h [p] mn t (h - 1))) := hD w h [p] mn t g.pics q
  have es := hSt w h [p] mn (dnTab w h [p] mn t (h - 1)) g.pics (by omega) (by rw [th]; exact dl)
  rw [th] at es
  have es : T.fn fSt [.list [pic p], man mn, li (li opp) (dnTab w h [p] mn t (h - 1))] = .ok (li opp (startsV w [p] mn (dnRow w h [p] mn t (h - 1)))) := es
  have fl : (startsV w [p] mn (dnRow w h [p] mn t (h - 1))).length = w := by simp [startsV]
  unfold manyV
  simp (disch := omega) [runD, B_many_least, en, ed, idx_tu, h0, ph, es]
  generalize dnTab w h [p] mn t (h - 1) = tb at *
  generalize startsV w [p] mn (dnRow w h [p] mn t (h - 1)) = first at *
  rw [cmpr_fl opp (fun o => o) (fun o : Option (Int × Int) => o.isSome) rfl (by omega)]
  rotate_left
  · intro o _
    cases o <;> simp
  have ef : li opp ((first.filter fun o => o.isSome).map fun o => o) = li pp (first.filterMap id) := by
    unfold li
    rw [filter_some]
  rw [ef]
  cases eq : first.filterMap id with
  | nil => simp [eq_nilL pp _ 2 enc_pp (by decide)]
  | cons a as =>
    simp (disch := omega) [eq_nilL pp _ 2 enc_pp (by decide), it_rng1]
    rw [cmpr_li .int (fun _ : Int => (1 : Int)) rfl (by rw [len_upI]; omega) fun x _ => by simp]
    simp (disch := omega) [it_rng3, -List.map_const', -List.map_const_fun]
    rw [show ((h : Int) - 2 + 1).toNat = h - 1 by omega]
    refine for_end (fun pre ρ => ∃ z9 z10 z11 z12 z13 z14, ρ = [.fz (pic p), .fz (man mn), .fz (pic t), .fz (li (li opp) tb), .fz (.int w), .fz (.int h), .fz (li opp first), .fz (li pp (a :: as)), .fz (li .int (wRow w h p mn t pre.length)), z9, z10, z11, z12, z13, z14, .un]) ⟨_, _, _, _, _, _, rfl⟩ ?_ ?_
    · rintro pre y suf _ ep ⟨z9, z10, z11, z12, z13, z14, rfl⟩
      obtain ⟨hl, hy⟩ := pre_len ep
      rw [len_downI] at hl
      have hy2 := mem_downI.mp hy
      have ey : y = (h : Int) - 2 - (pre.length : Nat) := by
        have h3 : (downI ((h : Int) - 2) (h - 1))[pre.length]? = some y := by rw [ep]; simp
        unfold downI at h3
        rw [List.getElem?_map, List.getElem?_range hl] at h3
        simpa using h3.symm
      have r1 := tg y (by omega) (by omega)
      have r2 := tg (y + 1) (by omega) (by omega)
      rw [show h - 1 - y.toNat = pre.length + 1 by omega] at r1
      rw [show h - 1 - (y + 1).toNat = pre.length by omega] at r2
      have d1 := dnRow_len w h [p] mn t (pre.length + 1)
      have d2 := dnRow_len w h [p] mn t pre.length
      have wl1 := wRow_len w h p mn t pre.length
      have rty := q.row (y := y) (by omega) (by omega)
      have wn : wRow w h p mn t (pre.length + 1) = wNext w p mn t (dnRow w h [p] mn t (pre.length + 1)) (dnRow w h [p] mn t pre.length) (wRow w h p mn t pre.length) y := by rw [ey]; rfl
      rw [List.length_append, List.length_singleton, wn]
      generalize dnRow w h [p] mn t (pre.length + 1) = here at *
      generalize dnRow w h [p] mn t pre.length = below at *
      generalize wRow w h p mn t pre.length = wb at *
      simp (disch := omega) [it_rng1]
      refine for_nxt (fun prx ρ => ∃ z11 z12 z13 z14, ρ = [.fz (pic p), .fz (man mn), .fz (pic t), .fz (li (li opp) tb), .fz (.int w), .fz (.int h), .fz (li opp first), .fz (li pp (a :: as)), .fz (li .int wb), .fz (.int y), .ow ((prx.map fun x => (nexts w x).foldl (fun m there => m + wTurn p mn t here below wb y x there) 0).map .int), z11, z12, z13, z14, .un]) ⟨_, _, _, _, rfl⟩ ?_ ?_
      · rintro prx x sufx _ epx ⟨z11, z12, z13, z14, rfl⟩
        obtain ⟨hlx, hx⟩ := pre_len epx
        rw [len_upI] at hlx
        have hx := mem_upI.mp hx
        simp (disch := omega) [hN x w, -List.map_map, -List.map_append]
        refine for_fold (fun m ρ => ∃ z13 z14, ρ = [.fz (pic p), .fz (man mn), .fz (pic t), .fz (li (li opp) tb), .fz (.int w), .fz (.int h), .fz (li opp first), .fz (li pp (a :: as)), .fz (li .int wb), .fz (.int y), .ow ((prx.map fun x => (nexts w x).foldl (fun m there => m + wTurn p mn t here below wb y x there) 0).map .int), .fz (.int x), .fz (.int m), z13, z14, .un]) (fun m there => m + wTurn p mn t here below wb y x there) 0 ⟨_, _, rfl⟩ ?_ ?_
        · rintro m there _ hth ⟨z13, z14, rfl⟩
          have hth := mem_nexts.mp hth
          cases ex : getI here x with
          | none =>
            have ew : wTurn p mn t here below wb y x there = 0 := by
              unfold wTurn
              rw [ex, if_neg (by intro e; cases e)]
            rw [ew, Int.add_zero]
            simp (disch := omega) [idx_li, tl, r1, d1, ex, -List.map_map]
            exact nxt_ok ⟨_, _, rfl⟩
          | some d =>
            cases eb : getI below there with
            | none =>
              have ew : wTurn p mn t here below wb y x there = 0 := by
                unfold wTurn
                rw [ex, eb, if_neg (by intro e; cases e)]
              rw [ew, Int.add_zero]
              simp (disch := omega) [idx_li, tl, r1, d1, r2, d2, ex, eb, -List.map_map]
              exact nxt_ok ⟨_, _, rfl⟩
            | some b =>
              have st : T.fn fS [pic p, .int there, .int (y + 1), .int x, man mn] = .ok (.int (stepV mn p there (y + 1) (some x))) := hS w h p there (y + 1) (some x) mn g.toRect hth.2.1 hth.2.2 (by omega) (by omega) (fun z e => by cases e; omega)
              have eh : ∀ c : Int, T.fn fA [opp (some b), .tuple [.int (-(if getI (getI t y) x = 2 then 1 else 0)), .int c]] = .ok (pp (addP b (gone t x y, c))) := fun c => hA b (gone t x y, c)
              have ee : ∀ (c : Int × Int) (o : Option (Int × Int)), cmpB .Eq (pp c) (opp o) = .ok (decide (some c = o)) := fun c o => eq_opp (some c) o
              by_cases c : addP b (gone t x y, stepV mn p there (y + 1) (some x)) = d
              · have ew : wTurn p mn t here below wb y x there = getI wb there := by
                  unfold wTurn
                  rw [ex, eb, if_pos (show wfit p mn t y x (some d) (some b) there = true from decide_eq_true c)]
                rw [ew]
                simp (disch := omega) [idx_li, idx_tu, tl, r1, d1, r2, d2, ex, eb, rty, hG, st, eh, ee, c, wl1, -List.map_map]
                exact nxt_ok ⟨_, _, rfl⟩
              · have ew : wTurn p mn t here below wb y x there = 0 := by
                  unfold wTurn
                  rw [ex, eb, if_neg (show ¬ wfit p mn t y x (some d) (some b) there = true from fun z => c (of_decide_eq_true z))]
                rw [ew, Int.add_zero]
                simp (disch := omega) [idx_li, idx_tu, tl, r1, d1, r2, d2, ex, eb, rty, hG, st, eh, ee, c, wl1, -List.map_map]
                exact nxt_ok ⟨_, _, rfl⟩
        · rintro _ ⟨z13, z14, rfl⟩
          simp (disch := omega) [grdFew, -List.map_map, -List.map_append]
          exact nxt_ok ⟨_, _, _, _, by rw [List.map_append, List.map_append]; rfl⟩
      · rintro _ ⟨z11, z12, z13, z14, rfl⟩
        simp (disch := omega) [-List.map_map, -List.map_append]
        exact nxt_ok ⟨_, _, _, _, _, _, rfl⟩
    · rintro _ ⟨z9, z10, z11, z12, z13, z14, rfl⟩
      have dln : (downI ((h : Int) - 2) (h - 1)).length = h - 1 := by simp
      have wl1 := wRow_len w h p mn t (h - 1)
      rw [dln]
      simp (disch := omega) [it_rng1]
      have ee : ∀ (c : Int × Int) (o : Option (Int × Int)), cmpB .Eq (opp o) (pp c) = .ok (decide (o = some c)) := fun c o => eq_opp o (some c)
      rw [cmpr_fl .int (fun x : Int => getI (wRow w h p mn t (h - 1)) x) (fun x => decide (getI first x = some (minBy ltP a as))) rfl (by rw [len_upI]; omega)]
      · simp
      · intro x hx
        have hx := mem_upI.mp hx
        simp (disch := omega) [idx_li, fl, min_pp, ee]
        by_cases c : getI first x = some (minBy ltP a as) <;> simp (disch := omega) [c, idx_li, wl1]
theorem count_pp {l : List (Int × Int)} {v : Int × Int} : metD .count (li pp l) [pp v] = .ok (.int ((l.countP fun z => decide (z = v) : Nat) : Int)) := by
  show grd (SeqAt.shaped (.list (l.map pp)) && SeqAt.shaped (pp v)) (Rs.ok (PyData.int (((l.map pp).countP fun y => PyData.eqv y (pp v) : Nat) : Int))) = _
  rw [show SeqAt.shaped (PyData.list (l.map pp)) = true from shaped_enc enc_pp.li (by decide) l, shaped_enc enc_pp (by decide) v, List.countP_map]
  show Rs.ok (PyData.int _) = _
  congr 3
  apply List.countP_congr
  intro z _
  simp only [Function.comp, decide_eq_true_eq]
  exact enc_pp.eqv z v
theorem count_int {l : List Int} {v : Int} : metD .count (li .int l) [.int v] = .ok (.int ((l.countP fun z => decide (z = v) : Nat) : Int)) := by
  show grd (SeqAt.shaped (.list (l.map .int)) && SeqAt.shaped (.int v)) (Rs.ok (PyData.int (((l.map PyData.int).countP fun y => PyData.eqv y (.int v) : Nat) : Int))) = _
  rw [show SeqAt.shaped (PyData.list (l.map PyData.int)) = true from shaped_enc enc_int.li (by decide) l, shaped_enc enc_int (by decide) v, List.countP_map]
  have : l.countP ((fun y => PyData.eqv y (.int v)) ∘ PyData.int) = l.countP fun z => decide (z = v) := by
    apply List.countP_congr
    intro z _
    simp only [Function.comp, decide_eq_true_eq]
    exact enc_int.eqv z v
  rw [this]; rfl
theorem filterMap_cong {α β : Type} {f g : α → Option β} : ∀ {l : List α}, (∀ a ∈ l, f a = g a) → l.filterMap f = l.filterMap g
  | [], _ => rfl
  | a :: l, H => by rw [List.filterMap_cons, List.filterMap_cons, H a List.mem_cons_self, filterMap_cong fun b hb => H b (List.mem_cons_of_mem _ hb)]
theorem countP_filterMap {α β : Type} (f : α → Option β) (q : β → Bool) : ∀ l : List α, (l.filterMap f).countP q = l.countP fun a => match f a with | none => false | some b => q b
  | [] => rfl
  | a :: l => by
    have ih := countP_filterMap f q l
    rw [List.filterMap_cons, List.countP_cons]
    cases e : f a with
    | none => simp [ih]
    | some b => simp [ih, List.countP_cons]
theorem many_law {w h : Nat} {p : List (List Int)} {mn : Bool} {t : List (List Int)} (h1 : 1 ≤ h) (qt : Rect w h t) : (match (waysV w (h - 1)).filterMap fun s => if signV t s 1 = 0 then some (-signV t s 2, costV mn p s) else none with
    | [] => manyV w h p mn t = 0
    | a :: as => manyV w h p mn t = ((((a :: as).countP fun z => decide (z = minBy ltP a as)) : Nat) : Int)) := by
  have mc := many_count (w := w) (p := p) (mn := mn) (t := t) h1
  have bl := bw_least (w := w) (ps := [p]) (mn := mn) (t := t) h1
  have mw : ∀ s, s ∈ waysV w (h - 1) ↔ Way w h s := fun s => by rw [mem_waysV, show h - 1 + 1 = h by omega]
  have key : ∀ s, Way w h s → (if signV t s 1 = 0 then some (-signV t s 2, costV mn p s) else none) = totV [p] mn t s := fun s qs => by
    have e1 := sign1 qt qs
    have e2 := sign2 qt qs
    rw [totV_eq [p] mn t s (fun e => by have := qs.len; rw [e] at this; simp at this; omega), costSum_one, e2]
    by_cases c : signV t s 1 = 0
    · rw [if_pos c, if_pos (e1.mp c)]
    · rw [if_neg c, if_neg (fun z => c (e1.mpr z))]
  have el : (waysV w (h - 1)).filterMap (fun s => if signV t s 1 = 0 then some (-signV t s 2, costV mn p s) else none) = (waysV w (h - 1)).filterMap (totV [p] mn t) := by
    refine filterMap_cong fun s hs => ?_
    exact key s ((mw s).mp hs)
  rw [el]
  cases e : bwV w h [p] mn t with
  | none =>
    rw [e] at mc
    have : (waysV w (h - 1)).filterMap (totV [p] mn t) = [] := by
      rw [List.filterMap_eq_nil_iff]
      intro s hs
      exact mc.2 s ((mw s).mp hs)
    rw [this]
    exact mc.1
  | some s =>
    rw [e] at mc
    obtain ⟨v, ev, ec⟩ := mc
    obtain ⟨qs, v2, ev2, lv⟩ := bl.some s e
    rw [ev] at ev2
    injection ev2 with ev2
    subst ev2
    have hm : v ∈ (waysV w (h - 1)).filterMap (totV [p] mn t) := List.mem_filterMap.mpr ⟨s, (mw s).mpr qs, ev⟩
    have hle : ∀ u ∈ (waysV w (h - 1)).filterMap (totV [p] mn t), leP v u := fun u hu => by
      obtain ⟨s', hs', e'⟩ := List.mem_filterMap.mp hu
      exact (lv s' ((mw s').mp hs') u e').1
    rw [ec]
    have cp : (waysV w (h - 1)).countP (fun z => decide (totV [p] mn t z = some v)) = ((waysV w (h - 1)).filterMap (totV [p] mn t)).countP fun z => decide (z = v) := by
      rw [countP_filterMap]
      apply List.countP_congr
      intro z _
      cases totV [p] mn t z with
      | none => simp
      | some b => simp
    rw [cp]
    revert hm hle
    cases (waysV w (h - 1)).filterMap (totV [p] mn t) with
    | nil => intro hm; cases hm
    | cons a as =>
      intro hm hle
      have : minBy ltP a as = v := leP_antisymm (minBy_le hm) (hle _ (minBy_mem ltP as a))
      dsimp only
      rw [this]
theorem free_kept {w h : Nat} {p : List (List Int)} (g : Rect w h p) {s : List Int} (q : Way w h s) : signV (freeV p) s 1 = 0 ∧ signV (freeV p) s 2 = 0 := by
  have fm := free_marks g
  have z : ∀ k : Int, k ≠ 0 → signV (freeV p) s k = 0 := fun k hk => by
    unfold signV
    have : ((freeV p).zip s).filter (fun q => decide (getI q.1 q.2 = k)) = [] := by
      rw [List.filter_eq_nil_iff]
      rintro ⟨r, x⟩ hm
      have hr := (List.of_mem_zip hm).1
      have hx := q.rng x (List.of_mem_zip hm).2
      have rl := fm.ww r hr
      obtain ⟨r0, _, rfl⟩ := List.mem_map.mp hr
      rw [List.length_map] at rl
      simp only [decide_eq_true_eq]
      rw [getI_map _ _ (by omega) (by omega)]
      exact fun e => hk e.symm
    rw [this]; rfl
  exact ⟨z 1 (by decide), z 2 (by decide)⟩
theorem min_zero : ∀ (as : List Int) (a : Int), minBy ltP (0, a) (as.map fun c => (0, c)) = (0, minBy ltI a as)
  | [], _ => rfl
  | b :: as, a => by
    show minBy ltP (if ltP (0, b) (0, a) = true then (0, b) else (0, a)) (as.map fun c => (0, c)) = (0, minBy ltI (if ltI b a = true then b else a) as)
    have e : ltP (0, b) (0, a) = ltI b a := by unfold ltP ltI; simp
    rw [e]
    by_cases q : ltI b a = true
    · rw [if_pos q, if_pos q, min_zero as b]
    · rw [if_neg q, if_neg q, min_zero as a]
theorem many_free {w h : Nat} {p : List (List Int)} {mn : Bool} (h1 : 1 ≤ h) (g : Rect w h p) {a : Int} {as : List Int} (e : (waysV w (h - 1)).map (costV mn p) = a :: as) : manyV w h p mn (freeV p) = (((a :: as).countP fun z => decide (z = minBy ltI a as) : Nat) : Int) := by
  have ml := many_law (w := w) (p := p) (mn := mn) (t := freeV p) h1 (free_marks g).toRect
  have mw : ∀ s, s ∈ waysV w (h - 1) → Way w h s := fun s hs => by have := mem_waysV.mp hs; rwa [show h - 1 + 1 = h by omega] at this
  have fr : (waysV w (h - 1)).filterMap (fun s => if signV (freeV p) s 1 = 0 then some (-signV (freeV p) s 2, costV mn p s) else none) = (0, a) :: as.map fun c => (0, c) := by
    have : (waysV w (h - 1)).filterMap (fun s => if signV (freeV p) s 1 = 0 then some (-signV (freeV p) s 2, costV mn p s) else none) = ((waysV w (h - 1)).map (costV mn p)).map fun c => (0, c) := by
      rw [List.map_map, ← List.filterMap_eq_map]
      refine filterMap_cong fun s hs => ?_
      obtain ⟨a, b⟩ := free_kept g (mw s hs)
      rw [if_pos a, b]; rfl
    rw [this, e]; rfl
  rw [fr] at ml
  dsimp only at ml
  rw [ml, min_zero]
  congr 1
  rw [show (0, a) :: as.map (fun c => ((0 : Int), c)) = (a :: as).map fun c => ((0 : Int), c) from rfl, List.countP_map]
  apply List.countP_congr
  intro z _
  simp
theorem minBy_all {a : Int} : ∀ {as : List Int}, (∀ z ∈ as, z = a) → minBy ltI a as = a
  | [], _ => rfl
  | b :: as, H => by
    have e := H b List.mem_cons_self
    show minBy ltI (if ltI b a = true then b else a) as = a
    rw [e]
    have : (if ltI a a = true then a else a) = a := by split <;> rfl
    rw [this]
    exact minBy_all fun z hz => H z (List.mem_cons_of_mem _ hz)
/-- the first row shut -/
def shutF (w : Nat) (p : List (List Int)) : List (List Int) := List.replicate w 1 :: (freeV p).drop 1
theorem shutF_marks {w h : Nat} {p : List (List Int)} (g : Rect w h p) (h1 : 1 ≤ h) : Marks w h (shutF w p) := by
  have fm := free_marks g
  have fh := fm.hh
  refine ⟨⟨by unfold shutF; simp; omega, fun r hr => ?_⟩, fun r hr z hz => ?_⟩
  · rcases List.mem_cons.mp hr with e | e
    · rw [e]; simp
    · exact fm.ww r (List.mem_of_mem_drop e)
  · rcases List.mem_cons.mp hr with e | e
    · rw [e] at hz; rw [(List.mem_replicate.mp hz).2]; decide
    · exact fm.cl r (List.mem_of_mem_drop e) z hz
theorem many_shut {w h : Nat} {p q : List (List Int)} {mn : Bool} (g : Rect w h p) (h1 : 1 ≤ h) : manyV w h q mn (shutF w p) = 0 := by
  have ml := many_law (w := w) (p := q) (mn := mn) (t := shutF w p) h1 (shutF_marks g h1).toRect
  have : (waysV w (h - 1)).filterMap (fun s => if signV (shutF w p) s 1 = 0 then some (-signV (shutF w p) s 2, costV mn q s) else none) = [] := by
    rw [List.filterMap_eq_nil_iff]
    intro s hs
    have qs : Way w h s := by have := mem_waysV.mp hs; rwa [show h - 1 + 1 = h by omega] at this
    rw [if_neg]
    intro e
    have k := (sign1 (shutF_marks g h1).toRect qs).mp e
    rw [kept_iff] at k
    have hl := qs.len
    have := k 0 (by omega)
    have hx := qs.rng (getI s 0) (getI_mem (by omega) (by omega))
    refine this ?_
    show getI (getI (shutF w p) (0 + ((0 : Nat) : Int))) (getI s ((0 : Nat) : Int)) = 1
    rw [show (0 : Int) + ((0 : Nat) : Int) = 0 by rfl, show ((0 : Nat) : Int) = 0 by rfl]
    unfold shutF
    rw [getI_zero]
    exact getI_rep hx.1 hx.2
  rw [this] at ml
  exact ml
theorem ok_law_k13 {T : Tb} {fM sK fF s1 sM fW fC sMK fG fK fN fS : Nat} (hM : Sp_many_least (T.fn fM)) (h3 : ∀ a b, T.arr sK [a] [b] = [a, man true, b]) (hF : Sp_law_free (T.fn fF)) (h1 : ∀ a, T.arr s1 [a] [] = [a, man true, .none]) (h4 : ∀ a b, T.arr sM [a] [b] = [a, b, .none]) (hW : Sp_law_ways (T.fn fW)) (hC : Sp_law_cost (T.fn fC)) (h2 : ∀ a b c, T.arr sMK [a] [b, c] = [a, b, c])
    (hG : Sp_law_signs (T.fn fG)) (hK : Sp_law_marks (T.fn fK)) (hN : Sp_law_manner (T.fn fN)) (hS : Sp_law_some (T.fn fS)) : ∀ ns : List Int, ns.length ≤ 63 → runD T 1 8 (B_law_k13 fM sK fF s1 sM fW fC sMK fG fK fN fS) [.list (ns.map PyData.int)] = .ok (.bool true) := by
  intro ns hs
  obtain ⟨w, h, p, hw, hh, g, e⟩ := hS ns 0 4 4 hs (by omega) (by omega) (by omega) (by omega) (by omega) (by omega)
  obtain ⟨t, qt, et⟩ := hK ns 40 w h p hs (by omega) (by omega) g.w2 g.h2 g.toRect
  obtain ⟨mn, em⟩ := hN ns 70 hs (by omega) (by omega)
  have e : T.fn fS [li .int ns, .int 0, .int 4, .int 4] = .ok (pic p) := e
  have w2 := g.w2
  have h20 := g.h2
  have k1 := g.h1
  have k2 := g.w1
  have h0 := g.row0
  have ph := g.hh
  have ew := hW w h w2 k1 (by omega)
  have few := waysV_few (w := w) (k := h - 1) w2 (by omega)
  have mw : ∀ s, s ∈ waysV w (h - 1) → Way w h s := fun s hs => by have := mem_waysV.mp hs; rwa [show h - 1 + 1 = h by omega] at this
  have l1 : T.fn fM [pic p, man mn, pic t] = .ok (.int (manyV w h p mn t)) := hM w h p mn (some t) g qt
  have l2 : T.fn fM [pic p, man mn, .none] = .ok (.int (manyV w h p mn (freeV p))) := hM w h p mn none g trivial
  have gc : Good w h (flat w h 7) := ⟨flat_rect w h 7, g.w1, g.w2, g.h1, g.h2, fun r hr x hx => by
    rw [(List.mem_replicate.mp hr).2] at hx
    rw [(List.mem_replicate.mp hx).2]; decide⟩
  have l3 : T.fn fM [pic (flat w h 7), man true, .none] = .ok (.int (manyV w h (flat w h 7) true (freeV (flat w h 7)))) := hM w h _ true none gc trivial
  have ef := hF w h p g.toRect (by omega) (by omega)
  have ne0 : waysV w (h - 1) ≠ [] := fun z => by
    have : List.replicate h 0 ∈ waysV w (h - 1) := mem_waysV.mpr (by rw [show h - 1 + 1 = h by omega]; exact rep_way k2)
    rw [z] at this; cases this
  obtain ⟨a, as, ea⟩ : ∃ a as, (waysV w (h - 1)).map (costV mn p) = a :: as := by
    cases z : waysV w (h - 1) with
    | nil => exact absurd z ne0
    | cons s l => exact ⟨_, _, rfl⟩
  have m2 := many_free (mn := mn) k1 g.toRect ea
  obtain ⟨b, bs, eb⟩ : ∃ b bs, (waysV w (h - 1)).map (costV true (flat w h 7)) = b :: bs := by
    cases z : waysV w (h - 1) with
    | nil => exact absurd z ne0
    | cons s l => exact ⟨_, _, rfl⟩
  have m3 := many_free (mn := true) k1 (flat_rect w h 7) eb
  have z0 : ∀ z ∈ b :: bs, z = 0 := fun z hz => by
    rw [← eb] at hz
    obtain ⟨s, hs, rfl⟩ := List.mem_map.mp hz
    exact flat_cost true (mw s hs)
  have b0 := z0 b List.mem_cons_self
  have m4 : manyV w h (flat w h 7) true (freeV (flat w h 7)) = ((a :: as).length : Nat) := by
    rw [m3, minBy_all fun z hz => by rw [b0]; exact z0 z (List.mem_cons_of_mem _ hz)]
    have c1 : (b :: bs).countP (fun z => decide (z = b)) = (b :: bs).length := by
      rw [List.countP_eq_length]
      intro z hz
      rw [decide_eq_true_eq, z0 z hz, b0]
    have c2 : (b :: bs).length = (a :: as).length := by rw [← eb, ← ea, List.length_map, List.length_map]
    rw [c1, c2]
  have gs := shutF_marks g.toRect k1
  have l4 : T.fn fM [pic (flat w h 7), man true, pic (shutF w p)] = .ok (.int 0) := by
    have := hM w h (flat w h 7) true (some (shutF w p)) gc gs
    rw [show mkV (flat w h 7) (some (shutF w p)) = shutF w p from rfl, many_shut g.toRect k1] at this
    exact this
  have ml := many_law (w := w) (p := p) (mn := mn) (t := t) k1 qt.toRect
  let f : List Int → Option (Int × Int) := fun s => if signV t s 1 = 0 then some (-signV t s 2, costV mn p s) else none
  have hf : ∀ s, f s = if signV t s 1 = 0 then some (-signV t s 2, costV mn p s) else none := fun _ => rfl
  have ecut : cutD (freeV p) (some 1) none = (freeV p).drop 1 := cut_from _ (by decide)
  have es : binD .Add (.tuple [.tuple (List.replicate w (.int 1))]) (pic (freeV p).tail) = .ok (pic (shutF w p)) := by
    rw [← List.drop_one]
    rw [show PyData.tuple [.tuple (List.replicate w (.int 1))] = pic [List.replicate w 1] by show _ = PyData.tuple [row (List.replicate w 1)]; unfold row tu; rw [List.map_replicate]]
    have fh := (free_marks g.toRect).hh
    exact add_tu row [List.replicate w 1] _ (by simp; omega)
  have pf : PyData.tuple (List.replicate h (PyData.tuple (List.replicate w (.int 7)))) = pic (flat w h 7) := by
    unfold flat pic tu
    rw [List.map_replicate]
    unfold row tu
    rw [List.map_replicate]
  show runD T 1 8 _ [li .int ns] = _
  simp (disch := omega) [runD, B_law_k13, e, et, em, idx_tu, h0, ph, ew]
  refine for_end (fun pre ρ => ∃ z5, ρ = [.fz (li .int ns), .fz (pic p), .fz (pic t), .fz (man mn), .ow ((pre.filterMap f).map pp), z5, .un, .un]) ⟨_, rfl⟩ ?_ ?_
  · rintro pre s suf _ ep ⟨z5, rfl⟩
    obtain ⟨hl, hm⟩ := pre_len ep
    have qs := mw s hm
    have g1 := hG w h t s 1 qt.toRect (by omega) qs
    have g2 := hG w h t s 2 qt.toRect (by omega) qs
    have c1 := hC w h p s mn g qs
    have fl : (pre.filterMap f).length ≤ pre.length := List.length_filterMap_le _ _
    rw [List.filterMap_append]
    by_cases c : signV t s 1 = 0
    · have e1 : [s].filterMap f = [(-signV t s 2, costV mn p s)] := by rw [List.filterMap_cons, hf, if_pos c]; rfl
      rw [e1]
      simp (disch := omega) [g1, c, g2, c1, grdFew, -List.map_append]
      exact nxt_ok ⟨_, by rw [List.map_append]; rfl⟩
    · have e1 : [s].filterMap f = [] := by rw [List.filterMap_cons, hf, if_neg c]; rfl
      rw [e1, List.append_nil]
      simp [g1, c]
      exact nxt_ok ⟨_, rfl⟩
  · rintro _ ⟨z5, rfl⟩
    have ml : (match (waysV w (h - 1)).filterMap f with
      | [] => manyV w h p mn t = 0
      | a :: as => manyV w h p mn t = ((((a :: as).countP fun z => decide (z = minBy ltP a as)) : Nat) : Int)) := ml
    have rest : ∀ ρ : List Sl, (Ss.ex T (.cons (.asg (.nm 6) (.cst .none) []) .nil) ρ) = (Ss.ex T (.cons (.asg (.nm 6) (.cst .none) []) .nil) ρ) := fun _ => rfl
    have elist : PyData.list ((waysV w (h - 1)).filterMap f |>.map pp) = li pp ((waysV w (h - 1)).filterMap f) := rfl
    have ex : li PyData.int ((waysV w (h - 1)).map (costV mn p)) = li PyData.int (a :: as) := by rw [ea]
    have hcost : ∀ F, (∀ s ∈ waysV w (h - 1), F (row s) = .ok (some (.int (costV mn p s)))) → cmpR F ((waysV w (h - 1)).map row) = .ok (li .int (a :: as)) := fun F hF => by rw [← ea]; exact cmpr_li .int (costV mn p) rfl (by omega) hF
    have cok : metOk .count (li .int (a :: as)) = true := rfl
    have cok2 : ∀ l, metOk .count (li pp l) = true := fun _ => rfl
    cases z : (waysV w (h - 1)).filterMap f with
    | nil =>
      rw [z] at ml
      have ml : manyV w h p mn t = 0 := ml
      have e0 : PyData.list (([] : List (Int × Int)).map pp) = .list [] := rfl
      simp (disch := omega) [h2, l1, ml, ew, idx_tu, h0, ph]
      rw [hcost _ (fun s hs => by simp [hC w h p s mn g (mw s hs)])]
      simp (disch := omega) [h4, l2, m2, min_ints, count_int, cok, mul1, pf, h1, l3, m4, h3, ef, ecut, es, l4, idx_tu, h0, ph]
    | cons u us =>
      rw [z] at ml
      have ml : manyV w h p mn t = ((((u :: us).countP fun z => decide (z = minBy ltP u us)) : Nat) : Int) := ml
      have e0 : PyData.list ((u :: us).map pp) = li pp (u :: us) := rfl
      have e1 : cmpB .NotEq (li pp (u :: us)) (.list []) = .ok true := by
        have := ne_enc enc_pp.li (by decide) (u :: us) []
        rw [decide_eq_false (show ¬ u :: us = [] by simp)] at this
        exact this
      simp (disch := omega) [h2, l1, -List.map_cons, e0, e1, cok2, min_pp, count_pp, ml, ew, idx_tu, h0, ph]
      rw [hcost _ (fun s hs => by simp [hC w h p s mn g (mw s hs)])]
      simp (disch := omega) [h4, l2, m2, min_ints, count_int, cok, mul1, pf, h1, l3, m4, h3, ef, ecut, es, l4, idx_tu, h0, ph]
end Rf
set_option Elab.async false
set_option linter.all false
set_option autoImplicit false
set_option maxHeartbeats 2000000
set_option maxRecDepth 100000
namespace Rf
open PySem L2
theorem filt_ne (x : Int) : ∀ (r : List Int) (lo : Int), lo ≤ x + 1 → (((upI lo r.length).zip r).filter fun q => !decide (q.1 = x)).map (·.2) = r.take (x - lo).toNat ++ (if lo ≤ x then r.drop (x - lo + 1).toNat else r)
  | [], lo, h => by simp
  | a :: r, lo, h => by
    rw [List.length_cons, upI_succ, List.zip_cons_cons, List.filter_cons]
    by_cases c : lo = x
    · subst c
      have ih := filt_ne lo r (lo + 1) (by omega)
      rw [show lo - (lo + 1) = -1 by omega] at ih
      rw [if_neg (by omega)] at ih
      simp only [decide_true, Bool.not_true, Bool.false_eq_true, if_false, ih]
      simp
    · by_cases c2 : lo ≤ x
      · have ih := filt_ne x r (lo + 1) (by omega)
        rw [if_pos (by omega)] at ih
        have e : (!decide (lo = x)) = true := by simp [c]
        simp only [e, if_true, List.map_cons, ih, if_pos c2]
        obtain ⟨k, hk⟩ : ∃ k, (x - lo).toNat = k + 1 := ⟨(x - lo).toNat - 1, by omega⟩
        rw [show (x - (lo + 1)).toNat = k by omega, hk, show (x - lo + 1).toNat = k + 1 + 1 by omega, show (x - (lo + 1) + 1).toNat = k + 1 by omega]
        rfl
      · have e0 : lo = x + 1 := by omega
        subst e0
        have all : ∀ (r : List Int) (lo : Int), x < lo → (((upI lo r.length).zip r).filter fun q => !decide (q.1 = x)).map (·.2) = r := by
          intro r
          induction r with
          | nil => intro lo _; rfl
          | cons b r ih =>
            intro lo hlo
            rw [List.length_cons, upI_succ, List.zip_cons_cons, List.filter_cons]
            have : (!decide (lo = x)) = true := by simp; omega
            simp only [this, if_true, List.map_cons, ih (lo + 1) (by omega)]
        have e : (!decide (x + 1 = x)) = true := by simp; omega
        simp only [e, if_true, List.map_cons, all r (x + 1 + 1) (by omega), if_neg c2]
        rw [show (x - (x + 1)).toNat = 0 by omega]; rfl
theorem filt_cut (r : List Int) {x : Int} (h : 0 ≤ x) : (((upI 0 r.length).zip r).filter fun q => !decide (q.1 = x)).map (·.2) = cutR r x := by
  rw [filt_ne x r 0 (by omega), if_pos h]
  unfold cutR
  rw [show x - 0 = x by omega]
abbrev Sp_law_cut (m : List D → Rs D) : Prop := ∀ w h p s, Rect w h p → w < 1000 → h < 1000 → Way w h s → m [pic p, row s] = .ok (pic (cutV p s))
theorem ok_law_cut {T : Tb} : Sp_law_cut (runD T 2 6 B_law_cut) := by
  intro w h p s g hw hh q
  have h1 := g.hh
  simp [runD, B_law_cut]
  rw [cmpr_li row (fun q : List Int × Int => cutR q.1 q.2) rfl (by simp; omega)]
  · simp [cutV]
  · rintro ⟨r, x⟩ hm
    have hx := q.rng x (List.of_mem_zip hm).2
    have hr := g.ww r (List.of_mem_zip hm).1
    simp [pr]
    rw [cmpr_fl .int (fun q : Int × Int => q.2) (fun q => !decide (q.1 = x)) rfl (by simp; omega)]
    · rw [filt_cut r hx.1]; simp
    · rintro ⟨i, c⟩ _
      by_cases z : i = x <;> simp [pr, z]
abbrev Sp_law_steps (m : List D → Rs D) : Prop := ∀ (w h : Nat) p (k : Nat) mn t, Good w h p → Marks w h t → h ≤ 8 → 1 ≤ k → k ≤ w → m [pic p, .int k, man mn, pic t] = .ok (stpo (stepsTo h mn (w - k) w p t))
theorem ok_law_steps {T : Tb} {fW fB : Nat} (hW : Sp_law_cut (T.fn fW)) (hB : Sp_law_best (T.fn fB)) : Sp_law_steps (runD T 4 8 (B_law_steps fW fB)) := by
  intro w h p k mn t g q h8 k1 k2
  have key : ∀ (n fuel w : Nat) (p t : List (List Int)) (acc : List Step) (z : Sl), Good w h p → Marks w h t → w = k + n → n < fuel → acc.length + n < 1000 → ∃ z' : Sl × Sl, whlD (tstE T (.cmp .Gt (.bcl .len (.cons (.idx (.var 0) (.cst (.int 0))) .nil)) (.var 1))) ((Ss.cons (.asg (.nm 5) (.fcl fB (.cons (.var 0) (.cons (.var 2) (.cons (.var 3) .nil)))) []) (.cons (.ite (.cmp .Is (.var 5) (.cst .none)) (.cons (.ret (.cst .none) []) .nil) .nil) (.cons (.app 4 (.tup (.cons (.var 5) (.cons (.bcl .tuple (.cons (.cmpr (.idx (.var 6) (.var 7)) (.t2 (.nm 6) (.nm 7)) .zip (.cons (.var 0) (.cons (.var 5) .nil)) .nil [6, 7]) .nil)) .nil))) []) (.cons (.par 0 3 (.v (.fcl fW (.cons (.var 0) (.cons (.var 5) .nil)))) (.v (.fcl fW (.cons (.var 3) (.cons (.var 5) .nil)))) []) .nil)))).ex T) fuel
      [.fz (pic p), .fz (.int k), .fz (man mn), .fz (pic t), .ow (acc.map stp), z, .un, .un] = .ok (match stepsTo h mn n w p t with
        | none => .rt .none
        | some r => .nx [.fz (pic r.2), .fz (.int k), .fz (man mn), z'.1, .ow ((acc ++ r.1).map stp), z'.2, .un, .un]) := by
    intro n
    induction n with
    | zero =>
      intro fuel w p t acc z g q e1 e2 e3
      obtain ⟨fuel, rfl⟩ : ∃ m, fuel = m + 1 := ⟨fuel - 1, by omega⟩
      have h0 := g.row0
      have hh := g.hh
      have a1 := g.h1
      refine ⟨(.fz (pic t), z), ?_⟩
      unfold whlD
      have nl : ¬ ((k : Int) < (w : Int)) := by omega
      simp (disch := omega) [idx_tu, h0, nl, stepsTo]
    | succ n ih =>
      intro fuel w p t acc z g q e1 e2 e3
      obtain ⟨fuel, rfl⟩ : ∃ m, fuel = m + 1 := ⟨fuel - 1, by omega⟩
      have h0 := g.row0
      have hh := g.hh
      have a1 := g.h1
      have a2 := g.h2
      have a3 := g.w2
      have lt : ((k : Int) < (w : Int)) := by omega
      have eb : T.fn fB [pic p, man mn, pic t] = .ok (orow (bwV w h [p] mn t)) := hB w h p t mn g h8 q.toRect
      unfold whlD stepsTo
      cases z2 : bwV w h [p] mn t with
      | none =>
        rw [z2] at eb
        refine ⟨(.un, .un), ?_⟩
        simp (disch := omega) [idx_tu, h0, lt, eb, op]
      | some s =>
        rw [z2] at eb
        have eb : T.fn fB [pic p, man mn, pic t] = .ok (row s) := eb
        obtain ⟨qs, _, _⟩ := bw_way a1 z2
        have c1 := hW w h p s g.toRect (by omega) (by omega) qs
        have c2 := hW w h t s q.toRect (by omega) (by omega) qs
        obtain ⟨z', ez⟩ := ih fuel (w - 1) (cutV p s) (cutV t s) (acc ++ [(s, cellsV p s)]) (.fz (row s)) (cut_good g qs (by omega)) (cut_marks q qs) (by omega) (by omega) (by simp; omega)
        refine ⟨z', ?_⟩
        simp (disch := omega) [idx_tu, h0, lt, eb, -List.map_append]
        rw [cmpr_li .int (fun q : List Int × Int => getI q.1 q.2) rfl (by simp; omega)]
        · have ec : tu PyData.int ((p.zip s).map fun q => getI q.1 q.2) = row (cellsV p s) := rfl
          have ea : acc.map stp ++ [PyData.tuple [row s, row (cellsV p s)]] = (acc ++ [(s, cellsV p s)]).map stp := by rw [List.map_append]; rfl
          simp (disch := omega) [ec, grdFew, ea, c1, c2, -List.map_append]
          rw [ez]
          cases stepsTo h mn n (w - 1) (cutV p s) (cutV t s) with
          | none => rfl
          | some r => simp
        · rintro ⟨r, x⟩ hm
          have hx := qs.rng x (List.of_mem_zip hm).2
          have hr := g.ww r (List.of_mem_zip hm).1
          simp (disch := omega) [pr, idx_tu]
  have w2 := g.w2
  obtain ⟨z', ez⟩ := key (w - k) 10000 w p t [] .un g q (by omega) (by omega) (by simp; omega)
  rw [List.map_nil] at ez
  simp [runD, B_law_steps]
  rw [ez]
  cases stepsTo h mn (w - k) w p t with
  | none => rfl
  | some r => simp [stpo, op, pr]; rfl


theorem free_some {w h : Nat} {p : List (List Int)} {mn : Bool} (g : Good w h p) : ∃ s, bwV w h [p] mn (freeV p) = some s :=
  bw_some g.h1 (rep_way g.w1) ((sign1 (free_marks g.toRect).toRect (rep_way g.w1)).mp (free_kept g.toRect (rep_way g.w1)).1)
def costsTo (h : Nat) (mn : Bool) : Nat → Nat → List (List Int) → List Int
  | 0, _, _ => []
  | n + 1, w, p => match bwV w h [p] mn (freeV p) with
    | none => []
    | some s => costV mn p s :: costsTo h mn n (w - 1) (cutV p s)
abbrev Sp_costs_down (m : List D → Rs D) : Prop := ∀ (w h : Nat) p (k : Nat) mn, Good w h p → 1 ≤ k → k ≤ w → m [pic p, .int k, man mn] = .ok (li .int (costsTo h mn (w - k) w p))
theorem ok_costs_down {T : Tb} {fW fP fB fF fN fA c : Nat} (hW : Sp_without (T.fn fW)) (hP : Sp_plain_cost (T.fn fP)) (hB : Sp_best_way (T.fn fB)) (hF : Sp_free_marks (T.fn fF)) (hN : Sp_need_width c (T.fn fN)) (hA : Sp_need_all (T.fn fA)) : Sp_costs_down (runD T 3 5 (B_costs_down fW fP fB fF fN fA)) := by
  intro w h p k mn g k1 k2
  have key : ∀ (n fuel w : Nat) (p : List (List Int)) (acc : List Int) (z : Sl), Good w h p → w = k + n → n < fuel → acc.length + n < 1000 → ∃ z' : Sl × Sl, whlD (tstE T (.cmp .Gt (.bcl .len (.cons (.idx (.var 0) (.cst (.int 0))) .nil)) (.var 1))) ((Ss.cons (.asg (.nm 4) (.fcl fB (.cons (.lst (.cons (.var 0) .nil)) (.cons (.var 2) (.cons (.fcl fF (.cons (.var 0) .nil)) .nil)))) []) (.cons (.app 3 (.fcl fP (.cons (.var 0) (.cons (.var 4) (.cons (.var 2) .nil)))) []) (.cons (.asg (.nm 0) (.fcl fW (.cons (.var 0) (.cons (.var 4) .nil))) []) .nil))).ex T) fuel
      [.fz (pic p), .fz (.int k), .fz (man mn), .ow (acc.map .int), z] = .ok (.nx [z'.1, .fz (.int k), .fz (man mn), .ow ((acc ++ costsTo h mn n w p).map .int), z'.2]) := by
    intro n
    induction n with
    | zero =>
      intro fuel w p acc z g e1 e2 e3
      obtain ⟨fuel, rfl⟩ : ∃ m, fuel = m + 1 := ⟨fuel - 1, by omega⟩
      have h0 := g.row0
      have hh := g.hh
      have a1 := g.h1
      refine ⟨(.fz (pic p), z), ?_⟩
      unfold whlD
      have nl : ¬ ((k : Int) < (w : Int)) := by omega
      simp (disch := omega) [idx_tu, h0, nl, costsTo]
    | succ n ih =>
      intro fuel w p acc z g e1 e2 e3
      obtain ⟨fuel, rfl⟩ : ∃ m, fuel = m + 1 := ⟨fuel - 1, by omega⟩
      have h0 := g.row0
      have hh := g.hh
      have a1 := g.h1
      have a2 := g.h2
      have a3 := g.w2
      have lt : ((k : Int) < (w : Int)) := by omega
      obtain ⟨s, es⟩ := free_some (mn := mn) g
      obtain ⟨qs, _, _⟩ := bw_way a1 es
      have ef := hF w h p g.toRect (by omega) (by omega)
      have eb : T.fn fB [.list [pic p], man mn, pic (freeV p)] = .ok (orow (bwV w h [p] mn (freeV p))) := hB w h [p] mn _ g.pics (free_marks g.toRect).toRect
      rw [es] at eb
      have eb : T.fn fB [.list [pic p], man mn, pic (freeV p)] = .ok (row s) := eb
      have c1 := hW w h p s g.toRect (by omega) (by omega) qs
      have c2 := hP w h p s mn g qs
      obtain ⟨z', ez⟩ := ih fuel (w - 1) (cutV p s) (acc ++ [costV mn p s]) (.fz (row s)) (cut_good g qs (by omega)) (by omega) (by omega) (by simp; omega)
      refine ⟨z', ?_⟩
      unfold whlD costsTo
      rw [es]
      have ea : acc.map PyData.int ++ [PyData.int (costV mn p s)] = (acc ++ [costV mn p s]).map .int := by rw [List.map_append]; rfl
      simp (disch := omega) [idx_tu, h0, lt, ef, eb, c2, c1, grdFew, ea, -List.map_append]
      rw [ez]
      simp
  have w2 := g.w2
  obtain ⟨z', ez⟩ := key (w - k) 10000 w p [] .un g (by omega) (by omega) (by simp; omega)
  rw [List.map_nil] at ez
  have e1 : T.fn fA [pic p, man mn, .none] = .ok (pic (freeV p)) := hA w h p mn none g trivial
  have e2 := width_ok hN g (k := (k : Int)) (by omega) (by omega)
  simp [runD, B_costs_down, e1, e2]
  rw [ez]
  simp
  rfl
abbrev Sp_loss (m : List D → Rs D) : Prop := ∀ (w h : Nat) p (k : Nat) mn, Good w h p → 1 ≤ k → k ≤ w → m [pic p, .int k, man mn] = .ok (.int (costsTo h mn (w - k) w p).sum)
theorem ok_loss {T : Tb} {fC : Nat} (hC : Sp_costs_down (T.fn fC)) : Sp_loss (runD T 3 3 (B_loss fC)) := by
  intro w h p k mn g k1 k2
  simp [runD, B_loss, hC w h p k mn g k1 k2]
end Rf
set_option Elab.async false
set_option linter.all false
set_option autoImplicit false
set_option maxHeartbeats 2000000
set_option maxRecDepth 100000
namespace Rf
open PySem L2
/-! ### histories -/
def isStep (d : D) (w h : Int) : Bool := match d with
  | .tuple [a, b] => isWay a w h && isCells b h
  | _ => false
def isHist (d : D) (w h : Int) : Bool := match d with
  | .list xs => (((upI 0 xs.length).zip xs.reverse).all fun q => isStep q.2 (w + q.1 + 1) h) && decide (w + xs.length ≤ 20)
  | _ => false
theorem it_enum_raw (xs : List D) : itD .enum [.list xs] = .ok (((upI 0 xs.length).zip xs).map (pr .int fun d => d)) := by
  have := it_enum_li (fun d : D => d) xs
  unfold li at this
  rwa [List.map_id'] at this
theorem it_enum_rawT (xs : List D) : itD .enum [.tuple xs] = .ok (((upI 0 xs.length).zip xs).map (pr .int fun d => d)) := by
  have := it_enum_tu (fun d : D => d) xs
  unfold tu at this
  rwa [List.map_id'] at this
theorem lay_rev {xs : List D} (h : PyData.canLayAll0 xs = true) : ∀ d ∈ xs.reverse, d.canLay0 = true := fun d hd => lay_mem h (List.mem_reverse.mp hd)
abbrev Sp_is_history (m : List D → Rs D) : Prop := ∀ (d : D) (w h : Int), d.canLay0 = true → h < 1000000 → m [d, .int w, .int h] = .ok (.bool (isHist d w h))
theorem ok_is_history {T : Tb} {gM fC fW : Nat} (hM : T.gl gM = .ok (.int 20)) (hC : Sp_is_cells (T.fn fC)) (hW : Sp_is_way (T.fn fW)) : Sp_is_history (runD T 3 5 (B_is_history gM fC fW)) := by
  intro d w h hd hh
  cases d with
  | dict => simp [PyData.canLay0] at hd
  | none => simp [runD, B_is_history, isHist]
  | bool => simp [runD, B_is_history, isHist]
  | int => simp [runD, B_is_history, isHist]
  | str => simp [runD, B_is_history, isHist]
  | tuple => simp [runD, B_is_history, isHist]
  | list xs =>
    simp only [PyData.canLay0] at hd
    have hr := lay_rev hd
    have er : revD (.list xs) = .ok (.list xs.reverse) := rfl
    have e0 := it_enum_raw xs.reverse
    rw [List.length_reverse] at e0
    simp [runD, B_is_history, er, e0]
    refine for_testB (r := .bool false) (fun q : Int × D => isStep q.2 (w + q.1 + 1) h) (fun ρ => ∃ a b, ρ = [.fz (.list xs), .fz (.int w), .fz (.int h), a, b]) ⟨_, _, rfl⟩ ?_ ?_ ?_
    · rintro ⟨i, d⟩ _ hm ⟨a, b, rfl⟩
      have hdl := hr d (List.of_mem_zip hm).2
      refine ⟨_, ⟨.fz (.int i), .fz d, rfl⟩, ?_⟩
      cases d with
      | dict => simp [PyData.canLay0] at hdl
      | none => simp [pr, isStep]
      | bool => simp [pr, isStep]
      | int => simp [pr, isStep]
      | str => simp [pr, isStep]
      | list => simp [pr, isStep]
      | tuple ys =>
        simp only [PyData.canLay0] at hdl
        rcases ys with _ | ⟨a, _ | ⟨b, _ | ⟨c, ys⟩⟩⟩
        · simp [pr, isStep]
        · simp [pr, isStep]
        · simp only [PyData.canLayAll0, Bool.and_eq_true] at hdl
          have i1 : idxD (.tuple [a, b]) (.int 1) = .ok b := rfl
          have q1 := hW a (w + i + 1) h hdl.1 hh
          have q2 := hC b h hdl.2.1 hh
          simp [pr, isStep, q1]
          cases isWay a (w + i + 1) h with
          | false => simp
          | true =>
            simp [i1, q2]
            cases isCells b h <;> simp
        · have ne : ¬ ((ys.length : Int) + 1 + 1 + 1 = 2) := by omega
          simp [pr, isStep, ne]
    · rintro _ ⟨a, b, rfl⟩ q
      simp [hM, isHist, q]
    · intro q
      simp [isHist, q]

/-- steps that can be put back, the last one first -/
def HistOk (h : Nat) : Nat → List Step → Prop
  | w, [] => w ≤ 20
  | w, s :: r => (Way (w + 1) h s.1 ∧ s.2.length = h ∧ ∀ c ∈ s.2, 0 ≤ c ∧ c ≤ 99) ∧ HistOk h (w + 1) r
theorem isCells_row {c : List Int} {h : Nat} (hl : c.length = h) (hc : ∀ z ∈ c, 0 ≤ z ∧ z ≤ 99) : isCells (row c) h = true := by
  show (decide _ && _) = true
  rw [Bool.and_eq_true, decide_eq_true_eq, List.length_map, hl]
  refine ⟨rfl, ?_⟩
  rw [all_num, List.all_eq_true]
  intro z hz
  have := hc z hz
  simp [this.1, this.2]
theorem hist_steps {h : Nat} : ∀ (r : List Step) (w : Nat) (lo : Int) (w0 : Int), w0 + lo = w → HistOk h w r → (((upI lo r.length).zip (r.map stp)).all fun q => isStep q.2 (w0 + q.1 + 1) h) = true ∧ w + r.length ≤ 20
  | [], w, lo, w0, e, k => ⟨by simp, by show w + 0 ≤ 20; exact k⟩
  | s :: r, w, lo, w0, e, k => by
    obtain ⟨⟨k1, k2, k3⟩, k4⟩ := k
    obtain ⟨i1, i2⟩ := hist_steps r (w + 1) (lo + 1) w0 (by omega) k4
    rw [List.length_cons, upI_succ, List.map_cons, List.zip_cons_cons, List.all_cons, i1, Bool.and_true]
    refine ⟨?_, by omega⟩
    show (isWay (row s.1) (w0 + lo + 1) h && isCells (row s.2) h) = true
    have e1 : w0 + lo + 1 = ((w + 1 : Nat) : Int) := by omega
    rw [e1, isWay_way k1, isCells_row k2 k3]; rfl
theorem isHist_ok {w h : Nat} {hs : List Step} (k : HistOk h w hs.reverse) : isHist (li stp hs) w h = true := by
  obtain ⟨a, b⟩ := hist_steps hs.reverse w 0 w (by omega) k
  rw [List.length_reverse] at a b
  show (_ && _) = true
  rw [Bool.and_eq_true, decide_eq_true_eq, List.length_map, ← List.map_reverse]
  exact ⟨a, by omega⟩
theorem put_rect {w h : Nat} {p : List (List Int)} {s c : List Int} (g : Rect w h p) (q : Way (w + 1) h s) (hc : c.length = h) : Rect (w + 1) h (putV p s c) := by
  have hh := g.hh
  have hl := q.len
  refine ⟨by unfold putV; rw [List.length_map, List.length_zip, List.length_zip]; omega, fun r hr => ?_⟩
  obtain ⟨⟨r0, x, z⟩, hm, rfl⟩ := List.mem_map.mp hr
  have hx := q.rng x (List.of_mem_zip (List.of_mem_zip hm).2).1
  have hw := g.ww r0 (List.of_mem_zip hm).1
  have hx : 0 ≤ x ∧ x < ((w + 1 : Nat) : Int) := hx
  have hw : r0.length = w := hw
  show (putR r0 x z).length = _
  unfold putR
  rw [List.length_append, List.length_append, List.length_take, List.length_drop, List.length_singleton]
  omega
def rebV (p : List (List Int)) (hs : List Step) : List (List Int) := hs.reverse.foldl (fun p s => putV p s.1 s.2) p
abbrev Sp_rebuilt (m : List D → Rs D) : Prop := ∀ (w h : Nat) p (hs : List Step), Good w h p → HistOk h w hs.reverse → m [pic p, li stp hs] = .ok (pic (rebV p hs))
theorem ok_rebuilt {T : Tb} {fP fH cN fN c : Nat} (hP : Sp_put_in (T.fn fP)) (hH : Sp_is_history (T.fn fH)) (hN : Sp_need_picture c (T.fn fN)) : Sp_rebuilt (runD T 2 4 (B_rebuilt fP fH cN fN)) := by
  intro w h p hs g k
  have h0 := g.row0
  have ph := g.hh
  have k1 := g.h1
  have h20 := g.h2
  have e1 := hH (li stp hs) w h (enc_stp.li.lay hs) (by omega)
  rw [isHist_ok k] at e1
  simp (disch := omega) [runD, B_rebuilt, need_pic hN g, idx_tu, h0, ph, e1]
  have key : ∀ (r pre : List Step) (w : Nat) (p : List (List Int)) (z2 z3 : Sl), Rect w h p → HistOk h w r → ∃ z2' z3', forD (stepS T (.t2 (.nm 2) (.nm 3)) (.cons (.asg (.nm 0) (.fcl fP (.cons (.var 0) (.cons (.var 2) (.cons (.var 3) .nil)))) []) .nil)) (r.map stp) [.fz (pic p), .fz (li stp hs), z2, z3] = .ok (.nx [.fz (pic (r.foldl (fun p s => putV p s.1 s.2) p)), .fz (li stp hs), z2', z3']) := by
    intro r
    induction r with
    | nil => exact fun pre w p z2 z3 _ _ => ⟨z2, z3, rfl⟩
    | cons s r ih =>
      intro pre w p z2 z3 g k
      obtain ⟨⟨k1, k2, k3⟩, k4⟩ := k
      have hw := (hist_steps r (w + 1) (w + 1) 0 (by omega) k4).2
      obtain ⟨z2', z3', e⟩ := ih [] (w + 1) (putV p s.1 s.2) (.fz (row s.1)) (.fz (row s.2)) (put_rect g k1 k2) k4
      refine ⟨z2', z3', ?_⟩
      have ep := hP w h p s.1 s.2 g (by omega) (by omega) k1 k2
      rw [List.map_cons]
      show (stepS T _ _ (stp s) _).bind _ = _
      have es : stepS T (.t2 (.nm 2) (.nm 3)) (.cons (.asg (.nm 0) (.fcl fP (.cons (.var 0) (.cons (.var 2) (.cons (.var 3) .nil)))) []) .nil) (stp s) [.fz (pic p), .fz (li stp hs), z2, z3] = .ok (.nx [.fz (pic (putV p s.1 s.2)), .fz (li stp hs), .fz (row s.1), .fz (row s.2)]) := by
        simp [pr, ep]
      rw [es]
      exact e
  obtain ⟨z2, z3, e⟩ := key hs.reverse [] w p .un .un g.toRect k
  rw [List.map_reverse] at e
  rw [e]
  simp [rebV]
end Rf
set_option Elab.async false
set_option linter.all false
set_option autoImplicit false
set_option maxHeartbeats 4000000
set_option maxRecDepth 100000
namespace Rf
open PySem L2
/-! ### widths that are none -/
abbrev Sx_narrowed (c : Nat) (m : List D → Rs D) : Prop := ∀ (w h : Nat) p d mn o, Good w h p → MkOk w h o → d.canLay0 = true → isNum d 1 w = false → m [pic p, d, man mn, mkD o] = .ex (c, none)
theorem ox_narrowed {T : Tb} {fS fW fN c : Nat} (hW : Sp_need_width c (T.fn fW)) (hN : Sp_need_all (T.fn fN)) : Sx_narrowed c (runD T 4 5 (B_narrowed fS fW fN)) := by
  intro w h p d mn o g q hd hn
  have e2 := hW w h p d g hd
  rw [hn] at e2
  have e2 : T.fn fW [pic p, d] = .ex (c, none) := e2
  simp [runD, B_narrowed, hN w h p mn o g q, e2]
abbrev Sx_history (c : Nat) (m : List D → Rs D) : Prop := ∀ (w h : Nat) p d mn o, Good w h p → MkOk w h o → d.canLay0 = true → isNum d 1 w = false → m [pic p, d, man mn, mkD o] = .ex (c, none)
theorem ox_history {T : Tb} {fS fW fN c : Nat} (hW : Sp_need_width c (T.fn fW)) (hN : Sp_need_all (T.fn fN)) : Sx_history c (runD T 4 5 (B_history fS fW fN)) := by
  intro w h p d mn o g q hd hn
  have e2 := hW w h p d g hd
  rw [hn] at e2
  have e2 : T.fn fW [pic p, d] = .ex (c, none) := e2
  simp [runD, B_history, hN w h p mn o g q, e2]
abbrev Sx_costs_down (c : Nat) (m : List D → Rs D) : Prop := ∀ (w h : Nat) p d mn, Good w h p → d.canLay0 = true → isNum d 1 w = false → m [pic p, d, man mn] = .ex (c, none)
theorem ox_costs_down {T : Tb} {fW fP fB fF fN fA c : Nat} (hN : Sp_need_width c (T.fn fN)) (hA : Sp_need_all (T.fn fA)) : Sx_costs_down c (runD T 3 5 (B_costs_down fW fP fB fF fN fA)) := by
  intro w h p d mn g hd hn
  have e2 := hN w h p d g hd
  rw [hn] at e2
  have e2 : T.fn fN [pic p, d] = .ex (c, none) := e2
  have e1 : T.fn fA [pic p, man mn, .none] = .ok (pic (freeV p)) := hA w h p mn none g trivial
  simp [runD, B_costs_down, e1, e2]
abbrev Sx_loss (c : Nat) (m : List D → Rs D) : Prop := ∀ (w h : Nat) p d mn, Good w h p → d.canLay0 = true → isNum d 1 w = false → m [pic p, d, man mn] = .ex (c, none)
theorem ox_loss {T : Tb} {fC c : Nat} (hC : Sx_costs_down c (T.fn fC)) : Sx_loss c (runD T 3 3 (B_loss fC)) := by
  intro w h p d mn g hd hn
  simp [runD, B_loss, hC w h p d mn g hd hn]
/-! ### what is narrowed can be put back -/
theorem putR_cutR {r : List Int} {x : Int} (h1 : 0 ≤ x) (h2 : x < r.length) : putR (cutR r x) x (getI r x) = r := by
  obtain ⟨k, rfl⟩ := Int.eq_ofNat_of_zero_le h1
  have hk : k < r.length := by omega
  unfold putR cutR
  rw [getI_nat, List.getD_eq_getElem?_getD, List.getElem?_eq_getElem hk]
  have e1 : ((k : Int)).toNat = k := by omega
  have e2 : ((k : Int) + 1).toNat = k + 1 := by omega
  rw [e1, e2, List.take_append_of_le_length (by rw [List.length_take]; omega), List.take_take, Nat.min_self, List.drop_append_of_le_length (by rw [List.length_take]; omega)]
  have : (r.take k).drop k = [] := by rw [List.drop_eq_nil_iff, List.length_take]; omega
  rw [this, List.nil_append]
  show r.take k ++ [r[k]] ++ r.drop (k + 1) = r
  rw [List.append_assoc]
  show r.take k ++ (r[k] :: r.drop (k + 1)) = r
  rw [← List.drop_eq_getElem_cons hk, List.take_append_drop]
theorem put_cut : ∀ {p : List (List Int)} {s : List Int} {w : Nat}, p.length = s.length → (∀ r ∈ p, r.length = w) → (∀ x ∈ s, 0 ≤ x ∧ x < (w : Int)) → putV (cutV p s) s (cellsV p s) = p
  | [], [], _, _, _, _ => rfl
  | r :: p, x :: s, w, hl, hw, hx => by
    have ih := put_cut (p := p) (s := s) (by simpa using hl) (fun r hr => hw r (List.mem_cons_of_mem _ hr)) fun z hz => hx z (List.mem_cons_of_mem _ hz)
    have hr := hw r List.mem_cons_self
    have hxx := hx x List.mem_cons_self
    show putR (cutR r x) x (getI r x) :: putV (cutV p s) s (cellsV p s) = r :: p
    rw [ih, putR_cutR hxx.1 (by omega)]
theorem cells_ok {w h : Nat} {p : List (List Int)} {s : List Int} (g : Good w h p) (q : Way w h s) : (cellsV p s).length = h ∧ ∀ c ∈ cellsV p s, 0 ≤ c ∧ c ≤ 99 := by
  have hh := g.hh
  have hl := q.len
  refine ⟨by unfold cellsV; rw [List.length_map, List.length_zip]; omega, fun c hc => ?_⟩
  obtain ⟨⟨r, x⟩, hm, rfl⟩ := List.mem_map.mp hc
  have hx := q.rng x (List.of_mem_zip hm).2
  have hr := (List.of_mem_zip hm).1
  have hw := g.ww r hr
  exact g.cl r hr _ (getI_mem (by omega) (by omega))
theorem steps_back {h : Nat} {mn : Bool} : ∀ (n w : Nat) (p t : List (List Int)) (r : List Step × List (List Int)), Good w h p → n < w → stepsTo h mn n w p t = some r → Good (w - n) h r.2 ∧ r.1.length = n ∧ rebV r.2 r.1 = p ∧ ∀ (l : List Step), HistOk h w l → HistOk h (w - n) (r.1.reverse ++ l)
  | 0, w, p, t, r, g, hn, e => by
    cases e
    exact ⟨g, rfl, rfl, fun l k => by simpa using k⟩
  | n + 1, w, p, t, r, g, hn, e => by
    unfold stepsTo at e
    cases z : bwV w h [p] mn t with
    | none => rw [z] at e; cases e
    | some s =>
      rw [z] at e
      dsimp only at e
      obtain ⟨q, _, _⟩ := bw_way g.h1 z
      have gc := cut_good g q (by omega)
      cases z2 : stepsTo h mn n (w - 1) (cutV p s) (cutV t s) with
      | none => rw [z2] at e; cases e
      | some r2 =>
        rw [z2] at e
        cases e
        obtain ⟨i1, i2, i3, i4⟩ := steps_back n (w - 1) (cutV p s) (cutV t s) r2 gc (by omega) z2
        obtain ⟨c1, c2⟩ := cells_ok g q
        have ew : w - 1 - n = w - (n + 1) := by omega
        rw [ew] at i1 i4
        refine ⟨i1, by simp [i2], ?_, fun l k => ?_⟩
        · show rebV r2.2 ((s, cellsV p s) :: r2.1) = p
          unfold rebV at i3 ⊢
          rw [List.reverse_cons, List.foldl_append, i3]
          exact put_cut (by rw [g.hh, q.len]) g.ww q.rng
        · show HistOk h (w - (n + 1)) (((s, cellsV p s) :: r2.1).reverse ++ l)
          rw [List.reverse_cons, List.append_assoc]
          refine i4 _ ?_
          show (Way (w - 1 + 1) h s ∧ _) ∧ HistOk h (w - 1 + 1) l
          rw [show w - 1 + 1 = w by omega]
          exact ⟨⟨q, c1, c2⟩, k⟩
theorem free_steps {h : Nat} {mn : Bool} : ∀ (n w : Nat) (p : List (List Int)), Good w h p → n < w → ∃ r, stepsTo h mn n w p (freeV p) = some r
  | 0, w, p, g, hn => ⟨_, rfl⟩
  | n + 1, w, p, g, hn => by
    obtain ⟨s, es⟩ := free_some (mn := mn) g
    obtain ⟨q, _, _⟩ := bw_way g.h1 es
    have ef : cutV (freeV p) s = freeV (cutV p s) := by
      unfold cutV freeV
      rw [List.zip_map_left, List.map_map, List.map_map]
      apply List.map_congr_left
      rintro ⟨r, x⟩ _
      show cutR (r.map fun _ => 0) x = (cutR r x).map fun _ => 0
      unfold cutR
      rw [List.map_append, List.map_take, List.map_drop]
    obtain ⟨r, er⟩ := free_steps n (w - 1) (cutV p s) (cut_good g q (by omega)) (by omega)
    refine ⟨((s, cellsV p s) :: r.1, r.2), ?_⟩
    unfold stepsTo
    rw [es]
    show (stepsTo h mn n (w - 1) (cutV p s) (cutV (freeV p) s)).map _ = _
    rw [ef, er]; rfl
abbrev Sp_law_no_k30 (m : List D → Rs D) : Prop := ∀ (k : Int) (w h : Nat) p d, Good w h p → d.canLay0 = true → isNum d 1 w = false → m [.int k, pic p, d] = .ok (.bool true)
theorem ok_law_no_k30 {T : Tb} {fN sN fH sH fL sL cS cD cW : Nat} (hN : Sx_narrowed cW (T.fn fN)) (h1 : ∀ a b, T.arr sN [a, b] [] = [a, b, man true, .none]) (hH : Sx_history cW (T.fn fH)) (h2 : ∀ a b, T.arr sH [a, b] [] = [a, b, man true, .none]) (hL : Sx_loss cW (T.fn fL)) (h3 : ∀ a b, T.arr sL [a, b] [] = [a, b, man true])
    (l1 : cW < T.cls.length) (l2 : cS < T.cls.length) (l3 : cD < T.cls.length) (i1 : T.isa cW cS = true) (i2 : T.isa cW cW = true) (i3 : T.isa cW cD = false) : Sp_law_no_k30 (runD T 3 4 (B_law_no_k30 fN sN fH sH fL sL cS cD cW)) := by
  intro k w h p d g hd hn
  have e1 : T.fn fN [pic p, d, man true, .none] = .ex (cW, none) := hN w h p d true none g trivial hd hn
  have e2 : T.fn fH [pic p, d, man true, .none] = .ex (cW, none) := hH w h p d true none g trivial hd hn
  have e3 : T.fn fL [pic p, d, man true] = .ex (cW, none) := hL w h p d true g hd hn
  by_cases k0 : k = 0
  · simp [runD, B_law_no_k30, k0, h1, e1, l1, l2, l3, i1, i2, i3]
  · by_cases k1 : k = 1
    · simp [runD, B_law_no_k30, k1, h2, e2, l1, l2, l3, i1, i2, i3]
    · simp [runD, B_law_no_k30, k0, k1, h3, e3, l1, l2, l3, i1, i2, i3]
theorem odd_width {w : Nat} (w1 : w ≤ 20) {v : Int} (h1 : 0 ≤ v) (h2 : v < 6) : ∃ d, idxD (.list [.int 0, .int ((w : Int) + 1), .none, .bool true, .str (Str.ofString "1"), .int (-1)]) (.int v) = .ok d ∧ d.canLay0 = true ∧ isNum d 1 w = false := by
  have : v = 0 ∨ v = 1 ∨ v = 2 ∨ v = 3 ∨ v = 4 ∨ v = 5 := by omega
  rcases this with rfl | rfl | rfl | rfl | rfl | rfl
  · exact ⟨_, rfl, rfl, by simp [isNum]⟩
  · exact ⟨_, rfl, rfl, by simp [isNum]; omega⟩
  · exact ⟨_, rfl, rfl, by simp [isNum]⟩
  · exact ⟨_, rfl, rfl, by simp [isNum]⟩
  · exact ⟨_, rfl, by decide +kernel, by simp [isNum]⟩
  · exact ⟨_, rfl, rfl, by simp [isNum]⟩
theorem costs_law {h : Nat} {mn : Bool} : ∀ (n w : Nat) (p : List (List Int)), Good w h p → n < w → (costsTo h mn n w p).length = n
  | 0, _, _, _, _ => rfl
  | n + 1, w, p, g, hn => by
    obtain ⟨s, es⟩ := free_some (mn := mn) g
    obtain ⟨q, _, _⟩ := bw_way g.h1 es
    unfold costsTo
    rw [es]
    show (costV mn p s :: costsTo h mn n (w - 1) (cutV p s)).length = _
    rw [List.length_cons, costs_law n (w - 1) (cutV p s) (cut_good g q (by omega)) (by omega)]
theorem ok_law_k30 {T : Tb} {fN sN2 fNo fD fL sLm fC fCut fB fF fR fH sH2 fS sNmm sHmm fK fMn fSo : Nat} (hN : Sp_narrowed (T.fn fN)) (a1 : ∀ a b, T.arr sN2 [a, b] [] = [a, b, man true, .none]) (hNo : Sp_law_no_k30 (T.fn fNo)) (hD : Sp_law_drawn (T.fn fD)) (hL : Sp_loss (T.fn fL)) (a2 : ∀ a b c, T.arr sLm [a, b] [c] = [a, b, c])
    (hC : Sp_law_cost (T.fn fC)) (hCut : Sp_law_cut (T.fn fCut)) (hB : Sp_law_best (T.fn fB)) (hF : Sp_law_free (T.fn fF)) (hR : Sp_rebuilt (T.fn fR)) (hH : Sp_history (T.fn fH)) (a3 : ∀ a b, T.arr sH2 [a, b] [] = [a, b, man true, .none]) (hS : Sp_law_steps (T.fn fS)) (a4 : ∀ a b c d, T.arr sNmm [a, b] [c, d] = [a, b, c, d]) (a5 : ∀ a b c d, T.arr sHmm [a, b] [c, d] = [a, b, c, d])
    (hK : Sp_law_marks (T.fn fK)) (hMn : Sp_law_manner (T.fn fMn)) (hSo : Sp_law_some (T.fn fSo)) : ∀ ns : List Int, ns.length ≤ 63 → runD T 1 14 (B_law_k30 fN sN2 fNo fD fL sLm fC fCut fB fF fR fH sH2 fS sNmm sHmm fK fMn fSo) [.list (ns.map PyData.int)] = .ok (.bool true) := by
  intro ns hs
  obtain ⟨w, h, p, hw, hh, g, e⟩ := hSo ns 0 4 3 hs (by omega) (by omega) (by omega) (by omega) (by omega) (by omega)
  obtain ⟨t, qt, et⟩ := hK ns 30 w h p hs (by omega) (by omega) g.w2 g.h2 g.toRect
  obtain ⟨mn, em⟩ := hMn ns 60 hs (by omega) (by omega)
  have e : T.fn fSo [li .int ns, .int 0, .int 4, .int 3] = .ok (pic p) := e
  have w2 := g.w2
  have h20 := g.h2
  have k1 := g.h1
  have k2 := g.w1
  have h0 := g.row0
  have ph := g.hh
  obtain ⟨v, v1, v2, ev⟩ := hD ns 61 w hs (by omega) (by omega) (by omega)
  obtain ⟨k, rfl⟩ : ∃ k : Nat, v = ((k : Nat) : Int) := ⟨v.toNat, by omega⟩
  have gm := free_marks g.toRect
  have ef := hF w h p g.toRect (by omega) (by omega)
  have s1 := hS w h p (k + 1) mn t g qt (by omega) (by omega) (by omega)
  have s2 := hS w h p (k + 1) true (freeV p) g gm (by omega) (by omega) (by omega)
  have n1 : T.fn fN [pic p, .int ((k + 1 : Nat) : Int), man mn, pic t] = .ok (opic (nrwV w h (k + 1) mn p t)) := hN w h p (k + 1) mn (some t) g qt (by omega) (by omega)
  have n2 : T.fn fN [pic p, .int ((k + 1 : Nat) : Int), man true, .none] = .ok (opic (nrwV w h (k + 1) true p (freeV p))) := hN w h p (k + 1) true none g trivial (by omega) (by omega)
  have n3 : T.fn fN [pic p, .int (w : Int), man true, .none] = .ok (opic (nrwV w h w true p (freeV p))) := hN w h p w true none g trivial (by omega) (by omega)
  have r1 : T.fn fH [pic p, .int ((k + 1 : Nat) : Int), man mn, pic t] = .ok (ohis (hisV w h (k + 1) mn p t)) := hH w h p (k + 1) mn (some t) g qt (by omega) (by omega)
  have r2 : T.fn fH [pic p, .int ((k + 1 : Nat) : Int), man true, .none] = .ok (ohis (hisV w h (k + 1) true p (freeV p))) := hH w h p (k + 1) true none g trivial (by omega) (by omega)
  have o1 := hL w h p (k + 1) mn g (by omega) (by omega)
  have ek : (1 : Int) + (k : Int) = ((k + 1 : Nat) : Int) := by omega
  obtain ⟨b, eb⟩ := free_steps (h := h) (mn := true) (w - (k + 1)) w p g (by omega)
  obtain ⟨bg, bl, breb, bh⟩ := steps_back _ w p _ b g (by omega) eb
  have ewk : w - (w - (k + 1)) = k + 1 := by omega
  rw [ewk] at bg bh
  have hok : HistOk h (k + 1) b.1.reverse := by
    have := bh [] (show w ≤ 20 from w2)
    rwa [List.append_nil] at this
  have reb := hR (k + 1) h b.2 b.1 bg hok
  rw [breb] at reb
  have n2' : nrwV w h (k + 1) true p (freeV p) = some b.2 := by unfold nrwV; rw [eb]; rfl
  have r2' : hisV w h (k + 1) true p (freeV p) = some b.1 := by unfold hisV; rw [eb]; rfl
  have n3' : nrwV w h w true p (freeV p) = some p := by unfold nrwV; rw [Nat.sub_self]; rfl
  rw [n2'] at n2
  rw [r2'] at r2
  rw [n3'] at n3
  rw [eb] at s2
  have n2 : T.fn fN [pic p, .int ((k + 1 : Nat) : Int), man true, .none] = .ok (pic b.2) := n2
  have r2 : T.fn fH [pic p, .int ((k + 1 : Nat) : Int), man true, .none] = .ok (li stp b.1) := r2
  have n3 : T.fn fN [pic p, .int (w : Int), man true, .none] = .ok (pic p) := n3
  have s2 : T.fn fS [pic p, .int ((k + 1 : Nat) : Int), man true, pic (freeV p)] = .ok (.tuple [li stp b.1, pic b.2]) := s2
  have d1 : cmpB .NotEq (li stp b.1) (li stp b.1) = .ok false := by
    have := ne_enc enc_stp.li (by decide) b.1 b.1
    rwa [decide_eq_true rfl] at this
  obtain ⟨v6, u1, u2, eu⟩ := hD ns 62 6 hs (by omega) (by omega) (by omega)
  obtain ⟨d, ed, dl, dn⟩ := odd_width (w := w) w2 u1 u2
  have no : ∀ i : Int, T.fn fNo [.int i, pic p, d] = .ok (.bool true) := fun i => hNo i w h p d g dl dn
  have key : ∀ (n fuel w : Nat) (q : List (List Int)) (c : Int) (z z5 z6 z7 z8 : Sl), Good w h q → w = k + 1 + n → n < fuel → ∃ z' : Sl × Sl, whlD (tstE T (.cmp .Gt (.bcl .len (.cons (.idx (.var 9) (.cst (.int 0))) .nil)) (.var 4))) ((Ss.cons (.asg (.nm 11) (.fcl fB (.cons (.var 9) (.cons (.var 3) (.cons (.fcl fF (.cons (.var 9) .nil)) .nil)))) []) (.cons (.par 10 9 (.v (.bin .Add (.var 10) (.fcl fC (.cons (.var 9) (.cons (.var 3) (.cons (.var 11) .nil)))))) (.v (.fcl fCut (.cons (.var 9) (.cons (.var 11) .nil)))) []) .nil)).ex T) fuel
      [.fz (li .int ns), .fz (pic p), .fz (pic t), .fz (man mn), .fz (.int ((k + 1 : Nat) : Int)), z5, z6, z7, z8, .fz (pic q), .fz (.int c), z, .un, .un] = .ok (.nx [.fz (li .int ns), .fz (pic p), .fz (pic t), .fz (man mn), .fz (.int ((k + 1 : Nat) : Int)), z5, z6, z7, z8, z'.1, .fz (.int (c + (costsTo h mn n w q).sum)), z'.2, .un, .un]) := by
    intro n
    induction n with
    | zero =>
      intro fuel w q c z z5 z6 z7 z8 g e1 e2
      obtain ⟨fuel, rfl⟩ : ∃ m, fuel = m + 1 := ⟨fuel - 1, by omega⟩
      have h0 := g.row0
      have hh := g.hh
      have a1 := g.h1
      refine ⟨(.fz (pic q), z), ?_⟩
      unfold whlD
      have nl : ¬ (((k + 1 : Nat) : Int) < (w : Int)) := by omega
      simp (disch := omega) [-Int.natCast_add, idx_tu, h0, nl, costsTo]
    | succ n ih =>
      intro fuel w q c z z5 z6 z7 z8 g e1 e2
      obtain ⟨fuel, rfl⟩ : ∃ m, fuel = m + 1 := ⟨fuel - 1, by omega⟩
      have h0 := g.row0
      have hh := g.hh
      have a1 := g.h1
      have a2 := g.h2
      have a3 := g.w2
      have lt : (((k + 1 : Nat) : Int) < (w : Int)) := by omega
      obtain ⟨s, es⟩ := free_some (mn := mn) g
      obtain ⟨qs, _, _⟩ := bw_way a1 es
      have ef := hF w h q g.toRect (by omega) (by omega)
      have eb : T.fn fB [pic q, man mn, pic (freeV q)] = .ok (orow (bwV w h [q] mn (freeV q))) := hB w h q _ mn g (by omega) (free_marks g.toRect).toRect
      rw [es] at eb
      have eb : T.fn fB [pic q, man mn, pic (freeV q)] = .ok (row s) := eb
      have c1 := hCut w h q s g.toRect (by omega) (by omega) qs
      have c2 := hC w h q s mn g qs
      obtain ⟨z', ez⟩ := ih fuel (w - 1) (cutV q s) (c + costV mn q s) (.fz (row s)) z5 z6 z7 z8 (cut_good g qs (by omega)) (by omega) (by omega)
      refine ⟨z', ?_⟩
      unfold whlD costsTo
      rw [es]
      simp (disch := omega) [-Int.natCast_add, idx_tu, h0, lt, ef, eb, c2, c1]
      rw [ez]
      simp [Int.add_assoc]
  show runD T 1 14 _ [li .int ns] = _
  have nn : cmpB .NotEq (.tuple [.none, .none]) (.tuple [.none, .none]) = .ok false := by rfl
  have i3 : itD .rng [.int 3] = .ok ((upI 0 3).map PyData.int) := it_rng1 (by decide) (by decide)
  cases z : stepsTo h mn (w - (k + 1)) w p t with
  | none =>
    rw [z] at s1
    have s1 : T.fn fS [pic p, .int ((k + 1 : Nat) : Int), man mn, pic t] = .ok .none := s1
    have n1 : T.fn fN [pic p, .int ((k + 1 : Nat) : Int), man mn, pic t] = .ok .none := by rw [n1]; unfold nrwV; rw [z]; rfl
    have r1 : T.fn fH [pic p, .int ((k + 1 : Nat) : Int), man mn, pic t] = .ok .none := by rw [r1]; unfold hisV; rw [z]; rfl
    simp (disch := omega) [-Int.natCast_add, runD, B_law_k30, e, et, em, idx_tu, h0, ph, ev, ek, s1, a4, a5, n1, r1, nn, man_worth, ef, s2, a3, r2, d1, a1, n2, reb]
    obtain ⟨z', ez⟩ := key (w - (k + 1)) 10000 w p 0 .un (.fz .none) (.fz (.tuple [.none, .none])) (.fz (li stp b.1)) (.fz (pic b.2)) g (by omega) (by omega)
    rw [ez]
    simp (disch := omega) [-Int.natCast_add, a2, o1, idx_tu, h0, ph, eu, ed, i3]
    rw [cmpr_none (by simp) (fun d hd => by obtain ⟨i, _, rfl⟩ := List.mem_map.mp hd; simp [no])]
    simp (disch := omega) [-Int.natCast_add, a1, n3, idx_tu, h0, ph]
  | some r =>
    rw [z] at s1
    have s1 : T.fn fS [pic p, .int ((k + 1 : Nat) : Int), man mn, pic t] = .ok (.tuple [li stp r.1, pic r.2]) := s1
    have n1 : T.fn fN [pic p, .int ((k + 1 : Nat) : Int), man mn, pic t] = .ok (pic r.2) := by rw [n1]; unfold nrwV; rw [z]; rfl
    have r1 : T.fn fH [pic p, .int ((k + 1 : Nat) : Int), man mn, pic t] = .ok (li stp r.1) := by rw [r1]; unfold hisV; rw [z]; rfl
    have nn : cmpB .NotEq (.tuple [li stp r.1, pic r.2]) (.tuple [li stp r.1, pic r.2]) = .ok false := by
      have := ne_enc (enc_stp.li.pr (enc_pic.mono (by decide : 3 ≤ 4))) (by decide) r r
      rwa [decide_eq_true rfl] at this
    simp (disch := omega) [-Int.natCast_add, runD, B_law_k30, e, et, em, idx_tu, h0, ph, ev, ek, s1, a4, a5, n1, r1, nn, man_worth, ef, s2, a3, r2, d1, a1, n2, reb]
    obtain ⟨z', ez⟩ := key (w - (k + 1)) 10000 w p 0 .un (.fz (.tuple [li stp r.1, pic r.2])) (.fz (.tuple [li stp r.1, pic r.2])) (.fz (li stp b.1)) (.fz (pic b.2)) g (by omega) (by omega)
    rw [ez]
    simp (disch := omega) [-Int.natCast_add, a2, o1, idx_tu, h0, ph, eu, ed, i3]
    rw [cmpr_none (by simp) (fun d hd => by obtain ⟨i, _, rfl⟩ := List.mem_map.mp hd; simp [no])]
    simp (disch := omega) [-Int.natCast_add, a1, n3, idx_tu, h0, ph]
end Rf
set_option Elab.async false
set_option linter.all false
set_option autoImplicit false
set_option maxHeartbeats 2000000
set_option maxRecDepth 100000
namespace Rf
open PySem L2
/-! ### while, with what is left to do -/
theorem whl_rule {β γ : Type} {c : Env → Rs Bool} {b : Env → Rs Fl} {k : Fl → Rs γ} {z : Rs γ} (μ : β → Nat) (R : β → Env → Prop) (H : ∀ s ρ, R s ρ → (c ρ = .ok false ∧ k (.nx ρ) = z) ∨ (c ρ = .ok true ∧ ((∃ s' ρ', b ρ = .ok (.nx ρ') ∧ R s' ρ' ∧ μ s' < μ s) ∨ (∃ d, b ρ = .ok (.rt d) ∧ k (.rt d) = z)))) :
    ∀ (fuel : Nat) (s : β) (ρ : Env), R s ρ → μ s < fuel → (whlD c b fuel ρ).bind k = z
  | 0, s, ρ, _, h => absurd h (by omega)
  | n + 1, s, ρ, r, h => by
    rcases H s ρ r with ⟨e1, e2⟩ | ⟨e1, ⟨s', ρ', e2, r', m⟩ | ⟨d, e2, e3⟩⟩
    · unfold whlD
      rw [e1]
      exact e2
    · rw [whlD, e1, Rs.bind_ok, if_pos rfl, e2]
      exact whl_rule μ R H n s' ρ' r' (by omega)
    · rw [whlD, e1, Rs.bind_ok, if_pos rfl, e2]
      exact e3
/-- the same, ahead of what is hidden -/
theorem whl_bk {β γ : Type} {c : Env → Rs Bool} {b : Env → Rs Fl} {k : Kt Fl γ} {z : Rs γ} (μ : β → Nat) (R : β → Env → Prop) {fuel : Nat} (s : β) {ρ : Env} (r : R s ρ) (hf : μ s < fuel) (H : ∀ s ρ, R s ρ → (c ρ = .ok false ∧ k.go (.nx ρ) = z) ∨ (c ρ = .ok true ∧ ((∃ s' ρ', b ρ = .ok (.nx ρ') ∧ R s' ρ' ∧ μ s' < μ s) ∨ (∃ d, b ρ = .ok (.rt d) ∧ k.go (.rt d) = z)))) :
    (whlD c b fuel ρ).bk (k := k) = z := whl_rule (k := k.go) μ R H fuel s ρ r hf
/-! ### in -/
theorem in_enc {α : Type} [DecidableEq α] {n : Nat} {f : α → D} (h : Enc n f) (hn : n + 1 ≤ 64) (a : α) (l : List α) : cmpB .In (f a) (li f l) = .ok (decide (a ∈ l)) := by
  show grd (SeqAt.shaped (f a) && SeqAt.shaped (li f l)) (.ok ((l.map f).any fun z => PyData.eqv z (f a))) = _
  rw [shaped_enc h (by omega), shaped_enc h.li hn]
  show Rs.ok _ = _
  congr 1
  rw [List.any_map, Bool.eq_iff_iff, List.any_eq_true, decide_eq_true_eq]
  constructor
  · rintro ⟨b, hb, e⟩
    rw [← (h.eqv b a).mp e]; exact hb
  · intro hm
    exact ⟨a, hm, (h.eqv a a).mpr rfl⟩
theorem in_encT {α : Type} [DecidableEq α] {n : Nat} {f : α → D} (h : Enc n f) (hn : n + 1 ≤ 64) (a : α) (l : List α) : cmpB .In (f a) (tu f l) = .ok (decide (a ∈ l)) := by
  show grd (SeqAt.shaped (f a) && SeqAt.shaped (tu f l)) (.ok ((l.map f).any fun z => PyData.eqv z (f a))) = _
  rw [shaped_enc h (by omega), shaped_enc h.tu hn]
  show Rs.ok _ = _
  congr 1
  rw [List.any_map, Bool.eq_iff_iff, List.any_eq_true, decide_eq_true_eq]
  constructor
  · rintro ⟨b, hb, e⟩
    rw [← (h.eqv b a).mp e]; exact hb
  · intro hm
    exact ⟨a, hm, (h.eqv a a).mpr rfl⟩
theorem notin_enc {α : Type} [DecidableEq α] {n : Nat} {f : α → D} (h : Enc n f) (hn : n + 1 ≤ 64) (a : α) (l : List α) : cmpB .NotIn (f a) (li f l) = .ok (!decide (a ∈ l)) := by
  show (cmpB .In (f a) (li f l)).map not = _
  rw [in_enc h hn]; rfl
@[simp] theorem in_row (i : Int) (r : List Int) : cmpB .In (.int i) (row r) = .ok (decide (i ∈ r)) := in_encT enc_int (by decide) i r
@[simp] theorem in_rows (s : List Int) (r : List (List Int)) : cmpB .In (row s) (li row r) = .ok (decide (s ∈ r)) := (in_enc enc_row (by decide) s r).trans (by congr)
theorem ne_nilE {α : Type} [DecidableEq α] {n : Nat} {f : α → D} (h : Enc n f) (hn : n + 1 ≤ 64) (l : List α) : cmpB .NotEq (li f l) (.list []) = .ok (!decide (l = [])) := ne_enc h.li hn l []
theorem eq_nilE {α : Type} [DecidableEq α] {n : Nat} {f : α → D} (h : Enc n f) (hn : n + 1 ≤ 64) (l : List α) : cmpB .Eq (li f l) (.list []) = .ok (decide (l = [])) := eq_enc h.li hn l []
@[simp] theorem ne_nilR (l : List (List Int)) : cmpB .NotEq (li row l) (.list []) = .ok (!decide (l = [])) := ne_nilE enc_row (by decide) l
@[simp] theorem eq_nilR (l : List (List Int)) : cmpB .Eq (li row l) (.list []) = .ok (decide (l = [])) := eq_nilE enc_row (by decide) l
/-! ### cells to be gone -/
def goneRows (t : List (List Int)) : List (List Int) := t.filter fun r => decide (2 ∈ r)
abbrev rows : List (List Int) → D := li row
abbrev orows : Option (List (List Int)) → D := op rows
theorem enc_orows : Enc 3 orows := enc_row.li.op (fun a => ⟨rfl, rfl⟩) (by omega)
@[simp] theorem eq_orows (i j : Option (List (List Int))) : cmpB .Eq (orows i) (orows j) = .ok (decide (i = j)) := eq_enc enc_orows (by decide) i j
@[simp] theorem ne_orows (i j : Option (List (List Int))) : cmpB .NotEq (orows i) (orows j) = .ok (!decide (i = j)) := ne_enc enc_orows (by decide) i j
/-- n + 1 columns are left -/
def clearV (h : Nat) (mn : Bool) : Nat → List (List Int) → List (List Int) → Option (List (List Int))
  | 0, _, t => if goneRows t = [] then some [] else none
  | n + 1, p, t => if goneRows t = [] then some [] else match bwV (n + 2) h [p] mn t with
    | none => none
    | some s => (clearV h mn n (cutV p s) (cutV t s)).map (s :: ·)
theorem gone_cmpr {T : Tb} {t : List (List Int)} {F : D → Rs (Option D)} (hl : t.length < 1000000) (H : ∀ r ∈ t, F (row r) = .ok (if decide (2 ∈ r) = true then some (row r) else none)) : cmpR F (t.map row) = .ok (rows (goneRows t)) := by
  have := cmpr_fl (its := t.map row) (F := F) row (fun r : List Int => r) (fun r => decide ((2 : Int) ∈ r)) (l := t) rfl hl H
  rw [this]
  unfold goneRows
  simp
abbrev Sp_cleared (m : List D → Rs D) : Prop := ∀ (w h : Nat) p mn o, Good w h p → MkOk w h o → m [pic p, mkD o, man mn] = .ok (orows (clearV h mn (w - 1) p (mkV p o)))
theorem ok_cleared {T : Tb} {gG fW fB fN : Nat} (hG : T.gl gG = .ok (.int 2)) (hW : Sp_without (T.fn fW)) (hB : Sp_best_way (T.fn fB)) (hN : Sp_need_all (T.fn fN)) : Sp_cleared (runD T 3 6 (B_cleared gG fW fB fN)) := by
  intro w h p mn o g q
  have w1 := g.w1
  have w2 := g.w2
  have h2 := g.h2
  have h1 := g.h1
  have qm := mkV_marks g.toRect q
  simp [runD, B_cleared, hN w h p mn o g q]
  refine whl_bk (β := Nat) (fun n => n) (fun n ρ => ∃ p1 t1 acc z, ρ = [.fz (pic p1), .fz (pic t1), .fz (man mn), .ow (acc.map row), z, .un] ∧ Good (n + 1) h p1 ∧ Marks (n + 1) h t1 ∧ (clearV h mn n p1 t1).map (acc ++ ·) = clearV h mn (w - 1) p (mkV p o) ∧ acc.length + n < 1000) (w - 1) ⟨p, mkV p o, [], .un, rfl, by rwa [show w - 1 + 1 = w by omega], by rwa [show w - 1 + 1 = w by omega], by simp, by simp; omega⟩ (by omega) ?_
  rintro n _ ⟨p1, t1, acc, z, rfl, g1, q1, ec, hl⟩
  have h0 := g1.row0
  have ph := g1.hh
  have th := q1.hh
  have b2 := g1.w2
  have cond : ∀ z : Sl, tstE T (.cmp .NotEq (.cmpr (.var 5) (.nm 5) .seq (.cons (.var 1) .nil) (.cons (.cmp .In (.glb gG) (.var 5)) .nil) [5]) (.lst .nil)) [.fz (pic p1), .fz (pic t1), .fz (man mn), .ow (acc.map row), z, .un] = .ok (!decide (goneRows t1 = [])) := by
    intro z
    simp
    rw [gone_cmpr (T := T) (by omega) (fun r hr => by by_cases c : (2 : Int) ∈ r <;> simp [hG, c])]
    simp
  by_cases c : goneRows t1 = []
  · refine .inl ⟨by rw [cond z]; simp [c], ?_⟩
    have : clearV h mn n p1 t1 = some [] := by cases n <;> simp [clearV, c]
    rw [this] at ec
    simp [← ec, op]
    rfl
  · refine .inr ⟨by rw [cond z]; simp [c], ?_⟩
    have eb : T.fn fB [.list [pic p1], man mn, pic t1] = .ok (orow (bwV (n + 1) h [p1] mn t1)) := hB (n + 1) h [p1] mn t1 g1.pics q1.toRect
    cases z2 : bwV (n + 1) h [p1] mn t1 with
    | none =>
      rw [z2] at eb
      have en : clearV h mn n p1 t1 = none := by cases n <;> simp [clearV, c, z2]
      rw [en] at ec
      exact .inr ⟨.none, by simp [eb, op], by simp [← ec, op]⟩
    | some s =>
      rw [z2] at eb
      have eb : T.fn fB [.list [pic p1], man mn, pic t1] = .ok (row s) := eb
      obtain ⟨qs, _, _⟩ := bw_way h1 z2
      cases n with
      | zero =>
        have en : clearV h mn 0 p1 t1 = none := by simp [clearV, c]
        rw [en] at ec
        exact .inr ⟨.none, by simp (disch := omega) [eb, idx_tu, h0, ph], by simp [← ec, op]⟩
      | succ n =>
        have c1 := hW (n + 2) h p1 s g1.toRect (by omega) (by omega) qs
        have c2 := hW (n + 2) h t1 s q1.toRect (by omega) (by omega) qs
        have ne : ¬ (((n + 1 + 1 : Nat) : Int) = 1) := by omega
        have ea : acc.map row ++ [row s] = (acc ++ [s]).map row := by rw [List.map_append]; rfl
        refine .inl ⟨n, _, ?_, ⟨cutV p1 s, cutV t1 s, acc ++ [s], .fz (row s), rfl, cut_good g1 qs (by omega), cut_marks q1 qs, ?_, by simp; omega⟩, Nat.lt_succ_self n⟩
        · simp (disch := omega) [-Int.natCast_add, eb, idx_tu, h0, ph, ne, grdFew, c1, c2, ea, -List.map_append]
        · rw [← ec]
          have : clearV h mn (n + 1) p1 t1 = (clearV h mn n (cutV p1 s) (cutV t1 s)).map (s :: ·) := by
            show (if goneRows t1 = [] then _ else _) = _
            rw [if_neg c, z2]
          rw [this]
          cases clearV h mn n (cutV p1 s) (cutV t1 s) <;> simp
abbrev Sp_law_due_k34 (m : List D → Rs D) : Prop := ∀ (w h : Nat) p t mn, Good w h p → Marks w h t → h ≤ 8 → m [pic p, pic t, man mn] = .ok (orows (clearV h mn (w - 1) p t))
theorem ok_law_due_k34 {T : Tb} {fW fB : Nat} (hW : Sp_law_cut (T.fn fW)) (hB : Sp_law_best (T.fn fB)) : Sp_law_due_k34 (runD T 3 6 (B_law_due_k34 fW fB)) := by
  intro w h p t mn g q h8
  have w1 := g.w1
  have w2 := g.w2
  have h2 := g.h2
  have h1 := g.h1
  simp [runD, B_law_due_k34]
  refine whl_bk (β := Nat) (fun n => n) (fun n ρ => ∃ p1 t1 acc z, ρ = [.fz (pic p1), .fz (pic t1), .fz (man mn), .ow (acc.map row), z, .un] ∧ Good (n + 1) h p1 ∧ Marks (n + 1) h t1 ∧ (clearV h mn n p1 t1).map (acc ++ ·) = clearV h mn (w - 1) p t ∧ acc.length + n < 1000) (w - 1) ⟨p, t, [], .un, rfl, by rwa [show w - 1 + 1 = w by omega], by rwa [show w - 1 + 1 = w by omega], by simp, by simp; omega⟩ (by omega) ?_
  rintro n _ ⟨p1, t1, acc, z, rfl, g1, q1, ec, hl⟩
  have h0 := g1.row0
  have ph := g1.hh
  have th := q1.hh
  have b2 := g1.w2
  have cond : ∀ z : Sl, tstE T (.cmp .NotEq (.cmpr (.var 5) (.nm 5) .seq (.cons (.var 1) .nil) (.cons (.cmp .In (.cst (.int 2)) (.var 5)) .nil) [5]) (.lst .nil)) [.fz (pic p1), .fz (pic t1), .fz (man mn), .ow (acc.map row), z, .un] = .ok (!decide (goneRows t1 = [])) := by
    intro z
    simp
    rw [gone_cmpr (T := T) (by omega) (fun r hr => by by_cases c : (2 : Int) ∈ r <;> simp [c])]
    simp
  by_cases c : goneRows t1 = []
  · refine .inl ⟨by rw [cond z]; simp [c], ?_⟩
    have : clearV h mn n p1 t1 = some [] := by cases n <;> simp [clearV, c]
    rw [this] at ec
    simp [← ec, op]
    rfl
  · refine .inr ⟨by rw [cond z]; simp [c], ?_⟩
    have eb : T.fn fB [pic p1, man mn, pic t1] = .ok (orow (bwV (n + 1) h [p1] mn t1)) := hB (n + 1) h p1 t1 mn g1 h8 q1.toRect
    cases z2 : bwV (n + 1) h [p1] mn t1 with
    | none =>
      rw [z2] at eb
      have en : clearV h mn n p1 t1 = none := by cases n <;> simp [clearV, c, z2]
      rw [en] at ec
      exact .inr ⟨.none, by simp [eb, op], by simp [← ec, op]⟩
    | some s =>
      rw [z2] at eb
      have eb : T.fn fB [pic p1, man mn, pic t1] = .ok (row s) := eb
      obtain ⟨qs, _, _⟩ := bw_way h1 z2
      cases n with
      | zero =>
        have en : clearV h mn 0 p1 t1 = none := by simp [clearV, c]
        rw [en] at ec
        exact .inr ⟨.none, by simp (disch := omega) [eb, idx_tu, h0, ph], by simp [← ec, op]⟩
      | succ n =>
        have c1 := hW (n + 2) h p1 s g1.toRect (by omega) (by omega) qs
        have c2 := hW (n + 2) h t1 s q1.toRect (by omega) (by omega) qs
        have ne : ¬ (((n + 1 + 1 : Nat) : Int) = 1) := by omega
        have ea : acc.map row ++ [row s] = (acc ++ [s]).map row := by rw [List.map_append]; rfl
        refine .inl ⟨n, _, ?_, ⟨cutV p1 s, cutV t1 s, acc ++ [s], .fz (row s), rfl, cut_good g1 qs (by omega), cut_marks q1 qs, ?_, by simp; omega⟩, Nat.lt_succ_self n⟩
        · simp (disch := omega) [-Int.natCast_add, eb, idx_tu, h0, ph, ne, grdFew, c1, c2, ea, -List.map_append]
        · rw [← ec]
          have : clearV h mn (n + 1) p1 t1 = (clearV h mn n (cutV p1 s) (cutV t1 s)).map (s :: ·) := by
            show (if goneRows t1 = [] then _ else _) = _
            rw [if_neg c, z2]
          rw [this]
          cases clearV h mn n (cutV p1 s) (cutV t1 s) <;> simp
/-- a for, with what is left to do -/
theorem for_rem {α γ : Type} {step : D → Env → Rs Fl} {h : α → D} {k : Fl → Rs γ} {z : Rs γ} (R : List α → Env → Prop) (H0 : ∀ ρ, R [] ρ → k (.nx ρ) = z)
    (H : ∀ a l ρ, R (a :: l) ρ → (∃ ρ', step (h a) ρ = .ok (.nx ρ') ∧ R l ρ') ∨ (∃ d, step (h a) ρ = .ok (.rt d) ∧ k (.rt d) = z) ∨ (∃ ρ', step (h a) ρ = .ok (.bk ρ') ∧ k (.nx ρ') = z)) : ∀ (l : List α) (ρ : Env), R l ρ → (forD step (l.map h) ρ).bind k = z
  | [], ρ, r => H0 ρ r
  | a :: l, ρ, r => by
    rw [List.map_cons]
    show ((step (h a) ρ).bind _).bind k = z
    rcases H a l ρ r with ⟨ρ', e, r'⟩ | ⟨d, e, e2⟩ | ⟨ρ', e, e2⟩
    · rw [e]; exact for_rem R H0 H l ρ' r'
    · rw [e]; exact e2
    · rw [e]; exact e2
theorem for_bkr {α γ : Type} {step : D → Env → Rs Fl} {h : α → D} {k : Kt Fl γ} {z : Rs γ} {l : List α} {ρ : Env} (R : List α → Env → Prop) (r : R l ρ) (H0 : ∀ ρ, R [] ρ → k.go (.nx ρ) = z)
    (H : ∀ a l ρ, R (a :: l) ρ → (∃ ρ', step (h a) ρ = .ok (.nx ρ') ∧ R l ρ') ∨ (∃ d, step (h a) ρ = .ok (.rt d) ∧ k.go (.rt d) = z) ∨ (∃ ρ', step (h a) ρ = .ok (.bk ρ') ∧ k.go (.nx ρ') = z)) : (forD step (l.map h) ρ).bk (k := k) = z :=
  for_rem (k := k.go) R H0 H l ρ r
/-! ### cut -/
abbrev Sp_cut (m : List D → Rs D) : Prop := ∀ (w h : Nat) p s, Good w h p → Way w h s → m [pic p, row s] = .ok (if 1 < w then pic (cutV p s) else .none)
theorem ok_cut {T : Tb} {fW fS fN c1 c2 : Nat} (hW : Sp_without (T.fn fW)) (hS : Sp_need_seam c1 (T.fn fS)) (hN : Sp_need_picture c2 (T.fn fN)) : Sp_cut (runD T 2 2 (B_cut fW fS fN)) := by
  intro w h p s g q
  have h0 := g.row0
  have ph := g.hh
  have h1 := g.h1
  have h2 := g.h2
  have w2 := g.w2
  have e := hW w h p s g.toRect (by omega) (by omega) q
  by_cases c : 1 < w
  · have c' : (1 : Int) < (w : Int) := by omega
    simp (disch := omega) [runD, B_cut, need_pic hN g, need_way hS g q, idx_tu, h0, ph, c, c', e]
  · have c' : ¬ (1 : Int) < (w : Int) := by omega
    simp (disch := omega) [runD, B_cut, need_pic hN g, need_way hS g q, idx_tu, h0, ph, c, c', e]
theorem clear_len {h : Nat} {mn : Bool} : ∀ (n : Nat) (p t l : List (List Int)), clearV h mn n p t = some l → l.length ≤ n
  | 0, p, t, l, e => by
    unfold clearV at e
    split at e
    · cases e; simp
    · cases e
  | n + 1, p, t, l, e => by
    unfold clearV at e
    split at e
    · cases e; simp
    · split at e
      · cases e
      · rename_i s _
        cases z : clearV h mn n (cutV p s) (cutV t s) with
        | none => rw [z] at e; cases e
        | some l2 =>
          rw [z] at e
          cases e
          have := clear_len n _ _ _ z
          simp; omega
theorem clear_some {h : Nat} {mn : Bool} : ∀ {n : Nat} {p t : List (List Int)} {s : List Int} {l : List (List Int)}, clearV h mn n p t = some (s :: l) → ∃ m, n = m + 1 ∧ goneRows t ≠ [] ∧ bwV (n + 1) h [p] mn t = some s ∧ clearV h mn m (cutV p s) (cutV t s) = some l
  | 0, p, t, s, l, e => by
    unfold clearV at e
    split at e <;> cases e
  | n + 1, p, t, s, l, e => by
    unfold clearV at e
    split at e
    · cases e
    · rename_i c
      split at e
      · cases e
      · rename_i s2 z
        cases z2 : clearV h mn n (cutV p s2) (cutV t s2) with
        | none => rw [z2] at e; cases e
        | some l2 =>
          rw [z2] at e
          cases e
          exact ⟨n, rfl, c, z, z2⟩
theorem clear_nil {h : Nat} {mn : Bool} {n : Nat} {p t : List (List Int)} (e : clearV h mn n p t = some []) : goneRows t = [] := by
  cases n with
  | zero =>
    unfold clearV at e
    split at e
    · assumption
    · cases e
  | succ n =>
    unfold clearV at e
    split at e
    · assumption
    · split at e
      · cases e
      · rename_i s2 z
        cases z2 : clearV h mn n (cutV p s2) (cutV t s2) with
        | none => rw [z2] at e; cases e
        | some l2 => rw [z2] at e; cases e
theorem clear_none {h : Nat} {mn : Bool} {n : Nat} {p t : List (List Int)} (e : clearV h mn n p t = none) : goneRows t ≠ [] ∧ (bwV (n + 1) h [p] mn t = none ∨ n = 0 ∨ ∃ m s, n = m + 1 ∧ bwV (n + 1) h [p] mn t = some s ∧ clearV h mn m (cutV p s) (cutV t s) = none) := by
  cases n with
  | zero =>
    unfold clearV at e
    split at e
    · cases e
    · exact ⟨by assumption, .inr (.inl rfl)⟩
  | succ n =>
    unfold clearV at e
    split at e
    · cases e
    · refine ⟨by assumption, ?_⟩
      split at e
      · rename_i z; exact .inl z
      · rename_i s2 z
        cases z2 : clearV h mn n (cutV p s2) (cutV t s2) with
        | none => exact .inr (.inr ⟨n, s2, rfl, z, z2⟩)
        | some l2 => rw [z2] at e; cases e
/-! ### a def's body in parts -/
def Ss.tk : Nat → Ss → Ss
  | 0, _ => .nil
  | _ + 1, .nil => .nil
  | n + 1, .cons s ss => .cons s (ss.tk n)
def Ss.dp : Nat → Ss → Ss
  | 0, ss => ss
  | _ + 1, .nil => .nil
  | n + 1, .cons _ ss => ss.dp n
theorem seqF_bind (f : Fl) (k : Env → Rs Fl) (g : Env → Rs Fl) : (seqF f k).bind (fun f => seqF f g) = seqF f fun ρ => (k ρ).bind fun f => seqF f g := by
  cases f <;> rfl
theorem exs_at (T : Tb) : ∀ (k : Nat) (S : Ss) (ρ : Env), S.ex T ρ = ((S.tk k).ex T ρ).bind fun f => seqF f ((S.dp k).ex T)
  | 0, S, ρ => by cases S <;> rfl
  | _ + 1, .nil, ρ => rfl
  | n + 1, .cons s ss, ρ => by
    show (s.ex T ρ).bind (fun f => seqF f (ss.ex T)) = ((s.ex T ρ).bind fun f => seqF f ((ss.tk n).ex T)).bind fun f => seqF f ((ss.dp n).ex T)
    cases s.ex T ρ with
    | ok f =>
      show seqF f (ss.ex T) = (seqF f ((ss.tk n).ex T)).bind fun f => seqF f ((ss.dp n).ex T)
      rw [seqF_bind]
      congr 1
      funext ρ
      exact exs_at T n ss ρ
    | ex e => rfl
    | no => rfl
def fin : Fl → Rs D
  | .nx _ => .ok .none
  | .rt d => .ok d
  | _ => .no
@[simp] theorem fin_rt (d : D) : fin (.rt d) = .ok d := id rfl
@[simp] theorem fin_nx (ρ : Env) : fin (.nx ρ) = .ok .none := id rfl
theorem runD_fin (T : Tb) (n loc : Nat) (S : Ss) (ds : List D) (hl : ds.length = n) : runD T n loc S ds = (S.ex T (ds.map .fz ++ List.replicate (loc - n) .un)).bind fin := by
  unfold runD
  rw [if_pos hl]
  congr 1
theorem runD_at {T : Tb} {n loc : Nat} {S : Ss} {ds : List D} {ρ : Env} {r : Rs D} (k : Nat) (hl : ds.length = n) (h1 : (S.tk k).ex T (ds.map .fz ++ List.replicate (loc - n) .un) = .ok (.nx ρ)) (h2 : ((S.dp k).ex T ρ).bind fin = r) : runD T n loc S ds = r := by
  rw [runD_fin T n loc S ds hl, exs_at T k S, h1]
  exact h2
/-- one part further on -/
theorem part_at {T : Tb} {S : Ss} {ρ ρ1 : Env} {r : Rs D} (k : Nat) (h1 : (S.tk k).ex T ρ = .ok (.nx ρ1)) (h2 : ((S.dp k).ex T ρ1).bind fin = r) : (S.ex T ρ).bind fin = r := by
  rw [exs_at T k S, h1]
  exact h2
end Rf
set_option Elab.async false
set_option linter.all false
set_option autoImplicit false
set_option maxHeartbeats 2000000
set_option maxRecDepth 100000
namespace Rf
open PySem L2
/-! ### cells of a seam, put back, doubled -/
theorem Way.mono {w v h : Nat} {s : List Int} (q : Way w h s) (k : w ≤ v) : Way v h s := ⟨q.len, fun x hx => by have := q.rng x hx; omega, q.st⟩
theorem stepsOk_map (c : Int) : ∀ s : List Int, stepsOk (s.map fun x => x + c) = stepsOk s
  | [] => rfl
  | [_] => rfl
  | a :: b :: l => by
    have ih := stepsOk_map c (b :: l)
    show (decide ((a + c - (b + c)).natAbs < 2) && stepsOk ((b :: l).map fun x => x + c)) = (decide ((a - b).natAbs < 2) && stepsOk (b :: l))
    rw [ih, show a + c - (b + c) = a - b by omega]
theorem Way.up {w h : Nat} {s : List Int} (q : Way w h s) : Way (w + 1) h (s.map fun x => x + 1) := ⟨by rw [List.length_map, q.len], fun x hx => by
  obtain ⟨z, hz, rfl⟩ := List.mem_map.mp hx
  have := q.rng z hz
  omega, by rw [stepsOk_map]; exact q.st⟩
abbrev Sp_cells_of (m : List D → Rs D) : Prop := ∀ (w h : Nat) p s, Good w h p → Way w h s → m [pic p, row s] = .ok (row (cellsV p s))
theorem cells_cmpr {w h : Nat} {p : List (List Int)} {s : List Int} (g : Rect w h p) (hw : w < 1000) (hh : h < 1000) (q : Way w h s) {F : D → Rs (Option D)} (H : ∀ r x, F (.tuple [row r, .int x]) = (idxD (row r) (.int x)).quiet.map some) : cmpR F ((p.zip s).map (pr row .int)) = .ok (li .int (cellsV p s)) := by
  have h1 := g.hh
  refine cmpr_li .int (fun q : List Int × Int => getI q.1 q.2) rfl (by simp; omega) ?_
  rintro ⟨r, x⟩ hm
  have hx := q.rng x (List.of_mem_zip hm).2
  have hr := g.ww r (List.of_mem_zip hm).1
  show F (.tuple [row r, .int x]) = _
  rw [H, idx_tu _ _ (by omega) (by omega)]; rfl
theorem ok_cells_of {T : Tb} {fS fN c1 c2 : Nat} (hS : Sp_need_seam c1 (T.fn fS)) (hN : Sp_need_picture c2 (T.fn fN)) : Sp_cells_of (runD T 2 4 (B_cells_of fS fN)) := by
  intro w h p s g q
  have h2 := g.h2
  have w2 := g.w2
  simp [runD, B_cells_of, need_pic hN g, need_way hS g q]
  rw [cells_cmpr g.toRect (by omega) (by omega) q (fun r x => by simp [pr])]
  simp
abbrev CellOk (h : Nat) (c : List Int) : Prop := c.length = h ∧ ∀ z ∈ c, 0 ≤ z ∧ z ≤ 99
abbrev Sp_put_back (m : List D → Rs D) : Prop := ∀ (w h : Nat) p s c, Good w h p → Way (w + 1) h s → CellOk h c → m [pic p, row s, row c] = .ok (if w < 20 then pic (putV p s c) else .none)
theorem ok_put_back {T : Tb} {gM fP fC cC fW cS fN c1 : Nat} (hM : T.gl gM = .ok (.int 20)) (hP : Sp_put_in (T.fn fP)) (hC : Sp_is_cells (T.fn fC)) (hW : Sp_is_way (T.fn fW)) (hN : Sp_need_picture c1 (T.fn fN)) : Sp_put_back (runD T 3 3 (B_put_back gM fP fC cC fW cS fN)) := by
  intro w h p s c g q hc
  have h0 := g.row0
  have ph := g.hh
  have h1 := g.h1
  have h2 := g.h2
  have w2 := g.w2
  have e := hP w h p s c g.toRect (by omega) (by omega) q hc.1
  have e1 := hW (row s) ((w + 1 : Nat) : Int) h (lay_row s) (by omega)
  rw [isWay_way q] at e1
  have e2 := hC (row c) h (lay_row c) (by omega)
  rw [isCells_row hc.1 hc.2] at e2
  have ew : (w : Int) + 1 = ((w + 1 : Nat) : Int) := by omega
  by_cases k : w < 20
  · have k' : (w : Int) < 20 := by omega
    simp (disch := omega) [runD, B_put_back, need_pic hN g, idx_tu, h0, ph, ew, e1, e2, hM, k, k', e, -Int.natCast_add]
  · have k' : ¬ (w : Int) < 20 := by omega
    simp (disch := omega) [runD, B_put_back, need_pic hN g, idx_tu, h0, ph, ew, e1, e2, hM, k, k', e, -Int.natCast_add]
def nextV (r : List Int) (x : Int) : Int := getI r (min ((r.length : Int) - 1) (x + 1))
abbrev Sp_near_next (m : List D → Rs D) : Prop := ∀ r x, 0 ≤ x → x < (r.length : Int) → m [row r, .int x] = .ok (.int (nextV r x))
theorem ok_near_next {T : Tb} : Sp_near_next (runD T 2 2 B_near_next) := by
  intro r x h1 h2
  have mi : bclD .min [.int ((r.length : Int) - 1), .int (x + 1)] = .ok (.int (min ((r.length : Int) - 1) (x + 1))) := by rw [min_int]; congr 2; omega
  simp only [runD, B_near_next, List.length_cons, List.length_nil]
  simp (disch := omega) [idx_tu, -min_int, mi, nextV]
def meansV (p : List (List Int)) (s : List Int) : List Int := (p.zip s).map fun q => (getI q.1 q.2 + nextV q.1 q.2) / 2
abbrev Sp_means (m : List D → Rs D) : Prop := ∀ (w h : Nat) p s, Rect w h p → w < 1000 → h < 1000 → Way w h s → m [pic p, row s] = .ok (row (meansV p s))
theorem ok_means {T : Tb} {fX : Nat} (hX : Sp_near_next (T.fn fX)) : Sp_means (runD T 2 4 (B_means fX)) := by
  intro w h p s g hw hh q
  have h1 := g.hh
  simp [runD, B_means]
  rw [cmpr_li .int (fun q : List Int × Int => (getI q.1 q.2 + nextV q.1 q.2) / 2) rfl (by simp; omega)]
  · simp [meansV]
  · rintro ⟨r, x⟩ hm
    have hx := q.rng x (List.of_mem_zip hm).2
    have hr := g.ww r (List.of_mem_zip hm).1
    have hr : r.length = w := hr
    have e := hX r x hx.1 (by omega)
    simp (disch := omega) [pr, idx_tu, e, divOk]
theorem means_ok {w h : Nat} {p : List (List Int)} {s : List Int} (g : Good w h p) (q : Way w h s) : CellOk h (meansV p s) := by
  have hh := g.hh
  have hl := q.len
  refine ⟨by unfold meansV; rw [List.length_map, List.length_zip]; omega, fun c hc => ?_⟩
  obtain ⟨⟨r, x⟩, hm, rfl⟩ := List.mem_map.mp hc
  have hx := q.rng x (List.of_mem_zip hm).2
  have hr := (List.of_mem_zip hm).1
  have hw := g.ww r hr
  have hw : r.length = w := hw
  have h1 := g.cl r hr _ (getI_mem (i := x) (by omega) (by omega))
  have h2 := g.cl r hr _ (getI_mem (i := min ((r.length : Int) - 1) (x + 1)) (by omega) (by omega))
  show 0 ≤ (getI r x + nextV r x) / 2 ∧ (getI r x + nextV r x) / 2 ≤ 99
  unfold nextV
  omega
abbrev Sp_doubled (m : List D → Rs D) : Prop := ∀ (w h : Nat) p s, Good w h p → Way w h s → m [pic p, row s] = .ok (if w < 20 then pic (putV p (s.map fun x => x + 1) (meansV p s)) else .none)
theorem ok_doubled {T : Tb} {gM fP fM fS fN c1 c2 : Nat} (hM : T.gl gM = .ok (.int 20)) (hP : Sp_put_in (T.fn fP)) (hMe : Sp_means (T.fn fM)) (hS : Sp_need_seam c1 (T.fn fS)) (hN : Sp_need_picture c2 (T.fn fN)) : Sp_doubled (runD T 2 4 (B_doubled gM fP fM fS fN)) := by
  intro w h p s g q
  have h0 := g.row0
  have ph := g.hh
  have h1 := g.h1
  have h2 := g.h2
  have w2 := g.w2
  have hl := q.len
  have e1 := hMe w h p s g.toRect (by omega) (by omega) q
  have e2 := hP w h p _ _ g.toRect (by omega) (by omega) q.up (means_ok g q).1
  simp (disch := omega) [runD, B_doubled, need_pic hN g, need_way hS g q]
  rw [cmpr_li .int (fun x : Int => x + 1) rfl (by omega) (fun x _ => by simp)]
  by_cases k : w < 20
  · have k' : (w : Int) < 20 := by omega
    simp (disch := omega) [idx_tu, h0, ph, e1, e2, hM, k, k', -List.map_map]
  · have k' : ¬ (w : Int) < 20 := by omega
    simp (disch := omega) [idx_tu, h0, ph, e1, e2, hM, k, k', -List.map_map]
theorem cells_dr {T : Tb} {fD : Nat} (hD : Sp_law_drawn (T.fn fD)) {ns : List Int} (hs : ns.length ≤ 63) (a : Int) (h : Nat) (a0 : 0 ≤ a) (a1 : a < 500000) (hh : h ≤ 100) : ∃ c : List Int, CellOk h c ∧ ∀ (F : D → Rs (Option D)), (∀ i : Int, 0 ≤ i → i < (h : Int) → F (.int i) = (T.fn fD [li .int ns, .int (a + i), .int 100]).map some) → cmpR F ((upI 0 h).map PyData.int) = .ok (li .int c) := by
  refine ⟨(upI 0 h).map fun i => drawV (T.fn fD) ns (a + i) 100, ⟨by simp, ?_⟩, fun F hF => ?_⟩
  · intro z hz
    obtain ⟨i, hi, rfl⟩ := List.mem_map.mp hz
    have hi := mem_upI.mp hi
    have := drawV_ok hD (k := a + i) (n := 100) hs (by omega) (by omega) (by omega)
    omega
  · refine cmpr_li .int _ rfl (by simp; omega) ?_
    intro i hi
    have hi := mem_upI.mp hi
    rw [hF i hi.1 (by omega), (drawV_ok hD (k := a + i) (n := 100) hs (by omega) (by omega) (by omega)).1]; rfl
theorem put_cmpr {w h : Nat} {p : List (List Int)} {s c : List Int} (g : Rect w h p) (hw : w < 1000) (hh : h < 1000) (q : Way (w + 1) h s) (hc : c.length = h) {F : D → Rs (Option D)} (H : ∀ r x z A, binD .Add (row (cutD r none (some x))) (.tuple [.int z]) = .ok A → binD .Add A (row (cutD r (some x) none)) = .ok (row (putR r x z)) → F (.tuple [row r, .int x, .int z]) = .ok (some (row (putR r x z)))) : cmpR F ((p.zip (s.zip c)).map (t3 row .int .int)) = .ok (li row (putV p s c)) := by
  have h1 := g.hh
  have hl := q.len
  refine cmpr_li row (fun q : List Int × Int × Int => putR q.1 q.2.1 q.2.2) rfl (by simp; omega) ?_
  rintro ⟨r, x, z⟩ hm
  have hr := g.ww r (List.of_mem_zip hm).1
  have hx := q.rng x (List.of_mem_zip (List.of_mem_zip hm).2).1
  have hx : 0 ≤ x ∧ x < ((w + 1 : Nat) : Int) := hx
  have hr : r.length = w := hr
  have c1 : cutD r none (some x) = r.take x.toNat := cut_to _ hx.1
  have c2 : cutD r (some x) none = r.drop x.toNat := cut_from _ hx.1
  exact H r x z (row (r.take x.toNat ++ [z])) (by rw [c1]; exact add_tu .int _ [z] (by simp; omega)) (by rw [c2]; exact add_tu .int _ _ (by simp; omega))
end Rf
set_option Elab.async false
set_option linter.all false
set_option autoImplicit false
set_option maxHeartbeats 2000000
set_option maxRecDepth 100000
namespace Rf
open PySem L2
/-! ### brightness -/
def brightV (p : List (List Int)) : Int := (p.flatMap fun r => r).sum
abbrev Sp_brightness (m : List D → Rs D) : Prop := ∀ (w h : Nat) p, Good w h p → m [pic p] = .ok (.int (brightV p))
theorem flat_len {w : Nat} : ∀ {p : List (List Int)}, (∀ r ∈ p, r.length = w) → (p.flatMap fun r => r).length = p.length * w
  | [], _ => by simp
  | r :: p, h => by
    rw [List.flatMap_cons, List.length_append, h r List.mem_cons_self, flat_len fun z hz => h z (List.mem_cons_of_mem _ hz), List.length_cons, Nat.succ_mul]; omega
theorem flat_cmpr {T : Tb} {w h : Nat} {p : List (List Int)} (g : Rect w h p) (hw : w ≤ 20) (hh : h ≤ 40) {F : D → Rs (List D)} (H : ∀ r, F (row r) = .ok (r.map .int)) : cm2R F (p.map row) = .ok (li .int (p.flatMap fun r => r)) := by
  refine cm2_li .int (fun r => r) rfl ?_ fun r _ => H r
  rw [flat_len g.ww, g.hh]
  have : h * w ≤ 40 * 20 := Nat.mul_le_mul hh hw
  omega
theorem ok_brightness {T : Tb} {fN c : Nat} (hN : Sp_need_picture c (T.fn fN)) : Sp_brightness (runD T 1 3 (B_brightness fN)) := by
  intro w h p g
  simp [runD, B_brightness, need_pic hN g]
  rw [flat_cmpr (T := T) g.toRect g.w2 (by have := g.h2; omega)]
  · simp [brightV]
  · intro r
    simp
    exact (gather_map (h := PyData.int) .int (fun z : Int => z) fun a _ => by simp).trans (by simp)
theorem cutR_sum {r : List Int} {x : Int} (h1 : 0 ≤ x) (h2 : x < r.length) : (cutR r x).sum + getI r x = r.sum := by
  obtain ⟨k, rfl⟩ := Int.eq_ofNat_of_zero_le h1
  have hk : k < r.length := by omega
  have e : r = r.take k ++ (r[k] :: r.drop (k + 1)) := by rw [← List.drop_eq_getElem_cons hk, List.take_append_drop]
  have g : getI r (k : Int) = r[k] := by rw [getI_nat, List.getD_eq_getElem?_getD, List.getElem?_eq_getElem hk]; rfl
  unfold cutR
  rw [g, show ((k : Int)).toNat = k by omega, show ((k : Int) + 1).toNat = k + 1 by omega]
  conv => rhs; rw [e]
  simp only [List.sum_append, List.sum_cons]
  omega
theorem bright_cut : ∀ {p : List (List Int)} {s : List Int} {w : Nat}, p.length = s.length → (∀ r ∈ p, r.length = w) → (∀ x ∈ s, 0 ≤ x ∧ x < (w : Int)) → brightV (cutV p s) + (cellsV p s).sum = brightV p
  | [], [], _, _, _, _ => rfl
  | r :: p, x :: s, w, hl, hw, hx => by
    have ih := bright_cut (p := p) (s := s) (by simpa using hl) (fun r hr => hw r (List.mem_cons_of_mem _ hr)) fun z hz => hx z (List.mem_cons_of_mem _ hz)
    have hr := hw r List.mem_cons_self
    have hxx := hx x List.mem_cons_self
    have e := cutR_sum (r := r) hxx.1 (by omega)
    show ((cutR r x :: cutV p s).flatMap fun r => r).sum + (getI r x :: cellsV p s).sum = ((r :: p).flatMap fun r => r).sum
    unfold brightV at ih
    simp only [List.flatMap_cons, List.sum_append, List.sum_cons]
    omega
theorem steps_bright {h : Nat} {mn : Bool} : ∀ (n w : Nat) (p t : List (List Int)) (r : List Step × List (List Int)), Good w h p → n < w → stepsTo h mn n w p t = some r → brightV r.2 + (r.1.map fun s => s.2.sum).sum = brightV p
  | 0, w, p, t, r, g, hn, e => by cases e; simp
  | n + 1, w, p, t, r, g, hn, e => by
    unfold stepsTo at e
    cases z : bwV w h [p] mn t with
    | none => rw [z] at e; cases e
    | some s =>
      rw [z] at e
      dsimp only at e
      obtain ⟨q, _, _⟩ := bw_way g.h1 z
      cases z2 : stepsTo h mn n (w - 1) (cutV p s) (cutV t s) with
      | none => rw [z2] at e; cases e
      | some r2 =>
        rw [z2] at e
        cases e
        have ih := steps_bright n (w - 1) (cutV p s) (cutV t s) r2 (cut_good g q (by omega)) (by omega) z2
        have bc := bright_cut (by rw [g.hh, q.len]) g.ww q.rng
        simp only [List.map_cons, List.sum_cons]
        omega
theorem cut_free (p : List (List Int)) (s : List Int) : cutV (freeV p) s = freeV (cutV p s) := by
  unfold cutV freeV
  rw [List.zip_map_left, List.map_map, List.map_map]
  apply List.map_congr_left
  rintro ⟨r, x⟩ _
  show cutR (r.map fun _ => 0) x = (cutR r x).map fun _ => 0
  unfold cutR
  rw [List.map_append, List.map_take, List.map_drop]
theorem steps_split {h : Nat} {mn : Bool} : ∀ (a b w : Nat) (p : List (List Int)) (r1 r2 : List Step × List (List Int)), stepsTo h mn a w p (freeV p) = some r1 → stepsTo h mn b (w - a) r1.2 (freeV r1.2) = some r2 → stepsTo h mn (a + b) w p (freeV p) = some (r1.1 ++ r2.1, r2.2)
  | 0, b, w, p, r1, r2, e1, e2 => by
    cases e1
    rw [Nat.zero_add]
    simpa using e2
  | a + 1, b, w, p, r1, r2, e1, e2 => by
    rw [show a + 1 + b = (a + b) + 1 by omega]
    unfold stepsTo at e1 ⊢
    cases z : bwV w h [p] mn (freeV p) with
    | none => rw [z] at e1; cases e1
    | some s =>
      rw [z] at e1
      dsimp only at e1 ⊢
      rw [cut_free] at e1 ⊢
      cases z2 : stepsTo h mn a (w - 1) (cutV p s) (freeV (cutV p s)) with
      | none => rw [z2] at e1; cases e1
      | some r3 =>
        rw [z2] at e1
        cases e1
        have ih := steps_split a b (w - 1) (cutV p s) r3 r2 z2 (by rw [show w - 1 - a = w - (a + 1) by omega]; exact e2)
        rw [ih]; rfl
theorem steps_cons {h : Nat} {mn : Bool} {n w : Nat} {p t : List (List Int)} {s c : List Int} {l : List Step} {q : List (List Int)} (e : stepsTo h mn n w p t = some ((s, c) :: l, q)) : ∃ m, n = m + 1 ∧ bwV w h [p] mn t = some s ∧ c = cellsV p s ∧ stepsTo h mn m (w - 1) (cutV p s) (cutV t s) = some (l, q) := by
  cases n with
  | zero => cases e
  | succ n =>
    unfold stepsTo at e
    cases z : bwV w h [p] mn t with
    | none => rw [z] at e; cases e
    | some s2 =>
      rw [z] at e
      dsimp only at e
      cases z2 : stepsTo h mn n (w - 1) (cutV p s2) (cutV t s2) with
      | none => rw [z2] at e; cases e
      | some r =>
        rw [z2] at e
        cases e
        exact ⟨n, rfl, rfl, rfl, z2⟩
theorem no_kept {h : Nat} {mn : Bool} : ∀ (n w : Nat) (p t : List (List Int)), Good w h p → Marks w h t → n < w → (∀ r ∈ t, (1 : Int) ∉ r) → stepsTo h mn n w p t ≠ none
  | 0, w, p, t, g, q, hn, hk, e => by cases e
  | n + 1, w, p, t, g, q, hn, hk, e => by
    have kf : keptFree t 0 (List.replicate h 0) = true := by
      rw [kept_iff]
      intro j hj hc
      simp at hj
      have rw0 := rep_way (w := w) (h := h) g.w1
      have ci : getI (List.replicate h (0 : Int)) (j : Int) = 0 := getI_rep (by omega) (by omega)
      rw [ci] at hc
      have th := q.hh
      have hr : getI t (0 + (j : Int)) ∈ t := getI_mem (by omega) (by omega)
      have hl := q.ww _ hr
      have w1 := g.w1
      have : (1 : Int) ∈ getI t (0 + (j : Int)) := by
        have m := getI_mem (l := getI t (0 + (j : Int))) (i := 0) (by omega) (by omega)
        have hc : getI (getI t (0 + (j : Int))) 0 = 1 := hc
        rwa [hc] at m
      exact hk _ hr this
    obtain ⟨s, es⟩ := bw_some (ps := [p]) (mn := mn) g.h1 (rep_way g.w1) kf
    obtain ⟨qs, _, _⟩ := bw_way g.h1 es
    unfold stepsTo at e
    rw [es] at e
    dsimp only at e
    cases z : stepsTo h mn n (w - 1) (cutV p s) (cutV t s) with
    | some r => rw [z] at e; cases e
    | none =>
      refine no_kept n (w - 1) (cutV p s) (cutV t s) (cut_good g qs (by omega)) (cut_marks q qs) (by omega) (fun r hr hc => ?_) z
      obtain ⟨r0, h0, hc0⟩ := cut_mem hr hc
      exact hk r0 h0 hc0
end Rf
set_option Elab.async false
set_option linter.all false
set_option autoImplicit false
set_option maxHeartbeats 2000000
set_option maxRecDepth 100000
namespace Rf
open PySem L2
theorem for_remN {α : Type} {step : D → Env → Rs Fl} {h : α → D} {k : Fl → Rs Fl} {P : Env → Prop} (R : List α → Env → Prop) (H0 : ∀ ρ, R [] ρ → Nxt (k (.nx ρ)) P)
    (H : ∀ a l ρ, R (a :: l) ρ → Nxt (step (h a) ρ) (R l) ∨ Bks (step (h a) ρ) fun ρ' => Nxt (k (.nx ρ')) P) : ∀ (l : List α) (ρ : Env), R l ρ → Nxt ((forD step (l.map h) ρ).bind k) P
  | [], ρ, r => H0 ρ r
  | a :: l, ρ, r => by
    rw [List.map_cons]
    show Nxt (((step (h a) ρ).bind _).bind k) P
    rcases H a l ρ r with ⟨ρ', e, r'⟩ | ⟨ρ', e, r'⟩
    · rw [e]; exact for_remN R H0 H l ρ' r'
    · rw [e]; exact r'
/-! ### all seams through no kept cell, in order -/
def fwl (w : Nat) (t : List (List Int)) : Nat → Int → Int → List (List Int)
  | 0, y, x => if cell t x y = 1 then [] else [[x]]
  | k + 1, y, x => if cell t x y = 1 then [] else ((nexts w x).flatMap (fwl w t k (y + 1))).map (x :: ·)
theorem filter_flatMap' {α β : Type} (f : α → List β) (q : β → Bool) : ∀ l : List α, (l.flatMap f).filter q = l.flatMap fun a => (f a).filter q
  | [] => rfl
  | a :: l => by rw [List.flatMap_cons, List.filter_append, List.flatMap_cons, filter_flatMap' f q l]
theorem fwl_filter (w : Nat) (t : List (List Int)) : ∀ (k : Nat) (y x : Int), fwl w t k y x = (wl w k x).filter (keptFree t y)
  | 0, y, x => by
    unfold fwl wl
    by_cases c : cell t x y = 1 <;> simp [keptFree, c]
  | k + 1, y, x => by
    unfold fwl wl
    rw [filter_flatMap']
    by_cases c : cell t x y = 1
    · rw [if_pos c]
      symm
      rw [List.flatMap_eq_nil_iff]
      intro z _
      rw [List.filter_eq_nil_iff]
      intro s hs
      obtain ⟨l, _, rfl⟩ := List.mem_map.mp hs
      simp [keptFree, c]
    · rw [if_neg c, flatMap_map']
      congr 1
      funext z
      rw [fwl_filter w t k (y + 1) z, List.filter_map]
      congr 1
      congr 1
      funext l
      simp [keptFree, c]
def allV (w h : Nat) (t : List (List Int)) : List (List Int) := (upI 0 w).flatMap (fwl w t (h - 1) 0)
theorem allV_filter (w h : Nat) (t : List (List Int)) : allV w h t = (waysV w (h - 1)).filter (keptFree t 0) := by
  unfold allV
  rw [waysV_wl, filter_flatMap']
  congr 1
  funext x
  exact fwl_filter w t (h - 1) 0 x
theorem mem_allV {w h : Nat} {t : List (List Int)} (h1 : 1 ≤ h) {s : List Int} : s ∈ allV w h t ↔ Way w h s ∧ keptFree t 0 s = true := by
  rw [allV_filter, List.mem_filter, mem_waysV, show h - 1 + 1 = h by omega]
theorem fwl_head {w : Nat} {t : List (List Int)} {k : Nat} {y x : Int} {s : List Int} (h : s ∈ fwl w t k y x) : ∃ r, s = x :: r := by
  cases k with
  | zero =>
    unfold fwl at h
    split at h
    · cases h
    · exact ⟨[], List.mem_singleton.mp h⟩
  | succ k =>
    unfold fwl at h
    split at h
    · cases h
    · obtain ⟨r, _, rfl⟩ := List.mem_map.mp h
      exact ⟨r, rfl⟩
theorem pw_flat {g : Int → List (List Int)} (hg : ∀ x s, s ∈ g x → ∃ r, s = x :: r) (hs : ∀ x, (g x).Pairwise (· < ·)) : ∀ {cs : List Int}, cs.Pairwise (· < ·) → (cs.flatMap g).Pairwise (· < ·)
  | [], _ => .nil
  | x :: cs, h => by
    rw [List.flatMap_cons, List.pairwise_append]
    rw [List.pairwise_cons] at h
    refine ⟨hs x, pw_flat hg hs h.2, fun a ha b hb => ?_⟩
    obtain ⟨r, rfl⟩ := hg x a ha
    obtain ⟨x', hx', hb⟩ := List.mem_flatMap.mp hb
    obtain ⟨r', rfl⟩ := hg x' b hb
    exact List.cons_lt_cons_iff.mpr (.inl (h.1 x' hx'))
theorem fwl_sorted (w : Nat) (t : List (List Int)) : ∀ (k : Nat) (y x : Int), (fwl w t k y x).Pairwise (· < ·)
  | 0, y, x => by
    unfold fwl
    split
    · exact .nil
    · exact List.pairwise_singleton _ _
  | k + 1, y, x => by
    unfold fwl
    split
    · exact .nil
    · rw [List.pairwise_map]
      have := pw_flat (fun x s h => fwl_head h) (fwl_sorted w t k (y + 1)) (nexts_sorted w x)
      exact this.imp fun h => List.cons_lt_cons_iff.mpr (.inr ⟨rfl, h⟩)
theorem upI_sorted : ∀ (n : Nat) (lo : Int), (upI lo n).Pairwise (· < ·)
  | 0, _ => .nil
  | n + 1, lo => by
    rw [upI_succ, List.pairwise_cons]
    exact ⟨fun x hx => by have := mem_upI.mp hx; omega, upI_sorted n _⟩
theorem allV_sorted (w h : Nat) (t : List (List Int)) : (allV w h t).Pairwise (· < ·) := pw_flat (fun x s h => fwl_head h) (fwl_sorted w t _ _) (upI_sorted w 0)
theorem plc_of_get {α : Type} [DecidableEq α] {R : α → α → Prop} (ir : ∀ a, ¬ R a a) : ∀ {l : List α} {n : Nat} {a : α}, l.Pairwise R → l[n]? = some a → plc a l = n
  | [], n, a, _, h => by simp at h
  | b :: l, 0, a, _, h => by
    simp at h; subst h
    unfold plc
    simp
  | b :: l, n + 1, a, p, h => by
    rw [List.pairwise_cons] at p
    have h : l[n]? = some a := by simpa using h
    have hm : a ∈ l := List.mem_of_getElem? h
    have ne : b ≠ a := fun e => ir a (by have := p.1 a hm; rwa [e] at this)
    unfold plc
    rw [if_neg ne, plc_of_get ir p.2 h]
theorem lt_irr (a : List Int) : ¬ a < a := List.lt_irrefl a
theorem plc_cons {α : Type} [DecidableEq α] (a b : α) (l : List α) : plc a (b :: l) = if b = a then 0 else plc a l + 1 := rfl
theorem plc_app {α : Type} [DecidableEq α] {a : α} : ∀ {l m : List α}, a ∉ l → plc a (l ++ m) = l.length + plc a m
  | [], m, _ => by simp
  | b :: l, m, h => by
    simp only [List.mem_cons, not_or] at h
    rw [List.cons_append, plc_cons, if_neg (fun e => h.1 e.symm), plc_app h.2, List.length_cons]; omega
theorem plc_app2 {α : Type} [DecidableEq α] {a : α} : ∀ {l m : List α}, a ∈ l → plc a (l ++ m) = plc a l
  | [], m, h => by cases h
  | b :: l, m, h => by
    show plc a (b :: (l ++ m)) = _
    unfold plc
    by_cases c : b = a
    · rw [if_pos c, if_pos c]
    · rw [if_neg c, if_neg c, plc_app2 ((List.mem_cons.mp h).resolve_left fun e => c e.symm)]
theorem plc_map {f : List Int → List Int} (hf : ∀ a b, f a = f b → a = b) (a : List Int) : ∀ l : List (List Int), plc (f a) (l.map f) = plc a l
  | [] => rfl
  | b :: l => by
    rw [List.map_cons]
    unfold plc
    by_cases c : b = a
    · rw [if_pos c, if_pos (by rw [c])]
    · rw [if_neg c, if_neg (fun e => c (hf _ _ e)), plc_map hf a l]
theorem plc_flat {g : Int → List (List Int)} (hg : ∀ x s, s ∈ g x → ∃ r, s = x :: r) {x : Int} {s : List Int} (hs : s ∈ g x) : ∀ {cs : List Int}, cs.Pairwise (· < ·) → x ∈ cs → (plc s (cs.flatMap g) : Int) = ((cs.filter fun z => decide (z < x)).map fun z => ((g z).length : Int)).sum + plc s (g x)
  | [], _, h => by cases h
  | z :: cs, p, h => by
    rw [List.pairwise_cons] at p
    obtain ⟨r, er⟩ := hg x s hs
    rw [List.flatMap_cons, List.filter_cons]
    by_cases c : z = x
    · subst c
      rw [plc_app2 hs, if_neg (by simp)]
      have : (cs.filter fun z' => decide (z' < z)) = [] := by
        rw [List.filter_eq_nil_iff]
        intro z' hz'
        have := p.1 z' hz'
        simp; omega
      rw [this]; simp
    · have hx : x ∈ cs := (List.mem_cons.mp h).resolve_left fun e => c e.symm
      have lt : z < x := p.1 x hx
      have nm : s ∉ g z := fun hz => by
        obtain ⟨r', er'⟩ := hg z s hz
        rw [er] at er'
        injection er' with e1
        exact c e1.symm
      rw [plc_app nm, if_pos (by simpa using lt), Int.natCast_add]
      have := plc_flat hg hs p.2 hx
      simp only [List.map_cons, List.sum_cons]
      omega
/-! ### tables of how many -/
def tRow (w h : Nat) (t : List (List Int)) : Nat → List Int
  | 0 => (upI 0 w).map fun x => if cell t x ((h : Int) - 1) = 1 then 0 else 1
  | k + 1 => (upI 0 w).map fun x => if cell t x ((h : Int) - 2 - (k : Nat)) = 1 then 0 else ((nexts w x).map fun z => getI (tRow w h t k) z).sum
def tTab (w h : Nat) (t : List (List Int)) : Nat → List (List Int)
  | 0 => [tRow w h t 0]
  | k + 1 => tRow w h t (k + 1) :: tTab w h t k
theorem tRow_len (w h : Nat) (t : List (List Int)) : ∀ k, (tRow w h t k).length = w
  | 0 => by simp [tRow]
  | k + 1 => by simp [tRow]
theorem tTab_len (w h : Nat) (t : List (List Int)) : ∀ k, (tTab w h t k).length = k + 1
  | 0 => rfl
  | k + 1 => by show (tTab w h t k).length + 1 = _; rw [tTab_len w h t k]
theorem tTab_get (w h : Nat) (t : List (List Int)) : ∀ (k y : Nat), y ≤ k → getI (tTab w h t k) (y : Int) = tRow w h t (k - y)
  | 0, y, hy => by
    have : y = 0 := by omega
    subst this
    exact getI_zero _ _
  | k + 1, 0, _ => getI_zero _ _
  | k + 1, y + 1, hy => by
    show getI (_ :: tTab w h t k) _ = _
    rw [getI_cons_succ, tTab_get w h t k y (by omega), show k + 1 - (y + 1) = k - y by omega]
theorem sum_flat {f : Int → List (List Int)} {g : Int → Int} : ∀ {cs : List Int}, (∀ x ∈ cs, g x = ((f x).length : Int)) → (cs.map g).sum = ((cs.flatMap f).length : Int)
  | [], _ => rfl
  | x :: cs, h => by
    rw [List.map_cons, List.sum_cons, sum_flat fun z hz => h z (List.mem_cons_of_mem _ hz), h x List.mem_cons_self, List.flatMap_cons, List.length_append]
    omega
theorem tRow_get {w h : Nat} {t : List (List Int)} : ∀ (k : Nat) (x : Int), 0 ≤ x → x < (w : Int) → getI (tRow w h t k) x = ((fwl w t k ((h : Int) - 1 - (k : Nat)) x).length : Int)
  | 0, x, h1, h2 => by
    unfold tRow fwl
    rw [getI_map _ _ (by simp; omega) (by simp; omega), getI_up h1 h2, show (h : Int) - 1 - ((0 : Nat) : Int) = (h : Int) - 1 by omega]
    by_cases c : cell t x ((h : Int) - 1) = 1 <;> simp [c]
  | k + 1, x, h1, h2 => by
    unfold tRow fwl
    rw [getI_map _ _ (by simp; omega) (by simp; omega), getI_up h1 h2, show (h : Int) - 1 - ((k + 1 : Nat) : Int) = (h : Int) - 2 - (k : Nat) by omega]
    by_cases c : cell t x ((h : Int) - 2 - (k : Nat)) = 1
    · simp [c]
    · rw [if_neg c, if_neg c, List.length_map]
      refine sum_flat fun z hz => ?_
      have hz := mem_nexts.mp hz
      rw [tRow_get k z hz.2.1 hz.2.2, show (h : Int) - 2 - (k : Nat) + 1 = (h : Int) - 1 - (k : Nat) by omega]
abbrev Sp_tails (m : List D → Rs D) : Prop := ∀ (w h : Nat) t, Rect w h t → 1 ≤ h → w < 1000 → h < 1000 → m [pic t] = .ok (li (li .int) (tTab w h t (h - 1)))
theorem ok_tails {T : Tb} {gK fN : Nat} (hK : T.gl gK = .ok (.int 1)) (hN : Sp_next_ones (T.fn fN)) : Sp_tails (runD T 1 9 (B_tails gK fN)) := by
  intro w h t g h1 hw hh
  have th := g.hh
  have r0 := g.row (y := 0) (by omega) (by omega)
  have rl := g.row (y := (h : Int) - 1) (by omega) (by omega)
  have iw : itD .rng [.int (w : Int)] = .ok ((upI 0 w).map PyData.int) := it_rng1 (by omega) (by omega)
  simp (disch := omega) [runD, B_tails, idx_tu, r0, th, iw]
  rw [cmpr_li .int (fun x => if cell t x ((h : Int) - 1) = 1 then (0 : Int) else 1) rfl (by simp; omega)]
  · have e0 : PyData.list [li .int ((upI 0 w).map fun x => if cell t x ((h : Int) - 1) = 1 then (0 : Int) else 1)] = li (li .int) (tTab w h t 0) := rfl
    simp (disch := omega) [it_rng3, e0, -List.map_map]
    refine for_preB (fun pre ρ => ∃ z4 z5 z6 z7, ρ = [.fz (pic t), .fz (.int w), .fz (.int h), .fz (li (li .int) (tTab w h t pre.length)), z4, z5, z6, z7, .un]) ⟨_, _, _, _, rfl⟩ ?_ ?_
    · rintro pre y q _ ep ⟨z4, z5, z6, z7, rfl⟩
      have ey : y = (h : Int) - 2 - (pre.length : Nat) ∧ pre.length < h - 1 := by
        have h2 := congrArg (fun l => l[pre.length]?) ep
        have h3 := (pre_len ep).1
        rw [len_downI] at h3
        simp only [List.getElem?_append_right (Nat.le_refl _), Nat.sub_self, List.getElem?_cons_zero] at h2
        unfold downI at h2
        rw [List.getElem?_map, List.getElem?_range h3] at h2
        simp at h2
        omega
      obtain ⟨ey, pl⟩ := ey
      subst ey
      have ry := g.row (y := (h : Int) - 2 - (pre.length : Nat)) (by omega) (by omega)
      have tl := tTab_len w h t pre.length
      have tg := tTab_get w h t pre.length 0 (by omega)
      rw [Nat.sub_zero] at tg
      have tg : getI (tTab w h t pre.length) 0 = tRow w h t pre.length := tg
      have rl := tRow_len w h t pre.length
      show Nxt _ _
      simp (disch := omega) [iw]
      refine for_nxt (fun pre2 ρ => ∃ z6 z7, ρ = [.fz (pic t), .fz (.int w), .fz (.int h), .fz (li (li .int) (tTab w h t pre.length)), .fz (.int ((h : Int) - 2 - (pre.length : Nat))), .ow ((pre2.map fun x => if cell t x ((h : Int) - 2 - (pre.length : Nat)) = 1 then 0 else ((nexts w x).map fun z => getI (tRow w h t pre.length) z).sum).map .int), z6, z7, .un]) ⟨_, _, rfl⟩ ?_ ?_
      · rintro pre2 x q2 _ ep2 ⟨z6, z7, rfl⟩
        obtain ⟨pl2, hx⟩ := pre_len ep2
        have hx := mem_upI.mp hx
        rw [len_upI] at pl2
        have nx := hN x w
        have nl : (nexts w x).length ≤ 3 := by
          unfold nexts
          exact Nat.le_trans (List.length_filter_le _ _) (Nat.le_refl _)
        simp (disch := omega) [nx]
        rw [cmpr_li .int (fun z => getI (tRow w h t pre.length) z) rfl (by omega)]
        · have ic : idxD (row (getI t ((h : Int) - 2 - (pre.length : Nat)))) (.int x) = .ok (.int (cell t x ((h : Int) - 2 - (pre.length : Nat)))) := by
            rw [idx_tu _ _ (by omega) (by omega)]; rfl
          by_cases c : cell t x ((h : Int) - 2 - (pre.length : Nat)) = 1
          · simp (disch := (first | omega | (simp; omega))) [idx_tu, ic, hK, c, grdFew, -List.map_map]
            exact ⟨_, rfl, _, _, by simp [c]; exact ⟨rfl, rfl⟩⟩
          · simp (disch := (first | omega | (simp; omega))) [idx_tu, ic, hK, c, grdFew, -List.map_map]
            exact ⟨_, rfl, _, _, by simp [c]; exact ⟨rfl, rfl⟩⟩
        · intro z hz
          have hz := mem_nexts.mp hz
          simp (disch := omega) [idx_li, tg]
      · rintro _ ⟨z6, z7, rfl⟩
        have ea : binD .Add (.list [li .int ((upI 0 w).map fun x => if cell t x ((h : Int) - 2 - (pre.length : Nat)) = 1 then (0 : Int) else ((nexts w x).map fun z => getI (tRow w h t pre.length) z).sum)]) (li (li .int) (tTab w h t pre.length)) = .ok (li (li .int) (tTab w h t (pre.length + 1))) :=
          add_li (li .int) [tRow w h t (pre.length + 1)] _ (by simp; omega)
        have el : ∀ l : List Int, PyData.list (l.map .int) = li .int l := fun _ => rfl
        simp [el, ea, -List.map_map]
        exact ⟨_, rfl, _, _, _, _, by first | rfl | (rw [List.length_append]; rfl)⟩
    · rintro _ ⟨z4, z5, z6, z7, rfl⟩
      simp [len_downI]
      congr 2
      omega
  · intro x hx
    have hx := mem_upI.mp hx
    have ic : idxD (row (getI t ((h : Int) - 1))) (.int x) = .ok (.int (cell t x ((h : Int) - 1))) := by
      rw [idx_tu _ _ (by omega) (by omega)]; rfl
    by_cases c : cell t x ((h : Int) - 1) = 1 <;> simp (disch := omega) [idx_tu, ic, hK, c]
/-! ### how many, the seam of a number -/
abbrev Sp_how_many (m : List D → Rs D) : Prop := ∀ w h p o, Good w h p → MkOk w h o → m [pic p, mkD o] = .ok (.int ((allV w h (mkV p o)).length : Nat))
theorem tab_sum {w h : Nat} {t : List (List Int)} (h1 : 1 ≤ h) : (getI (tTab w h t (h - 1)) 0).sum = ((allV w h t).length : Int) := by
  have e := tTab_get w h t (h - 1) 0 (by omega)
  rw [Nat.sub_zero] at e
  have e : getI (tTab w h t (h - 1)) 0 = tRow w h t (h - 1) := e
  rw [e]
  have e2 : tRow w h t (h - 1) = (upI 0 w).map fun x => getI (tRow w h t (h - 1)) x := by
    refine List.ext_getElem? fun i => ?_
    by_cases hi : i < w
    · rw [List.getElem?_map]
      unfold upI
      rw [List.getElem?_map, List.getElem?_range hi]
      have hl := tRow_len w h t (h - 1)
      show _ = some (getI (tRow w h t (h - 1)) (0 + (i : Int)))
      rw [Int.zero_add, getI_nat, List.getD_eq_getElem?_getD, List.getElem?_eq_getElem (by omega)]; rfl
    · rw [List.getElem?_eq_none (by rw [tRow_len]; omega), List.getElem?_eq_none (by simp; omega)]
  rw [e2]
  refine sum_flat fun x hx => ?_
  have hx := mem_upI.mp hx
  rw [tRow_get (h - 1) x hx.1 (by omega), show (h : Int) - 1 - ((h - 1 : Nat) : Int) = 0 by omega]
theorem marks_op {c : Nat} {m : List D → Rs D} (s : Sp_marks_for c m) {w h : Nat} {p : List (List Int)} (g : Good w h p) {o : Option (List (List Int))} (q : MkOk w h o) : m [pic p, mkD o] = .ok (pic (mkV p o)) := by
  cases o with
  | none => exact marks_none s g
  | some t => exact marks_pic s g q
theorem ok_how_many {T : Tb} {fT fM fN c1 c2 : Nat} (hT : Sp_tails (T.fn fT)) (hM : Sp_marks_for c1 (T.fn fM)) (hN : Sp_need_picture c2 (T.fn fN)) : Sp_how_many (runD T 2 2 (B_how_many fT fM fN)) := by
  intro w h p o g q
  have qm := (mkV_marks g.toRect q).toRect
  have h2 := g.h2
  have w2 := g.w2
  have h1 := g.h1
  have e := hT w h _ qm h1 (by omega) (by omega)
  have tl := tTab_len w h (mkV p o) (h - 1)
  simp (disch := omega) [runD, B_how_many, need_pic hN g, marks_op hM g q, e, idx_li, tab_sum]
theorem nexts_flat {w : Nat} {t : List (List Int)} {k : Nat} {y x : Int} {n : Nat} {r : List Int} (e : (fwl w t (k + 1) y x)[n]? = some r) : ∃ r', r = x :: r' ∧ ((nexts w x).flatMap (fwl w t k (y + 1)))[n]? = some r' := by
  unfold fwl at e
  split at e
  · simp at e
  · rw [List.getElem?_map] at e
    cases z : ((nexts w x).flatMap (fwl w t k (y + 1)))[n]? with
    | none => rw [z] at e; cases e
    | some r' => rw [z] at e; cases e; exact ⟨r', rfl, rfl⟩
abbrev Sp_seam_at (c : Nat) (m : List D → Rs D) : Prop := ∀ (w h : Nat) p o d, Good w h p → MkOk w h o → d.canLay0 = true → m [pic p, d, mkD o] = match d with
  | .int i => if 0 ≤ i ∧ i < ((allV w h (mkV p o)).length : Int) then .ok (row (getI (allV w h (mkV p o)) i)) else .ex (c, none)
  | _ => .ex (c, none)
theorem ok_seam_at {T : Tb} {fX fI cN fT fM fN c1 c2 : Nat} (hX : Sp_next_ones (T.fn fX)) (hI : Sp_is_number (T.fn fI)) (hc : cN < T.cls.length) (hT : Sp_tails (T.fn fT)) (hM : Sp_marks_for c1 (T.fn fM)) (hN : Sp_need_picture c2 (T.fn fN)) : Sp_seam_at cN (runD T 3 8 (B_seam_at fX fI cN fT fM fN)) := by
  intro w h p o d g q hd
  have qm := (mkV_marks g.toRect q).toRect
  have em := marks_op hM g q
  generalize mkV p o = t at qm em ⊢
  have h2 := g.h2
  have w2 := g.w2
  have h1 := g.h1
  have w1 := g.w1
  have et := hT w h t qm h1 (by omega) (by omega)
  have tl := tTab_len w h t (h - 1)
  have ts := tab_sum (w := w) (t := t) h1
  have en := hI d 0 (((allV w h t).length : Int) - 1) hd
  have no : isNum d 0 (((allV w h t).length : Int) - 1) = false → runD T 3 8 (B_seam_at fX fI cN fT fM fN) [pic p, d, mkD o] = .ex (cN, none) := fun e => by
    rw [e] at en
    simp (disch := omega) [runD, B_seam_at, need_pic hN g, em, et, idx_li, ts, en, hc]
  cases d with
  | none => exact no rfl
  | bool => exact no rfl
  | str => exact no rfl
  | list => exact no rfl
  | tuple => exact no rfl
  | dict => exact no rfl
  | int i =>
    dsimp only
    by_cases ci : 0 ≤ i ∧ i < ((allV w h t).length : Int)
    · rw [if_pos ci]
      have yes : isNum (.int i) 0 (((allV w h t).length : Int) - 1) = true := by
        unfold isNum
        simp; omega
      rw [yes] at en
      have ef : (allV w h t)[i.toNat]? = some (getI (allV w h t) i) := by
        rw [getI_pos _ ci.1, List.getD_eq_getElem?_getD, List.getElem?_eq_getElem (by omega)]; rfl
      generalize getI (allV w h t) i = full at ef ⊢
      have ell : ∀ s : List Int, PyData.list (s.map .int) = li .int s := fun _ => rfl
      simp (disch := omega) [runD, B_seam_at, need_pic hN g, em, et, idx_li, ts, en]
      refine for_bkr (l := (upI 0 (tTab w h t (h - 1)).length).zip (tTab w h t (h - 1))) (h := pr .int (li .int)) (fun l ρ => ∃ z5 z6 z7 nn s, ρ = [.fz (pic p), .fz (.int nn), .fz (mkD o), .fz (li (li .int) (tTab w h t (h - 1))), .ow (s.map .int), z5, z6, z7] ∧ ((l = [] ∧ s = full) ∨ ∃ (k y : Nat) (r cs : List Int), l = (upI (y : Int) (k + 1)).zip (tTab w h t k) ∧ y + k + 1 = h ∧ s.length = y ∧ (cs = if y = 0 then upI 0 w else nexts w (getI s (-1))) ∧ 0 ≤ nn ∧ (cs.flatMap (fwl w t k (y : Int)))[nn.toNat]? = some r ∧ s ++ r = full))
        ⟨.un, .un, .un, i, [], rfl, .inr ⟨h - 1, 0, full, upI 0 w, by rw [tl]; rfl, by omega, rfl, rfl, ci.1, ef, rfl⟩⟩ ?_ ?_
      · rintro _ ⟨z5, z6, z7, nn, s, rfl, ⟨_, rfl⟩ | ⟨k, y, r, cs, hl, _⟩⟩
        · simp [ell]
        · rw [upI_succ] at hl
          cases k <;> cases hl
      · rintro a l _ ⟨z5, z6, z7, nn, s, rfl, ⟨hl, _⟩ | ⟨k, y, r, cs, hl, hk, hs, hcs, hn, hr, hfull⟩⟩
        · cases hl
        · refine .inl ?_
          have ha : a = ((y : Int), tRow w h t k) ∧ (k = 0 → l = []) ∧ ∀ k', k = k' + 1 → l = (upI ((y + 1 : Nat) : Int) (k' + 1)).zip (tTab w h t k') := by
            rw [upI_succ] at hl
            cases k with
            | zero => injection hl with e1 e2; exact ⟨e1, fun _ => e2, fun k' e => by omega⟩
            | succ k => injection hl with e1 e2; exact ⟨e1, fun e => by omega, fun k' e => by
                have : k = k' := by omega
                subst this
                rw [e2]; rfl⟩
          obtain ⟨rfl, hl2⟩ := ha
          have rl := tRow_len w h t k
          show Nxt _ _
          have rng : ∀ x ∈ cs, 0 ≤ x ∧ x < (w : Int) := by
            intro x hx
            rw [hcs] at hx
            by_cases c : y = 0
            · rw [if_pos c] at hx
              have := mem_upI.mp hx
              omega
            · rw [if_neg c] at hx
              exact (mem_nexts.mp hx).2
          have inner : ∀ yI : Int, yI = (y : Int) → Nxt (forD (stepS T (.nm 7) (.cons (.ite (.cmp .Lt (.var 1) (.idx (.var 6) (.var 7))) (.cons (.app 4 (.var 7) []) (.cons .brk .nil)) .nil) (.cons (.aug 1 .Sub (.idx (.var 6) (.var 7))) .nil))) (cs.map .int) [.fz (pic p), .fz (.int nn), .fz (mkD o), .fz (li (li .int) (tTab w h t (h - 1))), .ow (s.map .int), .fz (.int yI), .fz (li .int (tRow w h t k)), z7]) (fun ρ => ∃ z5 z6 z7 nn s, ρ = [.fz (pic p), .fz (.int nn), .fz (mkD o), .fz (li (li .int) (tTab w h t (h - 1))), .ow (s.map .int), z5, z6, z7] ∧ ((l = [] ∧ s = full) ∨ ∃ (k y : Nat) (r cs : List Int), l = (upI (y : Int) (k + 1)).zip (tTab w h t k) ∧ y + k + 1 = h ∧ s.length = y ∧ (cs = if y = 0 then upI 0 w else nexts w (getI s (-1))) ∧ 0 ≤ nn ∧ (cs.flatMap (fwl w t k (y : Int)))[nn.toNat]? = some r ∧ s ++ r = full)) := by
            intro yI hyI
            suffices hb : Nxt ((forD (stepS T (.nm 7) (.cons (.ite (.cmp .Lt (.var 1) (.idx (.var 6) (.var 7))) (.cons (.app 4 (.var 7) []) (.cons .brk .nil)) .nil) (.cons (.aug 1 .Sub (.idx (.var 6) (.var 7))) .nil))) (cs.map .int) [.fz (pic p), .fz (.int nn), .fz (mkD o), .fz (li (li .int) (tTab w h t (h - 1))), .ow (s.map .int), .fz (.int yI), .fz (li .int (tRow w h t k)), z7]).bind Rs.ok) _ by
              obtain ⟨ρ', e, r⟩ := hb
              exact ⟨ρ', (by
                cases z : forD (stepS T (.nm 7) (.cons (.ite (.cmp .Lt (.var 1) (.idx (.var 6) (.var 7))) (.cons (.app 4 (.var 7) []) (.cons .brk .nil)) .nil) (.cons (.aug 1 .Sub (.idx (.var 6) (.var 7))) .nil))) (cs.map .int) [.fz (pic p), .fz (.int nn), .fz (mkD o), .fz (li (li .int) (tTab w h t (h - 1))), .ow (s.map .int), .fz (.int yI), .fz (li .int (tRow w h t k)), z7] <;> rw [z] at e <;> exact e), r⟩
            refine for_remN (fun rest ρ => ∃ z7 nn, ρ = [.fz (pic p), .fz (.int nn), .fz (mkD o), .fz (li (li .int) (tTab w h t (h - 1))), .ow (s.map .int), .fz (.int yI), .fz (li .int (tRow w h t k)), z7] ∧ 0 ≤ nn ∧ (∀ x ∈ rest, 0 ≤ x ∧ x < (w : Int)) ∧ (rest.flatMap (fwl w t k (y : Int)))[nn.toNat]? = some r) ?_ ?_ cs _ ⟨z7, nn, rfl, hn, rng, hr⟩
            · rintro _ ⟨z7, nn, rfl, _, _, hr⟩
              simp at hr
            · rintro x rest _ ⟨z7, nn, rfl, hn, rng, hr⟩
              obtain ⟨x1, x2⟩ := rng x List.mem_cons_self
              have ex := tRow_get (w := w) (h := h) (t := t) k x x1 x2
              rw [show (h : Int) - 1 - (k : Nat) = (y : Int) by omega] at ex
              rw [List.flatMap_cons] at hr
              by_cases c : nn < ((fwl w t k (y : Int) x).length : Int)
              · refine .inr ⟨_, by simp (disch := (first | omega | (simp; omega))) [idx_li, ex, c, grdFew]; rfl, ?_⟩
                rw [List.getElem?_append_left (by omega)] at hr
                refine ⟨_, rfl, .fz (.int yI), .fz (li .int (tRow w h t k)), .fz (.int x), nn, s ++ [x], by simp, ?_⟩
                cases k with
                | zero =>
                  left
                  obtain ⟨r0, er⟩ := fwl_head (List.mem_of_getElem? hr)
                  have : r = [x] := by
                    have hm := List.mem_of_getElem? hr
                    unfold fwl at hm
                    split at hm
                    · cases hm
                    · exact List.mem_singleton.mp hm
                  rw [this] at hfull
                  exact ⟨hl2.1 rfl, hfull⟩
                | succ k =>
                  right
                  obtain ⟨r', er, er2⟩ := nexts_flat hr
                  refine ⟨k, y + 1, r', nexts w x, hl2.2 k rfl, by omega, by simp; omega, ?_, hn, er2, ?_⟩
                  · rw [if_neg (by omega), last_snoc]
                  · rw [← hfull, er, List.append_assoc]; rfl
              · refine .inl ⟨_, by simp (disch := omega) [idx_li, ex, c], .fz (.int x), nn - ((fwl w t k (y : Int) x).length : Int), rfl, by omega, fun z hz => rng z (List.mem_cons_of_mem _ hz), ?_⟩
                rw [List.getElem?_append_right (by omega)] at hr
                rw [← hr]
                congr 1
                omega
          by_cases c : y = 0
          · have c' : (y : Int) = 0 := by omega
            have ecs : cs = upI 0 w := by rw [hcs, if_pos c]
            have lr := lrg1 (j := (w : Int)) (by omega) (by omega)
            simp (disch := omega) [pr, c, rl, lr]
            obtain ⟨ρ', e, r⟩ := inner 0 c'.symm
            rw [ecs] at e
            rw [e]
            exact ⟨ρ', rfl, by simpa using r⟩
          · have c' : ¬ (y : Int) = 0 := by omega
            have ecs : cs = nexts w (getI s (-1)) := by rw [hcs, if_neg c]
            have nx := hX (getI s (-1)) w
            simp (disch := omega) [pr, c, rl, ell, idx_li, nx]
            obtain ⟨ρ', e, r⟩ := inner y rfl
            rw [ecs] at e
            rw [e]
            exact ⟨ρ', rfl, by simpa using r⟩
    · rw [if_neg ci]
      refine no ?_
      unfold isNum
      simp
      omega
abbrev Sp_number_of (m : List D → Rs D) : Prop := ∀ (w h : Nat) p o s, Good w h p → MkOk w h o → Way w h s → m [pic p, row s, mkD o] = .ok (if keptFree (mkV p o) 0 s = true then .int ((plc s (allV w h (mkV p o)) : Nat) : Int) else .none)
/-- what stands ahead of a way below its first cell -/
def rkT (w : Nat) (t : List (List Int)) : Nat → Int → List Int → Int
  | 0, _, _ => 0
  | _ + 1, _, [] => 0
  | _ + 1, _, [_] => 0
  | k + 1, y, x :: x2 :: l => (((nexts w x).filter fun z => decide (z < x2)).map fun z => ((fwl w t k (y + 1) z).length : Int)).sum + rkT w t k (y + 1) (x2 :: l)
theorem mem_fwl {w : Nat} {t : List (List Int)} {k : Nat} {y x : Int} {l : List Int} (hx : 0 ≤ x ∧ x < (w : Int)) (hl : l.length = k) (q : Sub w (x :: l)) (kf : keptFree t y (x :: l) = true) : x :: l ∈ fwl w t k y x := by
  rw [fwl_filter, List.mem_filter]
  exact ⟨(mem_wl hx).mpr ⟨l, rfl, hl, q⟩, kf⟩
theorem rk_eq {w : Nat} {t : List (List Int)} : ∀ (k : Nat) (y x : Int) (l : List Int), 0 ≤ x ∧ x < (w : Int) → l.length = k → Sub w (x :: l) → keptFree t y (x :: l) = true → (plc (x :: l) (fwl w t k y x) : Int) = rkT w t k y (x :: l)
  | 0, y, x, l, hx, hl, q, kf => by
    have : l = [] := List.length_eq_zero_iff.mp hl
    subst this
    have c : cell t x y ≠ 1 := by simpa [keptFree] using kf
    simp [fwl, c, rkT, plc]
  | k + 1, y, x, l, hx, hl, q, kf => by
    cases l with
    | nil => cases hl
    | cons x2 l =>
      have hx2 := q.next
      have kf2 : (!decide (cell t x y = 1) && keptFree t (y + 1) (x2 :: l)) = true := kf
      rw [Bool.and_eq_true, Bool.not_eq_true', decide_eq_false_iff_not] at kf2
      have hm := mem_fwl (t := t) (y := y + 1) (mem_nexts.mp hx2).2 (show l.length = k by simpa using hl) q.tail kf2.2
      unfold fwl
      rw [if_neg kf2.1]
      show (plc (x :: (x2 :: l)) (List.map (x :: ·) _) : Int) = _
      rw [plc_map (f := (x :: ·)) (fun a b e => by injection e), plc_flat (fun x s h => fwl_head h) hm (nexts_sorted w x) hx2, rk_eq k (y + 1) x2 l (mem_nexts.mp hx2).2 (by simpa using hl) q.tail kf2.2]; rfl
theorem drop_get {s r : List Int} {a : Int} {y : Nat} (h : s.drop y = a :: r) : getI s (y : Int) = a ∧ s.drop (y + 1) = r ∧ y < s.length := by
  have hy : y < s.length := by
    have := congrArg List.length h
    simp at this
    omega
  rw [List.drop_eq_getElem_cons hy] at h
  injection h with h1 h2
  exact ⟨by rw [getI_nat, List.getD_eq_getElem?_getD, List.getElem?_eq_getElem hy]; exact h1, h2, hy⟩
theorem upI_take (lo : Int) {n w : Nat} (h : n ≤ w) : (upI lo w).take n = upI lo n := by
  unfold upI
  rw [← List.map_take, List.take_range, Nat.min_eq_left h]
theorem upI_below {n w : Nat} (h : n ≤ w) : (upI 0 w).filter (fun z => decide (z < (n : Int))) = upI 0 n := by
  have e : upI 0 w = upI 0 n ++ upI (n : Int) (w - n) := by
    have : ∀ m : Nat, upI 0 (n + m) = upI 0 n ++ upI (n : Int) m := by
      intro m
      induction m with
      | zero => simp [upI]
      | succ m ih => rw [← Nat.add_assoc, upI_snoc, ih, upI_snoc, List.append_assoc]; congr 3; omega
    rw [← this (w - n), show n + (w - n) = w by omega]
  rw [e, List.filter_append]
  have e1 : (upI 0 n).filter (fun z => decide (z < (n : Int))) = upI 0 n := by
    rw [List.filter_eq_self]
    intro z hz
    have := mem_upI.mp hz
    simp; omega
  have e2 : (upI (n : Int) (w - n)).filter (fun z => decide (z < (n : Int))) = [] := by
    rw [List.filter_eq_nil_iff]
    intro z hz
    have := mem_upI.mp hz
    simp; omega
  rw [e1, e2, List.append_nil]
theorem row_map {l : List Int} {w : Nat} (h : l.length = w) : l = (upI 0 w).map fun x => getI l x := by
  refine List.ext_getElem? fun i => ?_
  by_cases hi : i < w
  · rw [List.getElem?_map]
    unfold upI
    rw [List.getElem?_map, List.getElem?_range hi]
    show _ = some (getI l (0 + (i : Int)))
    rw [Int.zero_add, getI_nat, List.getD_eq_getElem?_getD, List.getElem?_eq_getElem (by omega)]; rfl
  · rw [List.getElem?_eq_none (by omega), List.getElem?_eq_none (by simp; omega)]
theorem ok_number_of {T : Tb} {fX fT gK fS fM fN c1 c2 c3 : Nat} (hX : Sp_next_ones (T.fn fX)) (hT : Sp_tails (T.fn fT)) (hK : T.gl gK = .ok (.int 1)) (hS : Sp_need_seam c1 (T.fn fS)) (hM : Sp_marks_for c2 (T.fn fM)) (hN : Sp_need_picture c3 (T.fn fN)) : Sp_number_of (runD T 3 8 (B_number_of_k20 fX fT gK fS fM fN)) := by
  intro w h p o s g q qs
  have qm := (mkV_marks g.toRect q).toRect
  have em := marks_op hM g q
  generalize mkV p o = t at qm em ⊢
  have h2 := g.h2
  have w2 := g.w2
  have h1 := g.h1
  have w1 := g.w1
  have th := qm.hh
  have sl := qs.len
  have et := hT w h t qm h1 (by omega) (by omega)
  have tl := tTab_len w h t (h - 1)
  have tg := tTab_get w h t (h - 1)
  have t0 : getI (tTab w h t (h - 1)) 0 = tRow w h t (h - 1) := tg 0 (by omega)
  have sg := sign1 qm qs
  simp (disch := omega) [runD, B_number_of_k20, need_pic hN g, em, need_way hS g qs]
  rw [cmpr_fl .int (fun q : List Int × Int => q.2) (fun q => decide (getI q.1 q.2 = 1)) rfl (by simp; omega)]
  rotate_left
  · rintro ⟨r, x⟩ hm
    have hx := qs.rng x (List.of_mem_zip hm).2
    have hr := qm.ww r (List.of_mem_zip hm).1
    have ix : idxD (row r) (.int x) = .ok (.int (getI r x)) := idx_tu _ _ (by omega) (by omega)
    by_cases c : getI r x = 1 <;> simp [pr, ix, hK, c]
  by_cases kf : keptFree t 0 s = true
  · have ne : ((t.zip s).filter fun q => decide (getI q.1 q.2 = 1)) = [] := by
      have := sg.mpr kf
      unfold signV at this
      exact List.length_eq_zero_iff.mp (by omega)
    obtain ⟨s0, sr, rfl⟩ : ∃ s0 sr, s = s0 :: sr := by
      cases s with
      | nil => simp at sl; omega
      | cons a r => exact ⟨a, r, rfl⟩
    have hs0 := qs.rng s0 List.mem_cons_self
    have e0 : getI (s0 :: sr) 0 = s0 := getI_zero _ _
    have ec : cutD (tRow w h t (h - 1)) none (some s0) = (tRow w h t (h - 1)).take s0.toNat := cut_to _ hs0.1
    have es : ((tRow w h t (h - 1)).take s0.toNat).sum = (((upI 0 w).filter fun z => decide (z < s0)).map fun z => ((fwl w t (h - 1) 0 z).length : Int)).sum := by
      have : s0 = ((s0.toNat : Nat) : Int) := by omega
      rw [row_map (tRow_len w h t (h - 1)), ← List.map_take, upI_take 0 (by omega : s0.toNat ≤ w)]
      conv => rhs; rw [this]
      rw [upI_below (by omega)]
      congr 1
      apply List.map_congr_left
      intro z hz
      have hz := mem_upI.mp hz
      rw [tRow_get (h - 1) z hz.1 (by omega), show (h : Int) - 1 - ((h - 1 : Nat) : Int) = 0 by omega]
    have sub := qs.sub
    have hm0 := mem_fwl (t := t) (k := h - 1) (y := 0) hs0 (by simp at sl; omega) sub kf
    have ep : (plc (s0 :: sr) (allV w h t) : Int) = (((upI 0 w).filter fun z => decide (z < s0)).map fun z => ((fwl w t (h - 1) 0 z).length : Int)).sum + rkT w t (h - 1) 0 (s0 :: sr) := by
      unfold allV
      rw [plc_flat (fun x s h => fwl_head h) hm0 (upI_sorted w 0) (mem_upI.mpr (by omega)), rk_eq (h - 1) 0 s0 sr hs0 (by simp at sl; omega) sub kf]
    have r2 : itD .rng [.int 1, .int ((h : Int))] = .ok ((upI 1 (h - 1)).map PyData.int) := by
      rw [it_rng2 (by omega) (by omega) (by omega) (by omega) (by omega)]
      congr 3
      omega
    have slI : ((s0 :: sr).length : Int) = h := by omega
    have lr := tRow_len w h t (h - 1)
    simp (disch := omega) only [ne, kf, if_true]
    simp (disch := omega) [et, idx_li, t0, idx_tu, e0, ec, ← List.length_cons, -List.length_cons, slI, r2, ep, es]
    generalize (((upI 0 w).filter fun z => decide (z < s0)).map fun z => ((fwl w t (h - 1) 0 z).length : Int)).sum = c0
    generalize hss : s0 :: sr = ss at *
    have sd : ss.drop 0 = s0 :: sr := by rw [← hss]; rfl
    have ell : ∀ s : List Int, PyData.list (s.map .int) = li .int s := fun _ => rfl
    refine for_bkr (fun l ρ => ∃ (k y : Nat) (a : Int) (r : List Int) (acc : Int) (z5 : Sl), l = upI ((y + 1 : Nat) : Int) k ∧ y + k + 1 = h ∧ ss.drop y = a :: r ∧ ρ = [.fz (pic p), .fz (row ss), .fz (pic t), .fz (li (li .int) (tTab w h t (h - 1))), .fz (.int acc), z5, .un, .un] ∧ acc + rkT w t k (y : Int) (a :: r) = c0 + rkT w t (h - 1) 0 ss) ⟨h - 1, 0, s0, sr, c0, .un, rfl, by omega, sd, rfl, by rw [← hss]; rfl⟩ ?_ ?_
    · rintro _ ⟨k, y, a, r, acc, z5, hl, hk, hd, rfl, he⟩
      have : k = 0 := by
        cases k with
        | zero => rfl
        | succ k => rw [upI_succ] at hl; cases hl
      subst this
      have : rkT w t 0 (y : Int) (a :: r) = 0 := by unfold rkT; rfl
      rw [this] at he
      simp [← he]
    · rintro yv l _ ⟨k, y, a, r, acc, z5, hl, hk, hd, rfl, he⟩
      cases k with
      | zero => cases hl
      | succ k =>
        rw [upI_succ] at hl
        injection hl with hy hl
        subst hy
        obtain ⟨ga, hd2, hlt⟩ := drop_get hd
        cases r with
        | nil =>
          have := congrArg List.length hd2
          simp at this
          omega
        | cons b r =>
          obtain ⟨gb, hd3, _⟩ := drop_get hd2
          have nx := hX a w
          have nl : (nexts w a).length ≤ 3 := by
            unfold nexts
            exact Nat.le_trans (List.length_filter_le _ _) (Nat.le_refl _)
          have ty := tg (y + 1) (by omega)
          rw [show h - 1 - (y + 1) = k by omega] at ty
          have lk := tRow_len w h t k
          refine .inl ⟨_, ?_, k, y + 1, b, r, acc + (((nexts w a).filter fun z => decide (z < b)).map fun z => getI (tRow w h t k) z).sum, .fz (.int ((y + 1 : Nat) : Int)), hl, by omega, hd2, rfl, ?_⟩
          · have sub1 : ((y + 1 : Nat) : Int) - 1 = (y : Int) := by omega
            simp (disch := omega) [-Int.natCast_add, sub1, idx_tu, idx_li, ga, t0, lr, nx]
            rw [cmpr_fl .int (fun z => getI (tRow w h t k) z) (fun z => decide (z < b)) rfl (by omega)]
            · simp [binIntD]
            · intro z hz
              have hz := mem_nexts.mp hz
              by_cases c : z < b <;> simp (disch := omega) [-Int.natCast_add, idx_tu, idx_li, gb, ty, c]
          · rw [← he]
            have e1 : rkT w t (k + 1) (y : Int) (a :: b :: r) = (((nexts w a).filter fun z => decide (z < b)).map fun z => ((fwl w t k ((y : Int) + 1) z).length : Int)).sum + rkT w t k ((y : Int) + 1) (b :: r) := rfl
            rw [e1]
            have e2 : (((nexts w a).filter fun z => decide (z < b)).map fun z => getI (tRow w h t k) z) = (((nexts w a).filter fun z => decide (z < b)).map fun z => ((fwl w t k ((y : Int) + 1) z).length : Int)) := by
              apply List.map_congr_left
              intro z hz
              have hz := mem_nexts.mp (List.mem_filter.mp hz).1
              rw [tRow_get k z hz.2.1 hz.2.2, show (h : Int) - 1 - (k : Nat) = (y : Int) + 1 by omega]
            rw [e2, show (((y + 1 : Nat) : Int)) = (y : Int) + 1 by omega]
            omega
  · have ne : ((t.zip s).filter fun q => decide (getI q.1 q.2 = 1)) ≠ [] := fun e => kf (sg.mp (by unfold signV; rw [e]; rfl))
    simp [ne, kf]
end Rf
set_option Elab.async false
set_option linter.all false
set_option autoImplicit false
set_option maxHeartbeats 2000000
set_option maxRecDepth 100000
namespace Rf
open PySem L2
/-! ### sorted -/
theorem sort_map {α : Type} {n : Nat} {f : α → D} {lt : α → α → Bool} (e : Enc n f) (hn : n ≤ 60) (al : ∀ a b, PySem.W.alike (f a) (f b) = true) (hi : ∀ a, isNo (f a) = false) (sr : (∀ a, ∃ x xs, f a = .tuple (x :: xs)) ∨ (∀ a, ∀ xs, f a ≠ .tuple xs)) (h : ∀ a b, PySem.W.dataLt (f a) (f b) = lt a b) (l : List α) : bclD .sorted [li f l] = .ok (li f (l.mergeSort fun a b => !lt b a)) := by
  show grd (alkB (l.map f) && (srtB (l.map f) && Nat.ble (PyData.depthAll (l.map f)) 60)) (Rs.ok (PyData.list ((l.map f).mergeSort fun a b => !PySem.W.dataLt b a))) = _
  have h1 := alk_map al hi l
  have h2 : srtB (l.map f) = true := by
    unfold srtB
    rw [Bool.or_eq_true]
    rcases sr with sr | sr
    · left
      rw [List.all_map, List.all_eq_true]
      intro a _
      obtain ⟨x, xs, ea⟩ := sr a
      show (match f a with | .tuple (_ :: _) => true | _ => false) = true
      rw [ea]
    · right
      rw [List.all_map, List.all_eq_true]
      intro a _
      have h3 := sr a
      have h4 := hi a
      show (match f a with | .none => false | .tuple _ => false | _ => true) = true
      cases z : f a with
      | none => rw [z] at h4; cases h4
      | tuple xs => exact absurd z (h3 xs)
      | _ => rfl
  have h3 : Nat.ble (PyData.depthAll (l.map f)) 60 = true := by
    rw [Nat.ble_eq]
    exact Nat.le_trans (depAll_map e l) hn
  rw [h1, h2, h3]
  show Rs.ok _ = _
  congr 1
  unfold li
  congr 1
  rw [List.map_mergeSort (r := fun a b => !lt b a) (s := fun a b => !PySem.W.dataLt b a)]
  intro a _ b _
  rw [h b a]
theorem sort_ints (l : List Int) : bclD .sorted [li .int l] = .ok (li .int (l.mergeSort fun a b => !ltI b a)) :=
  sort_map enc_int (by decide) alike_int (fun _ => rfl) (.inr fun a xs e => by cases e) dataLt_intI l
theorem mem_sort {α : Type} {le : α → α → Bool} {l : List α} {x : α} (h : x ∈ l.mergeSort le) : x ∈ l := (List.mergeSort_perm l le).mem_iff.mp h
/-! ### rows of whole numbers, one not behind the other -/
theorem lex_step (e r : Nat → Bool) (z : Bool) (i n : Nat) : Ob.lexAt e r z i (n+1) = (if e i = true then Ob.lexAt e r z (i+1) n else r i) := rfl
theorem leL_of {a b : List Int} (h : a = b ∨ a < b) : leL a b = true := by
  unfold leL
  have key : ∀ (n i : Nat), i + n = min a.length b.length → (a.drop i = b.drop i ∨ a.drop i < b.drop i) → Ob.lexAt (fun j => decide (a.getD j 0 = b.getD j 0)) (fun j => decide (a.getD j 0 ≤ b.getD j 0)) (decide (a.length ≤ b.length)) i n = true := by
    intro n
    induction n with
    | zero =>
      intro i hi hd
      show decide (a.length ≤ b.length) = true
      rw [decide_eq_true_eq]
      by_cases c : a.length ≤ b.length
      · exact c
      · have hb : b.drop i = [] := by rw [List.drop_eq_nil_iff]; omega
        rw [hb] at hd
        rcases hd with hd | hd
        · rw [List.drop_eq_nil_iff] at hd; omega
        · exact absurd hd (List.not_lt_nil _)
    | succ n ih =>
      intro i hi hd
      have ha : i < a.length := by omega
      have hb : i < b.length := by omega
      rw [lex_step]
      rw [List.drop_eq_getElem_cons ha, List.drop_eq_getElem_cons hb] at hd
      have ga : a.getD i 0 = a[i] := by rw [List.getD_eq_getElem?_getD, List.getElem?_eq_getElem ha]; rfl
      have gb : b.getD i 0 = b[i] := by rw [List.getD_eq_getElem?_getD, List.getElem?_eq_getElem hb]; rfl
      rw [ga, gb]
      by_cases c : a[i] = b[i]
      · rw [if_pos (by simpa using c)]
        refine ih (i + 1) (by omega) ?_
        rcases hd with hd | hd
        · injection hd with _ h2; exact .inl h2
        · rcases List.cons_lt_cons_iff.mp hd with h2 | ⟨_, h2⟩
          · omega
          · exact .inr h2
      · rw [if_neg (by simpa using c), decide_eq_true_eq]
        rcases hd with hd | hd
        · injection hd with h2 _; exact absurd h2 c
        · rcases List.cons_lt_cons_iff.mp hd with h2 | ⟨h2, _⟩
          · omega
          · exact absurd h2 c
  exact key _ 0 (by omega) (by simpa using h)
theorem ints_row (l : List Int) : intsD (l.map PyData.int) = .ok l := by
  induction l with
  | nil => rfl
  | cons a l ih => show (intsD (l.map PyData.int)).map (a :: ·) = _; rw [ih]; rfl
theorem le_rows (a b : List Int) : cmpB .LtE (row a) (row b) = .ok (leL a b) := by
  show (intsD (a.map PyData.int)).bind (fun x => (intsD (b.map PyData.int)).map fun y => leL x y) = _
  rw [ints_row, ints_row]; rfl
/-! ### as many -/
theorem sorted_nodup {l : List (List Int)} (h : l.Pairwise (· < ·)) : l.Nodup := h.imp fun {a b} q e => by subst e; exact List.lt_irrefl _ q
theorem map_nodup {l : List (List Int)} {f : List Int → List Int} (hf : ∀ a ∈ l, ∀ b ∈ l, f a = f b → a = b) (h : l.Nodup) : (l.map f).Nodup := by
  induction l with
  | nil => exact List.nodup_nil
  | cons a l ih =>
    rw [List.nodup_cons] at h
    rw [List.map_cons, List.nodup_cons]
    refine ⟨fun hm => ?_, ih (fun x hx y hy => hf x (List.mem_cons_of_mem _ hx) y (List.mem_cons_of_mem _ hy)) h.2⟩
    obtain ⟨b, hb, e⟩ := List.mem_map.mp hm
    have := hf b (List.mem_cons_of_mem _ hb) a List.mem_cons_self e
    exact h.1 (by rwa [this] at hb)
/-- a picture turned about has as many seams -/
theorem allV_turned {w h : Nat} {t t' : List (List Int)} {f : List Int → List Int} (h1 : 1 ≤ h) (hf : ∀ s, f (f s) = s) (hw : ∀ s, Way w h s → Way w h (f s)) (hk : ∀ s, Way w h s → keptFree t' 0 (f s) = keptFree t 0 s) : (allV w h t').length = (allV w h t).length := by
  have inj : ∀ a b, f a = f b → a = b := fun a b e => by rw [← hf a, ← hf b, e]
  have p : (allV w h t').Perm ((allV w h t).map f) := by
    rw [List.perm_ext_iff_of_nodup (sorted_nodup (allV_sorted w h t')) (map_nodup (fun a _ b _ => inj a b) (sorted_nodup (allV_sorted w h t)))]
    intro s
    rw [List.mem_map, mem_allV h1]
    constructor
    · rintro ⟨q, k⟩
      refine ⟨f s, (mem_allV h1).mpr ⟨hw s q, ?_⟩, hf s⟩
      rw [← hk (f s) (hw s q), hf s]; exact k
    · rintro ⟨s0, m, rfl⟩
      obtain ⟨q, k⟩ := (mem_allV h1).mp m
      exact ⟨hw s0 q, by rw [hk s0 q]; exact k⟩
  rw [p.length_eq, List.length_map]
theorem allV_mir {w h : Nat} {t : List (List Int)} (g : Rect w h t) (h1 : 1 ≤ h) : (allV w h (t.map List.reverse)).length = (allV w h t).length :=
  allV_turned (f := fun s => s.map fun x => (w : Int) - 1 - x) h1 (fun s => mir_mir) (fun s q => way_mir q) fun s q => kept_mir g s 0 (by omega) (by have := q.len; omega) q.rng
theorem kept_flip {w h : Nat} {t : List (List Int)} (g : Rect w h t) {s : List Int} (q : Way w h s) : keptFree t.reverse 0 s.reverse = keptFree t 0 s := by
  have hl := q.len
  have th := g.hh
  have one : ∀ (t : List (List Int)) (s : List Int), Rect w h t → s.length = h → keptFree t 0 s = true → keptFree t.reverse 0 s.reverse = true := fun t s g hl k => by
    have th := g.hh
    rw [kept_iff] at k ⊢
    intro j hj hc
    rw [List.length_reverse] at hj
    refine k (h - 1 - j) (by omega) ?_
    have e1 : getI s.reverse (j : Int) = getI s (((h - 1 - j : Nat)) : Int) := by
      have := getI_rev (l := s) (i := (((h - 1 - j : Nat)) : Int)) (by omega) (by omega)
      rw [← this]
      congr 1
      omega
    have e2 : getI t.reverse (0 + (j : Int)) = getI t (0 + (((h - 1 - j : Nat)) : Int)) := by
      have := getI_rev (l := t) (i := (0 + ((h - 1 - j : Nat)) : Int)) (by omega) (by omega)
      rw [← this]
      congr 1
      omega
    show getI (getI t _) _ = 1
    have hc : getI (getI t.reverse (0 + (j : Int))) (getI s.reverse (j : Int)) = 1 := hc
    rwa [e1, e2] at hc
  cases c : keptFree t 0 s with
  | true => exact one t s g hl c
  | false =>
    cases c2 : keptFree t.reverse 0 s.reverse with
    | false => rfl
    | true =>
      have := one t.reverse s.reverse (rect_flip g) (by rw [List.length_reverse, hl]) c2
      rw [List.reverse_reverse, List.reverse_reverse, c] at this
      cases this
theorem allV_flip {w h : Nat} {t : List (List Int)} (g : Rect w h t) (h1 : 1 ≤ h) : (allV w h t.reverse).length = (allV w h t).length :=
  allV_turned (f := List.reverse) h1 (fun s => List.reverse_reverse s) (fun s q => way_flip q) fun s q => kept_flip g q
theorem allV_le {w h : Nat} {t t' : List (List Int)} (H : ∀ s, Way w h s → keptFree t' 0 s = true → keptFree t 0 s = true) (h1 : 1 ≤ h) : (allV w h t').length ≤ (allV w h t).length := by
  rw [allV_filter, allV_filter, ← List.countP_eq_length_filter, ← List.countP_eq_length_filter]
  exact List.countP_mono_left fun s hs k => H s (by have := mem_waysV.mp hs; rwa [show h - 1 + 1 = h by omega] at this) k
theorem sorted_lt {l : List (List Int)} (h : l.Pairwise (· < ·)) {i j : Int} (i1 : 0 ≤ i) (i2 : i < (l.length : Int)) (j1 : 0 ≤ j) (j2 : j < (l.length : Int)) : (getI l i < getI l j) ↔ i < j := by
  rw [List.pairwise_iff_getElem] at h
  have gi : getI l i = l[i.toNat]'(by omega) := by rw [getI_pos _ i1, List.getD_eq_getElem?_getD, List.getElem?_eq_getElem (by omega)]; rfl
  have gj : getI l j = l[j.toNat]'(by omega) := by rw [getI_pos _ j1, List.getD_eq_getElem?_getD, List.getElem?_eq_getElem (by omega)]; rfl
  constructor
  · intro q
    by_cases c : i < j
    · exact c
    · exfalso
      by_cases e : i = j
      · rw [e] at q; exact List.lt_irrefl _ q
      · have := h j.toNat i.toNat (by omega) (by omega) (by omega)
        rw [← gi, ← gj] at this
        exact List.lt_asymm q this
  · intro c
    have := h i.toNat j.toNat (by omega) (by omega) (by omega)
    rwa [← gi, ← gj] at this
/-! ### parts of a body -/
def Ss.hd : Ss → S
  | .cons s _ => s
  | .nil => .pass
def S.fb : S → Ss
  | .forl _ _ _ b _ => b
  | .whl _ _ b => b
  | _ => .nil
end Rf
set_option Elab.async false
set_option linter.all false
set_option autoImplicit false
set_option maxHeartbeats 2000000
set_option maxRecDepth 100000
namespace Rf
open PySem L2
/-! ### how often each cell stands there -/
theorem mem_insU' {x z : Int} : ∀ {l : List Int}, z ∈ insU x l ↔ z = x ∨ z ∈ l := mem_insU
theorem len_sub {α : Type} [BEq α] [LawfulBEq α] : ∀ {l m : List α}, l.Nodup → (∀ z ∈ l, z ∈ m) → l.length ≤ m.length
  | [], _, _, _ => Nat.zero_le _
  | a :: l, m, hd, hs => by
    obtain ⟨h1, h2⟩ := List.nodup_cons.mp hd
    have ha := hs a List.mem_cons_self
    have := len_sub (l := l) (m := m.erase a) h2 fun z hz => by
      rw [List.mem_erase_of_ne (by rintro rfl; exact h1 hz)]
      exact hs z (List.mem_cons_of_mem _ hz)
    rw [List.length_erase_of_mem ha] at this
    have : 0 < m.length := List.length_pos_of_mem ha
    rw [List.length_cons]; omega
def countsV (xs : List Int) : List (Int × Int) := (sortU xs).map fun c => (c, (xs.count c : Nat))
theorem count_ints (xs : List Int) (c : Int) : metD .count (li .int xs) [.int c] = .ok (.int (xs.count c : Nat)) := by
  show countD (.list (xs.map .int)) [.int c] = _
  unfold countD
  dsimp only
  rw [show SeqAt.shaped (PyData.list (xs.map PyData.int)) = true from shaped_enc enc_int.li (by decide) xs, shaped_enc enc_int (by decide) c]
  show Rs.ok _ = _
  rw [List.countP_map]
  have e : ((fun y => PyData.eqv y (.int c)) ∘ PyData.int) = fun y => y == c := by
    funext y
    show PyData.eqv (.int y) (.int c) = (y == c)
    rw [Bool.eq_iff_iff, enc_int.eqv, beq_iff_eq]
  rw [e]; rfl
theorem sortU_small {n : Nat} {xs : List Int} (h : ∀ c ∈ xs, 0 ≤ c ∧ c < (n : Int)) : (sortU xs).length ≤ n := by
  have hp : (sortU xs).Pairwise (· < ·) := sortU_pw xs
  have hs : ∀ k ∈ (sortU xs).map Int.toNat, k ∈ List.range n := by
    intro k hk
    obtain ⟨z, hz, rfl⟩ := List.mem_map.mp hk
    have := h z (mem_sortU.mp hz)
    rw [List.mem_range]; omega
  have hd : ((sortU xs).map Int.toNat).Nodup := by
    rw [List.Nodup, List.pairwise_map]
    refine List.Pairwise.imp_of_mem ?_ hp
    intro a b ha hb hab
    have := h a (mem_sortU.mp ha)
    omega
  have := len_sub hd hs
  simpa using this
theorem sortU_le (xs : List Int) : (sortU xs).length ≤ xs.length := by
  have hp : (sortU xs).Pairwise (· < ·) := sortU_pw xs
  have hd : (sortU xs).Nodup := hp.imp fun h => by omega
  exact len_sub hd fun z hz => mem_sortU.mp hz
theorem sortU_ext {xs ys : List Int} (h : ∀ z, z ∈ xs ↔ z ∈ ys) : sortU xs = sortU ys := by
  have key : ∀ (a b : List Int), a.Pairwise (· < ·) → b.Pairwise (· < ·) → (∀ k, k ∈ a ↔ k ∈ b) → a = b := by
    intro a
    induction a with
    | nil =>
      intro b _ _ hh
      cases b with
      | nil => rfl
      | cons x b => exact absurd ((hh x).mpr List.mem_cons_self) (by simp)
    | cons x a ih =>
      intro b ha hb hh
      cases b with
      | nil => exact absurd ((hh x).mp List.mem_cons_self) (by simp)
      | cons y b =>
        have ha' := List.pairwise_cons.mp ha
        have hb' := List.pairwise_cons.mp hb
        have exy : x = y := by
          rcases List.mem_cons.mp ((hh x).mp List.mem_cons_self) with e | e
          · exact e
          · rcases List.mem_cons.mp ((hh y).mpr List.mem_cons_self) with e2 | e2
            · exact e2.symm
            · have := ha'.1 y e2; have := hb'.1 x e; omega
        subst exy
        congr 1
        refine ih b ha'.2 hb'.2 fun k => ⟨fun hk => ?_, fun hk => ?_⟩
        · rcases List.mem_cons.mp ((hh k).mp (List.mem_cons_of_mem _ hk)) with e | e
          · have := ha'.1 k hk; omega
          · exact e
        · rcases List.mem_cons.mp ((hh k).mpr (List.mem_cons_of_mem _ hk)) with e | e
          · have := hb'.1 k hk; omega
          · exact e
  exact key _ _ (sortU_pw _) (sortU_pw _) fun k => by rw [mem_sortU, mem_sortU, h]
theorem counts_perm {xs ys : List Int} (h : xs.Perm ys) : countsV xs = countsV ys := by
  unfold countsV
  rw [sortU_ext fun z => h.mem_iff]
  apply List.map_congr_left
  intro c _
  rw [h.count_eq]
theorem sum_count_nodup (f : Int → Int) : ∀ (xs l : List Int), l.Nodup → (∀ z ∈ xs, z ∈ l) → (l.map fun c => f c * (xs.count c : Nat)).sum = (xs.map f).sum
  | [], l, _, _ => by
    have : ∀ l : List Int, (l.map fun c => f c * (([] : List Int).count c : Nat)).sum = 0 := by
      intro l
      induction l with
      | nil => rfl
      | cons a l ih => rw [List.map_cons, List.sum_cons, ih]; simp
    exact this l
  | x :: xs, l, hd, hm => by
    have ih := sum_count_nodup f xs l hd fun z hz => hm z (List.mem_cons_of_mem _ hz)
    rw [List.map_cons, List.sum_cons, ← ih]
    have hx := hm x List.mem_cons_self
    clear ih hm
    induction l with
    | nil => cases hx
    | cons a l ih2 =>
      obtain ⟨h1, h2⟩ := List.nodup_cons.mp hd
      simp only [List.map_cons, List.sum_cons, List.count_cons]
      by_cases c : x = a
      · subst c
        have e : (l.map fun c => f c * ((xs.count c + if (x == c) = true then 1 else 0 : Nat) : Int)) = l.map fun c => f c * (xs.count c : Nat) := by
          apply List.map_congr_left
          intro z hz
          have : (x == z) = false := by
            rw [beq_eq_false_iff_ne]; rintro rfl; exact h1 hz
          rw [this]; rfl
        rw [e]
        simp [Int.mul_add]
        omega
      · have hl : x ∈ l := by
          rcases List.mem_cons.mp hx with e | e
          · exact absurd e c
          · exact e
        have := ih2 h2 hl
        simp only [List.count_cons] at this
        rw [this]
        have : (x == a) = false := by rw [beq_eq_false_iff_ne]; exact c
        rw [this]
        simp
        omega
theorem counts_len (xs : List Int) : ((countsV xs).map fun q => q.2).sum = (xs.length : Nat) := by
  unfold countsV
  have hd : (sortU xs).Nodup := (sortU_pw xs).imp fun h => by omega
  have := sum_count_nodup (fun _ => 1) xs (sortU xs) hd fun z hz => mem_sortU.mpr hz
  rw [List.map_map]
  simp only [Int.one_mul] at this
  rw [show ((fun q : Int × Int => q.2) ∘ fun c => (c, ((xs.count c : Nat) : Int))) = fun c => ((xs.count c : Nat) : Int) from rfl, this]
  clear this
  induction xs with
  | nil => rfl
  | cons a l ih => rw [List.map_cons, List.sum_cons, ih (sortU_pw l |>.imp fun h => by omega), List.length_cons]; omega
theorem counts_sum (xs : List Int) : ((countsV xs).map fun q => q.1 * q.2).sum = xs.sum := by
  unfold countsV
  have hd : (sortU xs).Nodup := (sortU_pw xs).imp fun h => by omega
  have := sum_count_nodup (fun c => c) xs (sortU xs) hd fun z hz => mem_sortU.mpr hz
  rw [List.map_map]
  rw [show ((fun q : Int × Int => q.1 * q.2) ∘ fun c => (c, ((xs.count c : Nat) : Int))) = fun c => c * ((xs.count c : Nat) : Int) from rfl, this]
  simp
theorem counts_twice (xs : List Int) : countsV (xs ++ xs) = (countsV xs).map fun q => (q.1, 2 * q.2) := by
  unfold countsV
  rw [sortU_ext (ys := xs) fun z => by simp, List.map_map]
  apply List.map_congr_left
  intro c _
  rw [List.count_append]
  show (c, _) = (c, _)
  rw [show (((xs.count c + xs.count c : Nat)) : Int) = 2 * ((xs.count c : Nat) : Int) by omega]
def flatV (p : List (List Int)) : List Int := p.flatMap fun r => r
theorem bright_flat (p : List (List Int)) : brightV p = (flatV p).sum := rfl
abbrev Sp_counted (m : List D → Rs D) : Prop := ∀ (w h : Nat) p, Good w h p → (sortU (flatV p)).length ≤ 63 → m [pic p] = .ok (li (pr .int .int) (countsV (flatV p)))
theorem ok_counted {T : Tb} {fN c : Nat} (hN : Sp_need_picture c (T.fn fN)) : Sp_counted (runD T 1 4 (B_counted fN)) := by
  intro w h p g hc
  simp [runD, B_counted, need_pic hN g]
  rw [flat_cmpr (T := T) g.toRect g.w2 (by have := g.h2; omega)]
  · have e : ∀ F : D → Rs (Option D), (∀ z : Int, F (.int z) = .ok (some (.int z))) → sscR false F ((flatV p).map .int) = .ok (li .int (sortU (flatV p))) := by
      intro F hF
      unfold sscR
      rw [gather_map (h := PyData.int) .int (fun z : Int => z) fun a _ => hF a, List.map_id', Rs.bind_ok, show intsD ((flatV p).map PyData.int) = .ok (flatV p) from ints_row _]
      show grd (Nat.ble (sortU (flatV p)).length 63) _ = _
      rw [Nat.ble_eq.mpr hc]; rfl
    simp [-List.flatMap_id', -List.flatMap_id]
    rw [show (p.flatMap fun r => r) = flatV p from rfl, e _ fun z => by simp]
    simp
    rw [cmpr_li (pr .int .int) (fun c : Int => (c, (((flatV p).count c : Nat) : Int))) rfl (by omega)]
    · rfl
    · intro z _
      simp [count_ints, pr, show metOk .count (li PyData.int (flatV p)) = true from rfl]
  · intro r
    simp
    exact (gather_map (h := PyData.int) .int (fun z : Int => z) fun a _ => by simp).trans (by simp)
end Rf
set_option Elab.async false
set_option linter.all false
set_option autoImplicit false
set_option maxHeartbeats 4000000
set_option maxRecDepth 100000
namespace Rf
open PySem L2
/-! ### turning keeps what stands there -/
theorem list_getI {α : Type} [Inhabited α] {a b : List α} (hl : a.length = b.length) (h : ∀ i : Int, 0 ≤ i → i < (a.length : Int) → getI a i = getI b i) : a = b := by
  apply List.ext_getElem hl
  intro i h1 h2
  have e := h (i : Int) (by omega) (by omega)
  rw [getI_nat, getI_nat, List.getD_eq_getElem?_getD, List.getD_eq_getElem?_getD, List.getElem?_eq_getElem h1, List.getElem?_eq_getElem h2] at e
  exact e
theorem rect_ext {w h : Nat} {a b : List (List Int)} (ga : Rect w h a) (gb : Rect w h b) (e : ∀ x y : Int, 0 ≤ x → x < (w : Int) → 0 ≤ y → y < (h : Int) → cell a x y = cell b x y) : a = b := by
  have ha := ga.hh
  have hb := gb.hh
  refine list_getI (by omega) fun y y1 y2 => ?_
  have ra := ga.row (y := y) y1 (by omega)
  have rb := gb.row (y := y) y1 (by omega)
  exact list_getI (by omega) fun x x1 x2 => e x y x1 (by omega) y1 (by omega)
theorem swap_rect {w h : Nat} {p : List (List Int)} (g : Rect w h p) (h1 : 1 ≤ h) : Rect h w (swapV p) := by
  have r0 := g.row (y := 0) (by omega) (by omega)
  refine ⟨by unfold swapV; rw [List.length_map, r0]; simp, fun r hr => ?_⟩
  obtain ⟨x, _, rfl⟩ := List.mem_map.mp hr
  rw [List.length_map, g.hh]
theorem cell_swap {w h : Nat} {p : List (List Int)} (g : Rect w h p) {x y : Int} (h1 : 0 ≤ x) (h2 : x < (h : Int)) (h3 : 0 ≤ y) (h4 : y < (w : Int)) : cell (swapV p) x y = cell p y x := by
  have r0 := g.row (y := 0) (by omega) (by omega)
  have ph := g.hh
  unfold cell swapV
  rw [r0, getI_map _ _ (by simp; omega) (by simp; omega), getI_up h3 h4, getI_map _ _ (by omega) (by omega)]
theorem swap_swap {w h : Nat} {p : List (List Int)} (g : Rect w h p) (h1 : 1 ≤ h) (w1 : 1 ≤ w) : swapV (swapV p) = p := by
  have g1 := swap_rect g h1
  refine rect_ext (swap_rect g1 w1) g fun x y x1 x2 y1 y2 => ?_
  rw [cell_swap g1 x1 x2 y1 y2, cell_swap g y1 y2 x1 x2]
theorem swap_good {w h : Nat} {p : List (List Int)} (g : Good w h p) : Good h w (swapV p) := by
  refine ⟨swap_rect g.toRect g.h1, g.h1, g.h2, g.w1, g.w2, fun r hr c hc => ?_⟩
  have r0 := g.row0
  unfold swapV at hr
  rw [r0] at hr
  obtain ⟨x, hx, rfl⟩ := List.mem_map.mp hr
  have hx := mem_upI.mp hx
  obtain ⟨q, hq, rfl⟩ := List.mem_map.mp hc
  have hw := g.ww q hq
  exact g.cl q hq _ (getI_mem (by omega) (by omega))
theorem mir_rect {w h : Nat} {p : List (List Int)} (g : Rect w h p) : Rect w h (p.map List.reverse) := ⟨by rw [List.length_map, g.hh], fun r hr => by
  obtain ⟨q, hq, rfl⟩ := List.mem_map.mp hr
  rw [List.length_reverse, g.ww q hq]⟩
theorem mir_good2 {w h : Nat} {p : List (List Int)} (g : Good w h p) : Good w h (p.map List.reverse) := ⟨mir_rect g.toRect, g.w1, g.w2, g.h1, g.h2, fun r hr c hc => by
  obtain ⟨q, hq, rfl⟩ := List.mem_map.mp hr
  exact g.cl q hq c (List.mem_reverse.mp hc)⟩
theorem rev_rev (p : List (List Int)) : (p.map List.reverse).map List.reverse = p := by
  rw [List.map_map, show List.reverse ∘ List.reverse = (id : List Int → List Int) from funext fun l => List.reverse_reverse l, List.map_id]
theorem turn_mir {w h : Nat} {p : List (List Int)} (g : Rect w h p) (h1 : 1 ≤ h) (w1 : 1 ≤ w) : swapV ((swapV p).map List.reverse) = p.reverse := by
  have g1 := swap_rect g h1
  have g2 := mir_rect g1
  refine rect_ext (swap_rect g2 w1) (rect_flip g) fun x y x1 x2 y1 y2 => ?_
  rw [cell_swap g2 x1 x2 y1 y2]
  have e := cell_mir (p := swapV p) g1 (x := (h : Int) - 1 - y) (y := x) (by omega) (by omega) x1 x2
  rw [show (h : Int) - 1 - ((h : Int) - 1 - y) = y by omega, cell_swap g (by omega) (by omega) x1 x2] at e
  rw [e]
  have f := row_flip g (y := (h : Int) - 1 - y) (by omega) (by omega)
  rw [show (h : Int) - 1 - ((h : Int) - 1 - y) = y by omega] at f
  unfold cell
  rw [f]
theorem flatMap_perm {α β : Type} {f g : α → List β} : ∀ {l : List α}, (∀ a ∈ l, (f a).Perm (g a)) → (l.flatMap f).Perm (l.flatMap g)
  | [], _ => .nil
  | a :: l, h => by
    rw [List.flatMap_cons, List.flatMap_cons]
    exact (h a List.mem_cons_self).append (flatMap_perm fun b hb => h b (List.mem_cons_of_mem _ hb))
theorem mir_perm (p : List (List Int)) : (flatV (p.map List.reverse)).Perm (flatV p) := by
  unfold flatV
  rw [List.flatMap_map]
  exact flatMap_perm fun a _ => List.reverse_perm a
theorem cons_perm {α β : Type} (f : α → β) (g : α → List β) : ∀ l : List α, (l.flatMap fun a => f a :: g a).Perm (l.map f ++ l.flatMap g)
  | [] => .nil
  | a :: l => by
    rw [List.flatMap_cons, List.map_cons, List.flatMap_cons]
    show (f a :: (g a ++ _)).Perm (f a :: (l.map f ++ (g a ++ _)))
    refine .cons _ ?_
    refine ((cons_perm f g l).append_left (g a)).trans ?_
    rw [← List.append_assoc, ← List.append_assoc]
    exact List.perm_append_comm.append_right _
theorem cols_perm (w : Nat) : ∀ {p : List (List Int)}, (∀ r ∈ p, r.length = w) → ((upI 0 w).flatMap fun x => p.map fun r => getI r x).Perm (p.flatMap fun r => r)
  | [], _ => by
    have : ∀ l : List Int, (l.flatMap fun x => ([] : List (List Int)).map fun r => getI r x) = [] := fun l => by
      induction l with
      | nil => rfl
      | cons a l ih => rw [List.flatMap_cons, ih]; rfl
    rw [this]; exact .nil
  | r :: p, h => by
    have ih := cols_perm w fun z hz => h z (List.mem_cons_of_mem _ hz)
    have hr := h r List.mem_cons_self
    have e : ((upI 0 w).map fun x => getI r x) = r := by
      refine list_getI (by rw [List.length_map]; simp; omega) fun i i1 i2 => ?_
      rw [List.length_map] at i2; simp at i2
      rw [getI_map _ _ (by simp; omega) (by simp; omega), getI_up i1 (by omega)]
    refine (cons_perm (fun x => getI r x) (fun x => p.map fun r => getI r x) (upI 0 w)).trans ?_
    rw [e, List.flatMap_cons]
    exact ih.append_left r
theorem swap_perm {w h : Nat} {p : List (List Int)} (g : Rect w h p) (h1 : 1 ≤ h) : (flatV (swapV p)).Perm (flatV p) := by
  have r0 := g.row (y := 0) (by omega) (by omega)
  unfold flatV swapV
  rw [r0, List.flatMap_map]
  exact cols_perm w g.ww
end Rf
set_option Elab.async false
set_option linter.all false
set_option autoImplicit false
set_option maxHeartbeats 2000000
set_option maxRecDepth 100000
namespace Rf
open PySem L2
theorem sort_perm {xs ys : List Int} (h : xs.Perm ys) : (xs.mergeSort fun a b => !ltI b a) = ys.mergeSort fun a b => !ltI b a := by
  have tr : ∀ a b c : Int, (!ltI b a) = true → (!ltI c b) = true → (!ltI c a) = true := fun a b c h1 h2 => by
    unfold ltI at *
    simp at *; omega
  have to : ∀ a b : Int, ((!ltI b a) || (!ltI a b)) = true := fun a b => by
    unfold ltI
    simp; omega
  refine List.Perm.eq_of_pairwise (le := fun a b => (!ltI b a) = true) (fun a b _ _ h1 h2 => ?_) (List.pairwise_mergeSort tr to xs) (List.pairwise_mergeSort tr to ys) ?_
  · unfold ltI at h1 h2
    simp at h1 h2; omega
  · exact (List.mergeSort_perm xs _).trans (h.trans (List.mergeSort_perm ys _).symm)
theorem cutR_putR {r : List Int} {x c : Int} (h1 : 0 ≤ x) (h2 : x ≤ r.length) : cutR (putR r x c) x = r ∧ getI (putR r x c) x = c := by
  obtain ⟨k, rfl⟩ := Int.eq_ofNat_of_zero_le h1
  have hk : k ≤ r.length := by omega
  have hl : (r.take k).length = k := by rw [List.length_take]; omega
  have ep : putR r (k : Int) c = r.take k ++ (c :: r.drop k) := by
    unfold putR
    rw [show ((k : Int)).toNat = k by omega, List.append_assoc]; rfl
  rw [ep]
  constructor
  · unfold cutR
    rw [show ((k : Int)).toNat = k by omega, show ((k : Int) + 1).toNat = k + 1 by omega, List.take_append_of_le_length (by omega), List.drop_append]
    rw [List.drop_eq_nil_of_le (by omega), hl, show k + 1 - k = 1 by omega, List.take_take, Nat.min_self]
    show r.take k ++ ([] ++ r.drop k) = r
    rw [List.nil_append, List.take_append_drop]
  · rw [getI_nat, List.getD_eq_getElem?_getD, List.getElem?_append_right (by omega), hl, Nat.sub_self]; rfl
theorem cut_put : ∀ {p : List (List Int)} {s c : List Int} {w : Nat}, p.length = s.length → p.length = c.length → (∀ r ∈ p, r.length = w) → (∀ x ∈ s, 0 ≤ x ∧ x ≤ (w : Int)) → cutV (putV p s c) s = p ∧ cellsV (putV p s c) s = c
  | [], [], [], _, _, _, _, _ => ⟨rfl, rfl⟩
  | r :: p, x :: s, z :: c, w, hl, hc, hw, hx => by
    obtain ⟨i1, i2⟩ := cut_put (p := p) (s := s) (c := c) (by simpa using hl) (by simpa using hc) (fun r hr => hw r (List.mem_cons_of_mem _ hr)) fun z hz => hx z (List.mem_cons_of_mem _ hz)
    have hr := hw r List.mem_cons_self
    have hxx := hx x List.mem_cons_self
    obtain ⟨c1, c2⟩ := cutR_putR (r := r) (x := x) (c := z) hxx.1 (by omega)
    constructor
    · show cutR (putR r x z) x :: cutV (putV p s c) s = r :: p
      rw [c1, i1]
    · show getI (putR r x z) x :: cellsV (putV p s c) s = z :: c
      rw [c2, i2]
theorem put_good {w h : Nat} {p : List (List Int)} {s c : List Int} (g : Good w h p) (q : Way (w + 1) h s) (hc : CellOk h c) (hw : w < 20) : Good (w + 1) h (putV p s c) := by
  refine ⟨put_rect g.toRect q hc.1, by omega, by omega, g.h1, g.h2, fun r hr z hz => ?_⟩
  obtain ⟨⟨r0, x, d⟩, hm, rfl⟩ := List.mem_map.mp hr
  have h1 := (List.of_mem_zip hm).1
  have h2 := (List.of_mem_zip (List.of_mem_zip hm).2).2
  unfold putR at hz
  rcases List.mem_append.mp hz with hz | hz
  · rcases List.mem_append.mp hz with hz | hz
    · exact g.cl r0 h1 z (List.mem_of_mem_take hz)
    · rw [List.mem_singleton.mp hz]; exact hc.2 d h2
  · exact g.cl r0 h1 z (List.mem_of_mem_drop hz)
theorem cutR_rev {r : List Int} {x : Int} (h1 : 0 ≤ x) (h2 : x < r.length) : (cutR r x).reverse = cutR r.reverse ((r.length : Int) - 1 - x) := by
  obtain ⟨k, rfl⟩ := Int.eq_ofNat_of_zero_le h1
  have hk : k < r.length := by omega
  unfold cutR
  rw [List.reverse_append, List.reverse_take, List.reverse_drop]
  congr 2 <;> congr 1 <;> omega
theorem cut_mir : ∀ {p : List (List Int)} {s : List Int} {w : Nat}, p.length = s.length → (∀ r ∈ p, r.length = w) → (∀ x ∈ s, 0 ≤ x ∧ x < (w : Int)) → (cutV p s).map List.reverse = cutV (p.map List.reverse) (s.map fun x => (w : Int) - 1 - x)
  | [], [], _, _, _, _ => rfl
  | r :: p, x :: s, w, hl, hw, hx => by
    have ih := cut_mir (p := p) (s := s) (by simpa using hl) (fun r hr => hw r (List.mem_cons_of_mem _ hr)) fun z hz => hx z (List.mem_cons_of_mem _ hz)
    have hr := hw r List.mem_cons_self
    have hxx := hx x List.mem_cons_self
    show (cutR r x).reverse :: (cutV p s).map List.reverse = cutR r.reverse ((w : Int) - 1 - x) :: cutV (p.map List.reverse) (s.map _)
    rw [ih, cutR_rev hxx.1 (by omega), hr]
theorem cutR_perm {r : List Int} {x : Int} (h1 : 0 ≤ x) (h2 : x < r.length) : (getI r x :: cutR r x).Perm r := by
  obtain ⟨k, rfl⟩ := Int.eq_ofNat_of_zero_le h1
  have hk : k < r.length := by omega
  have e : r = r.take k ++ (r[k] :: r.drop (k + 1)) := by rw [← List.drop_eq_getElem_cons hk, List.take_append_drop]
  have g : getI r (k : Int) = r[k] := by rw [getI_nat, List.getD_eq_getElem?_getD, List.getElem?_eq_getElem hk]; rfl
  unfold cutR
  rw [g, show ((k : Int)).toNat = k by omega, show ((k : Int) + 1).toNat = k + 1 by omega]
  exact (List.perm_middle.symm).trans (.of_eq e.symm)
theorem cut_perm : ∀ {p : List (List Int)} {s : List Int} {w : Nat}, p.length = s.length → (∀ r ∈ p, r.length = w) → (∀ x ∈ s, 0 ≤ x ∧ x < (w : Int)) → (flatV (cutV p s) ++ cellsV p s).Perm (flatV p)
  | [], [], _, _, _, _ => .nil
  | r :: p, x :: s, w, hl, hw, hx => by
    have ih := cut_perm (p := p) (s := s) (by simpa using hl) (fun r hr => hw r (List.mem_cons_of_mem _ hr)) fun z hz => hx z (List.mem_cons_of_mem _ hz)
    have hr := hw r List.mem_cons_self
    have hxx := hx x List.mem_cons_self
    show ((cutR r x ++ flatV (cutV p s)) ++ (getI r x :: cellsV p s)).Perm (r ++ flatV p)
    refine List.perm_middle.trans ?_
    rw [List.append_assoc, ← List.cons_append]
    exact (cutR_perm hxx.1 (by omega)).append ih
abbrev Sp_law_flat (m : List D → Rs D) : Prop := ∀ (w h : Nat) p, Rect w h p → w ≤ 20 → h ≤ 40 → m [pic p] = .ok (li .int (flatV p))
theorem ok_law_flat {T : Tb} : Sp_law_flat (runD T 1 3 B_law_flat) := by
  intro w h p g hw hh
  simp [runD, B_law_flat]
  refine for_end (fun pre ρ => ∃ z2, ρ = [.fz (pic p), .fz (li .int (flatV pre)), z2]) ⟨.un, rfl⟩ ?_ ?_
  · rintro pre r suf _ ep ⟨z2, rfl⟩
    have hr := g.ww r (by rw [ep]; simp)
    have hl : (flatV pre).length ≤ 40 * 20 := by
      have e1 : (flatV pre).length = pre.length * w := flat_len fun z hz => g.ww z (by rw [ep]; simp [hz])
      have : pre.length ≤ 40 := by
        have := g.hh
        rw [ep, List.length_append] at this
        omega
      rw [e1]; exact Nat.mul_le_mul this hw
    have lr : bclD .list [row r] = .ok (li .int r) := rfl
    have ad : binD .Add (li .int (flatV pre)) (li .int r) = .ok (li .int (flatV pre ++ r)) := add_li .int _ _ (by omega)
    simp [lr, ad]
    rw [show flatV (pre ++ [r]) = flatV pre ++ r by unfold flatV; rw [List.flatMap_append]; simp]
    exact ⟨_, rfl, _, rfl⟩
  · rintro _ ⟨z2, rfl⟩
    simp
end Rf
set_option Elab.async false
set_option linter.all false
set_option autoImplicit false
set_option maxHeartbeats 4000000
set_option maxRecDepth 100000
namespace Rf
open PySem L2
abbrev NoP (c : Nat) (m : List D → Rs D) : Prop := ∀ d, d.canLay0 = true → isPic d = false → m [d] = .ex (c, none)
abbrev Sx_turned (c : Nat) (m : List D → Rs D) : Prop := NoP c m
theorem ox_turned {T : Tb} {fS fN c : Nat} (hN : Sp_need_picture c (T.fn fN)) : Sx_turned c (runD T 1 1 (B_turned fS fN)) := by
  intro d hd hp
  simp [runD, B_turned, hN d hd, hp]
abbrev Sx_mirrored (c : Nat) (m : List D → Rs D) : Prop := NoP c m
theorem ox_mirrored {T : Tb} {fN c : Nat} (hN : Sp_need_picture c (T.fn fN)) : Sx_mirrored c (runD T 1 2 (B_mirrored fN)) := by
  intro d hd hp
  simp [runD, B_mirrored, hN d hd, hp]
abbrev Sx_counted (c : Nat) (m : List D → Rs D) : Prop := NoP c m
theorem ox_counted {T : Tb} {fN c : Nat} (hN : Sp_need_picture c (T.fn fN)) : Sx_counted c (runD T 1 4 (B_counted fN)) := by
  intro d hd hp
  simp [runD, B_counted, hN d hd, hp]
abbrev Sx_brightness (c : Nat) (m : List D → Rs D) : Prop := NoP c m
theorem ox_brightness {T : Tb} {fN c : Nat} (hN : Sp_need_picture c (T.fn fN)) : Sx_brightness c (runD T 1 3 (B_brightness fN)) := by
  intro d hd hp
  simp [runD, B_brightness, hN d hd, hp]
abbrev Sp_law_no_k01 (m : List D → Rs D) : Prop := ∀ (k : Int) d, 0 ≤ k → k < 5 → d.canLay0 = true → isPic d = false → m [.int k, d] = .ok (.bool true)
theorem ok_law_no_k01 {T : Tb} {fS fT fM fC fB cE cK cP : Nat} (hS : Sx_size_of cP (T.fn fS)) (hT : Sx_turned cP (T.fn fT)) (hM : Sx_mirrored cP (T.fn fM)) (hC : Sx_counted cP (T.fn fC)) (hB : Sx_brightness cP (T.fn fB)) (l0 : cE < T.cls.length) (l1 : cK < T.cls.length) (l2 : cP < T.cls.length)
    (e1 : T.isa cP cE = true) (e2 : T.isa cP cK = false) (e3 : T.isa cP cP = true) : Sp_law_no_k01 (runD T 2 3 (B_law_no_k01 fS fT fM fC fB cE cK cP)) := by
  intro k d k0 k5 hd hp
  have z := And.intro (hS d hd hp) (And.intro (hT d hd hp) (And.intro (hM d hd hp) (And.intro (hC d hd hp) (hB d hd hp))))
  have : k = 0 ∨ k = 1 ∨ k = 2 ∨ k = 3 ∨ k = 4 := by omega
  rcases this with rfl | rfl | rfl | rfl | rfl <;> simp [runD, B_law_no_k01, z, l0, l1, l2, e1, e2, e3, show ∀ a b (e : Xn), (E.isv 2).ev T [a, b, .xn e] = grd (decide (e.1 < T.cls.length)) (.ok (.bool true)) from fun _ _ _ => rfl]
abbrev Sp_law_turned (m : List D → Rs D) : Prop := ∀ w h p, Rect w h p → 1 ≤ h → w < 1000000 → h < 1000000 → m [pic p] = .ok (pic (swapV p))
theorem ok_law_turned {T : Tb} : Sp_law_turned (runD T 1 3 B_law_turned) := ok_swapped
def badP : List D := [.none, .tuple [], .tuple [.tuple []], .list [.tuple [.int 1]], .tuple [.list [.int 1]], .tuple [.tuple [.int 1], .tuple [.int 1, .int 2]], .tuple [.tuple [.int 100]], .tuple [.tuple [.int (-1)]], .tuple [.tuple [.bool true]], .tuple [.tuple [.none]], .tuple (List.replicate 21 (.tuple [.int 1])), .tuple [.tuple (List.replicate 21 (.int 1))], .str (Str.ofString "1"), .tuple [.tuple [.str (Str.ofString "1")]], .tuple [.tuple [.int 1, .int 2], .int 3], .int 7]
theorem badP_ok : ∀ d ∈ badP, d.canLay0 = true ∧ isPic d = false := by
  have h : (badP.all fun d => d.canLay0 && !isPic d) = true := by decide +kernel
  intro d hd
  have := List.all_eq_true.mp h d hd
  simp at this
  exact this
theorem ok_law_k01 {T : Tb} {fI fNo fB fC fM fT fLt fS fSo : Nat} (hI : Sp_is_picture (T.fn fI)) (hNo : Sp_law_no_k01 (T.fn fNo)) (hB : Sp_brightness (T.fn fB)) (hC : Sp_counted (T.fn fC)) (hM : Sp_mirrored (T.fn fM)) (hT : Sp_turned (T.fn fT)) (hLt : Sp_law_turned (T.fn fLt)) (hS : Sp_size_of (T.fn fS)) (hSo : Sp_law_some (T.fn fSo)) :
    ∀ ns : List Int, ns.length ≤ 63 → runD T 1 10 (B_law_k01 fI fNo fB fC fM fT fLt fS fSo) [.list (ns.map PyData.int)] = .ok (.bool true) := by
  intro ns hs
  obtain ⟨w, h, p, hw, hh, g, e⟩ := hSo ns 0 9 7 hs (by omega) (by omega) (by omega) (by omega) (by omega) (by omega)
  have e : T.fn fSo [li .int ns, .int 0, .int 9, .int 7] = .ok (pic p) := e
  have k1 := g.h1
  have k2 := g.w1
  have h0 := g.row0
  have ph := g.hh
  have fl : (flatV p).length = h * w := by rw [← g.hh]; exact flat_len g.ww
  have f63' : (flatV p).length ≤ 63 := by
    have : h * w ≤ 7 * 9 := Nat.mul_le_mul (by omega) (by omega)
    omega
  have f63 : (sortU (flatV p)).length ≤ 63 := Nat.le_trans (sortU_le _) f63'
  have ip := hI (pic p) (lay_pic p)
  rw [isPic_pic g] at ip
  have zp := hS w h p g
  have tp := hT w h p g
  have ltp := hLt w h p g.toRect k1 (by omega) (by omega)
  have mp := hM w h p g
  have cp := hC w h p g f63
  have bp := hB w h p g
  have neN : ∀ {α : Type} [DecidableEq α] {n : Nat} {f : α → D} (_ : Enc n f) (_ : n ≤ 60) (a : α), cmpB .NotEq (f a) (f a) = .ok false := fun en hn a => by
    rw [ne_enc en (by omega)]; simp
  have n1 : ∀ a b : Int, cmpB .NotEq (PyData.tuple [.int a, .int b]) (PyData.tuple [.int a, .int b]) = .ok false := fun a b => neN (enc_int.pr enc_int) (by decide) (a, b)
  have n2 := neN (enc_int.pr enc_int).li (by decide) (countsV (flatV p))
  have n3 := fun q => neN enc_pic (by decide) q
  have n5 := fun q => neN enc_int (by decide) q
  show runD T 1 10 (B_law_k01 fI fNo fB fC fM fT fLt fS fSo) [li .int ns] = _
  have first : ((B_law_k01 fI fNo fB fC fM fT fLt fS fSo).tk 5).ex T ([.fz (li .int ns)] ++ List.replicate 9 .un) = .ok (.nx [.fz (li .int ns), .fz (pic p), .fz (.int w), .fz (.int h), .un, .un, .un, .un, .un, .un]) := by
    simp (disch := omega) [B_law_k01, Ss.tk, e, ip, zp, idx_tu, h0, ph, pr, n1, tp, ltp, n3, mp]
    rw [cmpr_li row List.reverse rfl (by omega) fun r _ => by
      have : revD (row r) = .ok (row r.reverse) := by
        show Rs.ok _ = _
        unfold row tu
        rw [List.map_reverse]
      simp [this]]
    simp [n3]
  refine runD_at 5 rfl first ?_
  have loop : (((B_law_k01 fI fNo fB fC fM fT fLt fS fSo).dp 5).tk 2).ex T [.fz (li .int ns), .fz (pic p), .fz (.int w), .fz (.int h), .un, .un, .un, .un, .un, .un] = .ok (.nx [.fz (li .int ns), .fz (pic p), .fz (.int w), .fz (.int h), .fz (li .int (flatV p)), .fz (row (getI p (-1))), .un, .un, .un, .un]) := by
    simp [B_law_k01, Ss.dp, Ss.tk]
    refine for_end (fun pre ρ => ∃ z5, ρ = [.fz (li .int ns), .fz (pic p), .fz (.int w), .fz (.int h), .fz (li .int (flatV pre)), z5, .un, .un, .un, .un] ∧ (pre ≠ [] → z5 = .fz (row (getI pre (-1))))) ⟨.un, rfl, fun q => absurd rfl q⟩ ?_ ?_
    · rintro pre r suf _ ep ⟨z5, rfl, _⟩
      have hr := g.ww r (by rw [ep]; simp)
      have hl : (flatV pre).length ≤ 20 * 20 := by
        have e1 : (flatV pre).length = pre.length * w := flat_len fun z hz => g.ww z (by rw [ep]; simp [hz])
        have : pre.length ≤ 20 := by
          have := g.hh
          rw [ep, List.length_append] at this
          omega
        rw [e1]; exact Nat.mul_le_mul this (by omega)
      have lr : bclD .list [row r] = .ok (li .int r) := rfl
      have ad : binD .Add (li .int (flatV pre)) (li .int r) = .ok (li .int (flatV pre ++ r)) := add_li .int _ _ (by omega)
      have gl : getI (pre ++ [r]) (-1) = r := by
        rw [getI_neg _ (by omega) (by simp; omega)]
        rw [show (-1 + ((pre ++ [r]).length : Int)).toNat = pre.length by simp; omega, List.getD_eq_getElem?_getD]; simp
      simp [lr, ad]
      rw [show flatV (pre ++ [r]) = flatV pre ++ r by unfold flatV; rw [List.flatMap_append]; simp]
      exact ⟨_, rfl, by rw [gl]⟩
    · rintro _ ⟨z5, rfl, q⟩
      rw [q (by rintro rfl; simp at ph; omega)]
      simp
  refine part_at 2 loop ?_
  have bads : ((((B_law_k01 fI fNo fB fC fM fT fLt fS fSo).dp 5).dp 2).tk 5).ex T [.fz (li .int ns), .fz (pic p), .fz (.int w), .fz (.int h), .fz (li .int (flatV p)), .fz (row (getI p (-1))), .un, .un, .un, .un] = .ok (.nx [.fz (li .int ns), .fz (pic p), .fz (.int w), .fz (.int h), .fz (li .int (flatV p)), .fz (row (getI p (-1))), .fz (.list badP), .un, .un, .un]) := by
    have st : sstD (li .int (flatV p)) = .ok (li .int (sortU (flatV p))) := by
      show (intsD ((flatV p).map .int)).bind _ = _
      rw [ints_row]
      show grd (Nat.ble (flatV p).length 63) _ = _
      rw [Nat.ble_eq.mpr f63']; rfl
    simp [B_law_k01, Ss.dp, Ss.tk, cp, st]
    rw [cmpr_li (pr .int .int) (fun c : Int => (c, (((flatV p).count c : Nat) : Int))) rfl (by omega) fun z _ => by simp [count_ints, pr, show metOk .count (li PyData.int (flatV p)) = true from rfl]]
    rw [show (sortU (flatV p)).map (fun c : Int => (c, (((flatV p).count c : Nat) : Int))) = countsV (flatV p) from rfl]
    have m1 : binD .Mult (.tuple [.tuple [.int 1]]) (.int 21) = .ok (.tuple (List.replicate 21 (.tuple [.int 1]))) := mul1 (by decide) (by decide)
    have m2 : binD .Mult (.tuple [.int 1]) (.int 21) = .ok (.tuple (List.replicate 21 (.int 1))) := mul1 (by decide) (by decide)
    have ng : negD (.int 1) = .ok (.int (-1)) := rfl
    have al : ∀ a b : List D, a.length + b.length < 1000 → binD .Add (.list a) (.list b) = .ok (.list (a ++ b)) := fun a b h => add_list a b (by omega)
    simp [n2, bp, bright_flat, n5, m1, m2, ng, al, badP, -List.reduceReplicate]
  refine part_at 5 bads ?_
  have r5 : itD .rng [.int 5] = .ok ((upI 0 5).map PyData.int) := it_rng1 (by decide) (by decide)
  have isn : ∀ b : Bool, cmpB .IsNot (.bool b) (.bool false) = .ok b := fun b => by cases b <;> rfl
  have nn : cmpB .NotEq (.list []) (.list []) = .ok false := by rfl
  have ee : cmpB .Eq (.list []) (.list []) = .ok true := by rfl
  have m3 : binD .Mult (.tuple [.int 0]) (.int 20) = .ok (row (List.replicate 20 0)) := by rw [mul1 (by decide) (by decide)]; rfl
  have m4 : binD .Mult (.tuple [row (List.replicate 20 0)]) (.int 20) = .ok (pic (List.replicate 20 (List.replicate 20 0))) := by rw [mul1 (by decide) (by decide)]; rfl
  have i5 : T.fn fI [pic (List.replicate 20 (List.replicate 20 0))] = .ok (.bool true) := by
    rw [hI _ (lay_pic _)]
    congr 2
  simp [B_law_k01, Ss.dp]
  rw [cmpr_none (by decide) fun d hd => by
    obtain ⟨b1, b2⟩ := badP_ok d hd
    simp [hI d b1, b2, isn]]
  simp [nn]
  rw [cmpr_none (by decide) fun d hd => by
    obtain ⟨b1, b2⟩ := badP_ok d hd
    simp [r5]
    rw [cmpr_none (by simp) fun z hz => by
      obtain ⟨k, hk, rfl⟩ := List.mem_map.mp hz
      have hk := mem_upI.mp hk
      simp [hNo k d hk.1 hk.2 b1 b2]]
    simp [nn]]
  simp [ee, m3, m4, i5, fin, -List.reduceReplicate]
end Rf
set_option Elab.async false
set_option linter.all false
set_option maxRecDepth 100000
set_option maxHeartbeats 4000000
namespace W01
open Rf PySem PySem.Spec PyProof.Rows L2
def top (i : Nat) : Stmt := PySem.Challenge.pw_seamhall_k01_pictures.main.body.getD i (.Pass ⟨0, 0, 0, 0⟩)
def cls : List Str := [(Str.ofString "SeamError"), (Str.ofString "NoPicture"), (Str.ofString "NoMarks")]
def isa (i j : Nat) : Bool := (([[true, false, false], [true, true, false], [true, false, true]] : List (List Bool)).getD i []).getD j false
def gls : List (Str × Gc) := [((Str.ofString "MOST_CELL"), (.dv (.int 99))), ((Str.ofString "MOST_SIDE"), (.dv (.int 20)))]
def shs : List Sh := []
def T0 : Tb := tb0 cls isa gls shs
/-- is_number -/
def b0 : Ss := B_is_number
def N0 : List Str := [(Str.ofString "thing"), (Str.ofString "least"), (Str.ofString "most")]
def P0 : List Str := [(Str.ofString "thing"), (Str.ofString "least"), (Str.ofString "most")]
def f0 : Fn := ⟨(Str.ofString "is_number"), P0.length, runD T0 P0.length N0.length b0, true⟩
def T1 : Tb := { T0 with fns := T0.fns ++ [f0] }
/-- is_row -/
def b1 : Ss := B_is_row 0 0
def N1 : List Str := [(Str.ofString "thing"), (Str.ofString "wide"), (Str.ofString "cell")]
def P1 : List Str := [(Str.ofString "thing"), (Str.ofString "wide")]
def f1 : Fn := ⟨(Str.ofString "is_row"), P1.length, runD T1 P1.length N1.length b1, true⟩
def T2 : Tb := { T0 with fns := T1.fns ++ [f1] }
/-- is_picture -/
def b2 : Ss := B_is_picture 1 1
def N2 : List Str := [(Str.ofString "thing"), (Str.ofString "row")]
def P2 : List Str := [(Str.ofString "thing")]
def f2 : Fn := ⟨(Str.ofString "is_picture"), P2.length, runD T2 P2.length N2.length b2, true⟩
def T3 : Tb := { T0 with fns := T2.fns ++ [f2] }
/-- need_picture -/
def b3 : Ss := B_need_picture 2 1
def N3 : List Str := [(Str.ofString "picture")]
def P3 : List Str := [(Str.ofString "picture")]
def f3 : Fn := ⟨(Str.ofString "need_picture"), P3.length, runD T3 P3.length N3.length b3, true⟩
def T4 : Tb := { T0 with fns := T3.fns ++ [f3] }
/-- size_of -/
def b4 : Ss := B_size_of 3
def N4 : List Str := [(Str.ofString "picture")]
def P4 : List Str := [(Str.ofString "picture")]
def f4 : Fn := ⟨(Str.ofString "size_of"), P4.length, runD T4 P4.length N4.length b4, true⟩
def T5 : Tb := { T0 with fns := T4.fns ++ [f4] }
/-- swapped -/
def b5 : Ss := B_swapped
def N5 : List Str := [(Str.ofString "rows"), (Str.ofString "x"), (Str.ofString "row")]
def P5 : List Str := [(Str.ofString "rows")]
def f5 : Fn := ⟨(Str.ofString "swapped"), P5.length, runD T5 P5.length N5.length b5, true⟩
def T6 : Tb := { T0 with fns := T5.fns ++ [f5] }
/-- turned -/
def b6 : Ss := B_turned 5 3
def N6 : List Str := [(Str.ofString "picture")]
def P6 : List Str := [(Str.ofString "picture")]
def f6 : Fn := ⟨(Str.ofString "turned"), P6.length, runD T6 P6.length N6.length b6, true⟩
def T7 : Tb := { T0 with fns := T6.fns ++ [f6] }
/-- mirrored -/
def b7 : Ss := B_mirrored 3
def N7 : List Str := [(Str.ofString "picture"), (Str.ofString "row")]
def P7 : List Str := [(Str.ofString "picture")]
def f7 : Fn := ⟨(Str.ofString "mirrored"), P7.length, runD T7 P7.length N7.length b7, true⟩
def T8 : Tb := { T0 with fns := T7.fns ++ [f7] }
/-- counted -/
def b8 : Ss := B_counted 3
def N8 : List Str := [(Str.ofString "picture"), (Str.ofString "cells"), (Str.ofString "row"), (Str.ofString "cell")]
def P8 : List Str := [(Str.ofString "picture")]
def f8 : Fn := ⟨(Str.ofString "counted"), P8.length, runD T8 P8.length N8.length b8, true⟩
def T9 : Tb := { T0 with fns := T8.fns ++ [f8] }
/-- brightness -/
def b9 : Ss := B_brightness 3
def N9 : List Str := [(Str.ofString "picture"), (Str.ofString "row"), (Str.ofString "cell")]
def P9 : List Str := [(Str.ofString "picture")]
def f9 : Fn := ⟨(Str.ofString "brightness"), P9.length, runD T9 P9.length N9.length b9, true⟩
def T10 : Tb := { T0 with fns := T9.fns ++ [f9] }
/-- _law_drawn -/
def b10 : Ss := B_law_drawn
def N10 : List Str := [(Str.ofString "_law_script"), (Str.ofString "_law_k"), (Str.ofString "_law_many"), (Str.ofString "_law_cell"), (Str.ofString "_law_turn"), (Str.ofString "_law_rest")]
def P10 : List Str := [(Str.ofString "_law_script"), (Str.ofString "_law_k"), (Str.ofString "_law_many")]
def f10 : Fn := ⟨(Str.ofString "_law_drawn"), P10.length, runD T10 P10.length N10.length b10, true⟩
def T11 : Tb := { T0 with fns := T10.fns ++ [f10] }
/-- _law_picture -/
def b11 : Ss := B_law_picture 10
def N11 : List Str := [(Str.ofString "_law_script"), (Str.ofString "_law_at"), (Str.ofString "_law_broad"), (Str.ofString "_law_tall"), (Str.ofString "_law_most"), (Str.ofString "_law_rows"), (Str.ofString "_law_y"), (Str.ofString "_law_x")]
def P11 : List Str := [(Str.ofString "_law_script"), (Str.ofString "_law_at"), (Str.ofString "_law_broad"), (Str.ofString "_law_tall")]
def f11 : Fn := ⟨(Str.ofString "_law_picture"), P11.length, runD T11 P11.length N11.length b11, true⟩
def T12 : Tb := { T0 with fns := T11.fns ++ [f11] }
/-- _law_some -/
def b12 : Ss := B_law_some 11 10
def N12 : List Str := [(Str.ofString "_law_script"), (Str.ofString "_law_at"), (Str.ofString "_law_broad"), (Str.ofString "_law_tall")]
def P12 : List Str := [(Str.ofString "_law_script"), (Str.ofString "_law_at"), (Str.ofString "_law_broad"), (Str.ofString "_law_tall")]
def f12 : Fn := ⟨(Str.ofString "_law_some"), P12.length, runD T12 P12.length N12.length b12, true⟩
def T13 : Tb := { T0 with fns := T12.fns ++ [f12] }
/-- _law_turned -/
def b13 : Ss := B_law_turned
def N13 : List Str := [(Str.ofString "_law_rows"), (Str.ofString "_law_x"), (Str.ofString "_law_row")]
def P13 : List Str := [(Str.ofString "_law_rows")]
def f13 : Fn := ⟨(Str.ofString "_law_turned"), P13.length, runD T13 P13.length N13.length b13, true⟩
def T14 : Tb := { T0 with fns := T13.fns ++ [f13] }
/-- _law_no -/
def b14 : Ss := B_law_no_k01 4 6 7 8 9 0 2 1
def N14 : List Str := [(Str.ofString "_law_way"), (Str.ofString "_law_thing"), (Str.ofString "e")]
def P14 : List Str := [(Str.ofString "_law_way"), (Str.ofString "_law_thing")]
def f14 : Fn := ⟨(Str.ofString "_law_no"), P14.length, runD T14 P14.length N14.length b14, true⟩
def T15 : Tb := { T0 with fns := T14.fns ++ [f14] }
/-- law -/
def b15 : Ss := B_law_k01 2 14 9 8 7 6 13 4 12
def N15 : List Str := [(Str.ofString "_law_script"), (Str.ofString "_law_picture_here"), (Str.ofString "_law_broad"), (Str.ofString "_law_tall"), (Str.ofString "_law_cells"), (Str.ofString "_law_row"), (Str.ofString "_law_bad"), (Str.ofString "_law_cell"), (Str.ofString "_law_thing"), (Str.ofString "_law_way")]
def P15 : List Str := [(Str.ofString "_law_script")]
def f15 : Fn := ⟨(Str.ofString "law"), P15.length, runD T15 P15.length N15.length b15, true⟩
def T16 : Tb := { T0 with fns := T15.fns ++ [f15] }
end W01
set_option Elab.async false
set_option linter.all false
set_option maxRecDepth 100000
set_option maxHeartbeats 0
namespace W01
open Rf PySem PySem.Spec PyProof.Rows L2
def fn : List He.DefD := [dd "is_number" (top 7), dd "is_row" (top 8), dd "is_picture" (top 9), dd "need_picture" (top 10), dd "size_of" (top 11), dd "swapped" (top 12), dd "turned" (top 13), dd "mirrored" (top 14), dd "counted" (top 15), dd "brightness" (top 16), dd "_law_drawn" (top 18), dd "_law_picture" (top 19), dd "_law_some" (top 20), dd "_law_turned" (top 21), dd "_law_no" (top 22), dd "law" (top 23)]
structure Cx (Z : Wd) : Prop where
  c : SaysR fn (topB cls isa gls) Z.K
  x : ∃ h, Z.K.In h ∧ h.Ns mainGlobals Z.mg
  ca : Z.ca = caOf Z.K cls
theorem Cx.mg {Z : Wd} (h : Cx Z) {x : Str} {v : Value} (e : PySem.W.nsIn Z.K mainGlobals x = some (some v)) : Z.mg x = some v := by
  obtain ⟨_, X, G⟩ := h.x
  exact PySem.W.mg_of X G e
theorem t0 {Z : Wd} (h : Cx Z) : Tok T0 Z 0 := by
  obtain ⟨_, X, G⟩ := h.x
  exact tok0 X G h.c.more h.ca
theorem sc0 : FnScope N0 P0 (defScope (top 7)) := ⟨by rfl, by rfl, by rfl, by decide +kernel, by rfl, by decide +kernel, by decide +kernel⟩
theorem ck0 : b0.chk T0 false N0 (defScope (top 7)) (undoc (defBody (top 7))) = true := by decide +kernel
theorem t1 {Z : Wd} (h : Cx Z) : Tok T1 Z 1 := by
  obtain ⟨fd, F, g⟩ := h.c.def_ 0 (d := dd "is_number" (top 7)) rfl
  exact (t0 h).def F sc0 ck0 (h.mg g) (F.bindsN fun _ _ _ _ _ _ us hl => match us, hl with | [_, _, _], _ => rfl) rfl rfl rfl rfl rfl (by decide +kernel)
theorem sc1 : FnScope N1 P1 (defScope (top 8)) := ⟨by rfl, by rfl, by rfl, by decide +kernel, by rfl, by decide +kernel, by decide +kernel⟩
theorem ck1 : b1.chk T1 false N1 (defScope (top 8)) (undoc (defBody (top 8))) = true := by decide +kernel
theorem t2 {Z : Wd} (h : Cx Z) : Tok T2 Z 2 := by
  obtain ⟨fd, F, g⟩ := h.c.def_ 1 (d := dd "is_row" (top 8)) rfl
  exact (t1 h).def F sc1 ck1 (h.mg g) (F.bindsN fun _ _ _ _ _ _ us hl => match us, hl with | [_, _], _ => rfl) rfl rfl rfl rfl rfl (by decide +kernel)
theorem sc2 : FnScope N2 P2 (defScope (top 9)) := ⟨by rfl, by rfl, by rfl, by decide +kernel, by rfl, by decide +kernel, by decide +kernel⟩
theorem ck2 : b2.chk T2 false N2 (defScope (top 9)) (undoc (defBody (top 9))) = true := by decide +kernel
theorem t3 {Z : Wd} (h : Cx Z) : Tok T3 Z 3 := by
  obtain ⟨fd, F, g⟩ := h.c.def_ 2 (d := dd "is_picture" (top 9)) rfl
  exact (t2 h).def F sc2 ck2 (h.mg g) (F.bindsN fun _ _ _ _ _ _ us hl => match us, hl with | [_], _ => rfl) rfl rfl rfl rfl rfl (by decide +kernel)
theorem sc3 : FnScope N3 P3 (defScope (top 10)) := ⟨by rfl, by rfl, by rfl, by decide +kernel, by rfl, by decide +kernel, by decide +kernel⟩
theorem ck3 : b3.chk T3 false N3 (defScope (top 10)) (undoc (defBody (top 10))) = true := by decide +kernel
theorem t4 {Z : Wd} (h : Cx Z) : Tok T4 Z 4 := by
  obtain ⟨fd, F, g⟩ := h.c.def_ 3 (d := dd "need_picture" (top 10)) rfl
  exact (t3 h).def F sc3 ck3 (h.mg g) (F.bindsN fun _ _ _ _ _ _ us hl => match us, hl with | [_], _ => rfl) rfl rfl rfl rfl rfl (by decide +kernel)
theorem sc4 : FnScope N4 P4 (defScope (top 11)) := ⟨by rfl, by rfl, by rfl, by decide +kernel, by rfl, by decide +kernel, by decide +kernel⟩
theorem ck4 : b4.chk T4 false N4 (defScope (top 11)) (undoc (defBody (top 11))) = true := by decide +kernel
theorem t5 {Z : Wd} (h : Cx Z) : Tok T5 Z 5 := by
  obtain ⟨fd, F, g⟩ := h.c.def_ 4 (d := dd "size_of" (top 11)) rfl
  exact (t4 h).def F sc4 ck4 (h.mg g) (F.bindsN fun _ _ _ _ _ _ us hl => match us, hl with | [_], _ => rfl) rfl rfl rfl rfl rfl (by decide +kernel)
theorem sc5 : FnScope N5 P5 (defScope (top 12)) := ⟨by rfl, by rfl, by rfl, by decide +kernel, by rfl, by decide +kernel, by decide +kernel⟩
theorem ck5 : b5.chk T5 false N5 (defScope (top 12)) (undoc (defBody (top 12))) = true := by decide +kernel
theorem t6 {Z : Wd} (h : Cx Z) : Tok T6 Z 6 := by
  obtain ⟨fd, F, g⟩ := h.c.def_ 5 (d := dd "swapped" (top 12)) rfl
  exact (t5 h).def F sc5 ck5 (h.mg g) (F.bindsN fun _ _ _ _ _ _ us hl => match us, hl with | [_], _ => rfl) rfl rfl rfl rfl rfl (by decide +kernel)
theorem sc6 : FnScope N6 P6 (defScope (top 13)) := ⟨by rfl, by rfl, by rfl, by decide +kernel, by rfl, by decide +kernel, by decide +kernel⟩
theorem ck6 : b6.chk T6 false N6 (defScope (top 13)) (undoc (defBody (top 13))) = true := by decide +kernel
theorem t7 {Z : Wd} (h : Cx Z) : Tok T7 Z 7 := by
  obtain ⟨fd, F, g⟩ := h.c.def_ 6 (d := dd "turned" (top 13)) rfl
  exact (t6 h).def F sc6 ck6 (h.mg g) (F.bindsN fun _ _ _ _ _ _ us hl => match us, hl with | [_], _ => rfl) rfl rfl rfl rfl rfl (by decide +kernel)
theorem sc7 : FnScope N7 P7 (defScope (top 14)) := ⟨by rfl, by rfl, by rfl, by decide +kernel, by rfl, by decide +kernel, by decide +kernel⟩
theorem ck7 : b7.chk T7 false N7 (defScope (top 14)) (undoc (defBody (top 14))) = true := by decide +kernel
theorem t8 {Z : Wd} (h : Cx Z) : Tok T8 Z 8 := by
  obtain ⟨fd, F, g⟩ := h.c.def_ 7 (d := dd "mirrored" (top 14)) rfl
  exact (t7 h).def F sc7 ck7 (h.mg g) (F.bindsN fun _ _ _ _ _ _ us hl => match us, hl with | [_], _ => rfl) rfl rfl rfl rfl rfl (by decide +kernel)
theorem sc8 : FnScope N8 P8 (defScope (top 15)) := ⟨by rfl, by rfl, by rfl, by decide +kernel, by rfl, by decide +kernel, by decide +kernel⟩
theorem ck8 : b8.chk T8 false N8 (defScope (top 15)) (undoc (defBody (top 15))) = true := by decide +kernel
theorem t9 {Z : Wd} (h : Cx Z) : Tok T9 Z 9 := by
  obtain ⟨fd, F, g⟩ := h.c.def_ 8 (d := dd "counted" (top 15)) rfl
  exact (t8 h).def F sc8 ck8 (h.mg g) (F.bindsN fun _ _ _ _ _ _ us hl => match us, hl with | [_], _ => rfl) rfl rfl rfl rfl rfl (by decide +kernel)
theorem sc9 : FnScope N9 P9 (defScope (top 16)) := ⟨by rfl, by rfl, by rfl, by decide +kernel, by rfl, by decide +kernel, by decide +kernel⟩
theorem ck9 : b9.chk T9 false N9 (defScope (top 16)) (undoc (defBody (top 16))) = true := by decide +kernel
theorem t10 {Z : Wd} (h : Cx Z) : Tok T10 Z 10 := by
  obtain ⟨fd, F, g⟩ := h.c.def_ 9 (d := dd "brightness" (top 16)) rfl
  exact (t9 h).def F sc9 ck9 (h.mg g) (F.bindsN fun _ _ _ _ _ _ us hl => match us, hl with | [_], _ => rfl) rfl rfl rfl rfl rfl (by decide +kernel)
theorem sc10 : FnScope N10 P10 (defScope (top 18)) := ⟨by rfl, by rfl, by rfl, by decide +kernel, by rfl, by decide +kernel, by decide +kernel⟩
theorem ck10 : b10.chk T10 false N10 (defScope (top 18)) (undoc (defBody (top 18))) = true := by decide +kernel
theorem t11 {Z : Wd} (h : Cx Z) : Tok T11 Z 11 := by
  obtain ⟨fd, F, g⟩ := h.c.def_ 10 (d := dd "_law_drawn" (top 18)) rfl
  exact (t10 h).def F sc10 ck10 (h.mg g) (F.bindsN fun _ _ _ _ _ _ us hl => match us, hl with | [_, _, _], _ => rfl) rfl rfl rfl rfl rfl (by decide +kernel)
theorem sc11 : FnScope N11 P11 (defScope (top 19)) := ⟨by rfl, by rfl, by rfl, by decide +kernel, by rfl, by decide +kernel, by decide +kernel⟩
theorem ck11 : b11.chk T11 false N11 (defScope (top 19)) (undoc (defBody (top 19))) = true := by decide +kernel
theorem t12 {Z : Wd} (h : Cx Z) : Tok T12 Z 12 := by
  obtain ⟨fd, F, g⟩ := h.c.def_ 11 (d := dd "_law_picture" (top 19)) rfl
  exact (t11 h).def F sc11 ck11 (h.mg g) (F.bindsN fun _ _ _ _ _ _ us hl => match us, hl with | [_, _, _, _], _ => rfl) rfl rfl rfl rfl rfl (by decide +kernel)
theorem sc12 : FnScope N12 P12 (defScope (top 20)) := ⟨by rfl, by rfl, by rfl, by decide +kernel, by rfl, by decide +kernel, by decide +kernel⟩
theorem ck12 : b12.chk T12 false N12 (defScope (top 20)) (undoc (defBody (top 20))) = true := by decide +kernel
theorem t13 {Z : Wd} (h : Cx Z) : Tok T13 Z 13 := by
  obtain ⟨fd, F, g⟩ := h.c.def_ 12 (d := dd "_law_some" (top 20)) rfl
  exact (t12 h).def F sc12 ck12 (h.mg g) (F.bindsN fun _ _ _ _ _ _ us hl => match us, hl with | [_, _, _, _], _ => rfl) rfl rfl rfl rfl rfl (by decide +kernel)
theorem sc13 : FnScope N13 P13 (defScope (top 21)) := ⟨by rfl, by rfl, by rfl, by decide +kernel, by rfl, by decide +kernel, by decide +kernel⟩
theorem ck13 : b13.chk T13 false N13 (defScope (top 21)) (undoc (defBody (top 21))) = true := by decide +kernel
theorem t14 {Z : Wd} (h : Cx Z) : Tok T14 Z 14 := by
  obtain ⟨fd, F, g⟩ := h.c.def_ 13 (d := dd "_law_turned" (top 21)) rfl
  exact (t13 h).def F sc13 ck13 (h.mg g) (F.bindsN fun _ _ _ _ _ _ us hl => match us, hl with | [_], _ => rfl) rfl rfl rfl rfl rfl (by decide +kernel)
theorem sc14 : FnScope N14 P14 (defScope (top 22)) := ⟨by rfl, by rfl, by rfl, by decide +kernel, by rfl, by decide +kernel, by decide +kernel⟩
theorem ck14 : b14.chk T14 false N14 (defScope (top 22)) (undoc (defBody (top 22))) = true := by decide +kernel
theorem t15 {Z : Wd} (h : Cx Z) : Tok T15 Z 15 := by
  obtain ⟨fd, F, g⟩ := h.c.def_ 14 (d := dd "_law_no" (top 22)) rfl
  exact (t14 h).def F sc14 ck14 (h.mg g) (F.bindsN fun _ _ _ _ _ _ us hl => match us, hl with | [_, _], _ => rfl) rfl rfl rfl rfl rfl (by decide +kernel)
theorem sc15 : FnScope N15 P15 (defScope (top 23)) := ⟨by rfl, by rfl, by rfl, by decide +kernel, by rfl, by decide +kernel, by decide +kernel⟩
theorem ck15 : b15.chk T15 false N15 (defScope (top 23)) (undoc (defBody (top 23))) = true := by decide +kernel
theorem t16 {Z : Wd} (h : Cx Z) : Tok T16 Z 16 := by
  obtain ⟨fd, F, g⟩ := h.c.def_ 15 (d := dd "law" (top 23)) rfl
  exact (t15 h).def F sc15 ck15 (h.mg g) (F.bindsN fun _ _ _ _ _ _ us hl => match us, hl with | [_], _ => rfl) rfl rfl rfl rfl rfl (by decide +kernel)
def lo0 : List Str := [(Str.ofString "SeamError"), (Str.ofString "NoPicture"), (Str.ofString "NoMarks"), (Str.ofString "MOST_CELL"), (Str.ofString "MOST_SIDE"), (Str.ofString "is_number"), (Str.ofString "is_row"), (Str.ofString "is_picture"), (Str.ofString "need_picture"), (Str.ofString "size_of"), (Str.ofString "swapped"), (Str.ofString "turned"), (Str.ofString "mirrored"), (Str.ofString "counted"), (Str.ofString "brightness"), (Str.ofString "_law_drawn"), (Str.ofString "_law_picture"), (Str.ofString "_law_some"), (Str.ofString "_law_turned"), (Str.ofString "_law_no")]
def loose : List Str := lo0
abbrev R : PySem.W.OpenRow := PySem.W.OpenLaw.row PySem.Challenge.rw_seamhall_k01_pictures
abbrev hk : PySem.W.Hook := hookR 5 fn (topB cls isa gls)
def ob (s : PySem.W.SharedT) : He.AlD := obsRG 5 fn (topB cls isa gls) (HandSHeadRun.getT s)
theorem ob_eq (s : PySem.W.SharedT) : ob s = hk.obs s.abs := obsRG_eq (HandSHeadRun.getT_eq s)
end W01
set_option Elab.async false
set_option linter.all false
set_option maxRecDepth 100000
set_option maxHeartbeats 0
namespace W01
open Rf PySem PySem.Spec PyProof.Rows L2
theorem run (w : World) : HandSHeadRun.RunEq R (PySem.W.view R.prog [23]) hk ob 4000 loose w := by
  intro os
  kernel_rfl
end W01
open PySem PySem.W PySem.Calls PyProof.Rows Rf L2
theorem W01.ends (pure : ∀ ns : List Int, ns.length ≤ 63 → W01.f15.m [.list (ns.map PyData.int)] = .ok (.bool true)) : PySem.Challenge.rw_seamhall_k01_pictures.Holds := by
  w_on; o_law
  refine HandSHeadRun.head_any (r := OpenLaw.row PySem.Challenge.rw_seamhall_k01_pictures) (q := view (OpenLaw.row PySem.Challenge.rw_seamhall_k01_pictures).prog [23]) (H := W01.hk) (ob := W01.ob) (M := 4000) (loose := W01.loose) (d := HandSHeadRun.topDef (OpenLaw.row PySem.Challenge.rw_seamhall_k01_pictures).prog 23) (kwd := []) W01.ob_eq
    (by kernel_rfl) (fun s => by kernel_rfl) W01.run (by kernel_rfl) (by kernel_rfl) (by kernel_rfl) (by rfl) (by first | assumption | decide +kernel) (by decide +kernel) ⟨rfl, rfl, rfl, rfl, rfl, by decide +kernel⟩ ?hw ?hc
  case hw => w_witness2
  case hc =>
    refine law_walk (l := PySem.Challenge.rw_seamhall_k01_pictures) (n := 63) (k := 16) (x := (Str.ofString "_law_script")) rfl (by decide) (by kernel_rfl) ⟨by rfl, by decide +kernel, by decide +kernel⟩ ?F
    intro w mg fa h Y G hmg0
    obtain ⟨K, KX, c⟩ := Y
    have C : W01.Cx ⟨(PySem.Challenge.rw_seamhall_k01_pictures).prog, w, K, mg, h, caOf K W01.cls⟩ := ⟨c, ⟨h, KX, G⟩, rfl⟩
    obtain ⟨fd, F, g⟩ := c.def_ 15 (d := dd "law" (W01.top 23)) rfl
    have hmg : mg (Str.ofString "law") = some (.ref fa) := by
      have e : (HandSHeadRun.topDef (OpenLaw.row PySem.Challenge.rw_seamhall_k01_pictures).prog 23).name = Str.ofString "law" := by kernel_rfl
      rw [← e]
      exact hmg0
    have e2 := hmg.symm.trans (C.mg g)
    cases e2
    refine ⟨K, fd, spF K (caOf K W01.cls) W01.f15, KX, fun s u => F.bindsA (ps := W01.P15) (fun _ _ _ _ _ _ us hl => match us, hl with | [_], _ => rfl) s [u] rfl, fun H a ns hl hS => law_asks (f := W01.f15) rfl pure H a ns hl hS, fun base hK2 hG2 => ?_⟩
    have C2 : W01.Cx ⟨(PySem.Challenge.rw_seamhall_k01_pictures).prog, w, K, mg, base, caOf K W01.cls⟩ := ⟨c, ⟨h, KX, G⟩, rfl⟩
    exact def_ok (W01.t15 C2) F W01.sc15 W01.ck15
set_option Elab.async false
set_option linter.all false
set_option autoImplicit false
set_option maxHeartbeats 2000000
set_option maxRecDepth 100000
namespace W01
open PySem Rf L2
theorem s0 : Sp_is_number f0.m := ok_is_number
theorem s1 : Sp_is_row f1.m := ok_is_row s0 (by rfl)
theorem s2 : Sp_is_picture f2.m := ok_is_picture s1 (by rfl)
theorem s3 : Sp_need_picture 1 f3.m := ok_need_picture s2 (by decide)
theorem s4 : Sp_size_of f4.m := ok_size_of s3
theorem x4 : Sx_size_of 1 f4.m := ox_size_of s3
theorem s5 : Sp_swapped f5.m := ok_swapped
theorem s6 : Sp_turned f6.m := ok_turned s5 s3
theorem x6 : Sx_turned 1 f6.m := ox_turned s3
theorem s7 : Sp_mirrored f7.m := ok_mirrored s3
theorem x7 : Sx_mirrored 1 f7.m := ox_mirrored s3
theorem s8 : Sp_counted f8.m := ok_counted s3
theorem x8 : Sx_counted 1 f8.m := ox_counted s3
theorem s9 : Sp_brightness f9.m := ok_brightness s3
theorem x9 : Sx_brightness 1 f9.m := ox_brightness s3
theorem s10 : Sp_law_drawn f10.m := ok_law_drawn
theorem s11 : Sp_law_picture f11.m := ok_law_picture s10
theorem s12 : Sp_law_some f12.m := ok_law_some s11 s10
theorem s13 : Sp_law_turned f13.m := ok_law_turned
theorem s14 : Sp_law_no_k01 f14.m := ok_law_no_k01 x4 x6 x7 x8 x9 (by decide) (by decide) (by decide) (by rfl) (by rfl) (by rfl)
theorem pure : ∀ ns : List Int, ns.length ≤ 63 → f15.m [.list (ns.map PyData.int)] = .ok (.bool true) :=
  ok_law_k01 s2 s14 s9 s8 s7 s6 s13 s4 s12
end W01
theorem PySem.Challenge.cw_seamhall_k01_pictures_holds : PySem.Challenge.rw_seamhall_k01_pictures.Holds := by
  exact W01.ends W01.pure
