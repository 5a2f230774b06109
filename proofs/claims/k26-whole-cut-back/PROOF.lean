import PyProof.Rows.All
import Wide.All
import OpenK.AllK
import Wide.FinOn
import HandS.ForMost
import HandS.MakeKwOnly
import HandS.Head0
import HandS.Head1
import HandS.Head2
import HandS.HeadEnd
import HandS.HeadHook1
import HandS.HeadHook2
import HandS.TryMany
import HandS.ExcField
import HandS.ExcInit
import HandS.ForExc
import HandS.TupAny
import HandS.TupMul
import HandS.TupLe
import HandS.Wide
import HandS.Style
import HandS.IsInst
import HandS.Deep
import HandS.Walk
import HandS.Zip
import HandS.Defaults
import HandS.ExcOwn
import HandS.ExcIs
import HandS.EndBits
import HandS.Conv
import KE.DatumMoreOrd
import KE.SortData
import KE.DataFind
import KE.KTupSum
import HandS.Text
import HandS.Replace
import HandS.RaiseMore
import HandS.Dict
import KE.GoesEnum
import HandS.SetBool
import HandS.Strs
import HandS.SetFor
import PySem.Challenge.RW_seamhall_k26_whole_cut_back
set_option Elab.async false
set_option linter.all false
set_option maxRecDepth 100000
set_option maxHeartbeats 4000000
namespace Rf
open PySem PySem.Spec PyProof.Rows L2
def bnamesA : List Str := ["len", "sum", "all", "any", "abs", "max", "min", "tuple", "list", "int", "bool", "str", "isinstance", "range", "enumerate", "zip", "sorted", "set", "dict", "ValueError"]
def dvOk : He.Dv → Bool
  | .non => true | .bl _ => true | .int _ => true | .str _ => true
  | _ => false
def cS (K : PySem.W.Frag) : Addr := He.ga K (Str.ofString "Stand")
def isOk (K : PySem.W.Frag) (C : Addr) (x : Str) : Bool := decide (PySem.W.nsIn K mainGlobals x = some (some (.ref C)))
def xokB (K : PySem.W.Frag) (C : Addr) (x : Str) : Bool :=
  isOk K C x && ((decide (x = ("NoRoom" : Str)) || PySem.W.excIn K C [.type "ValueError", .type "Exception", .type "BaseException", .type "object"] "ValueError.__new__") && (PySem.W.keepIn K (.ref C) && (decide (PySem.W.subIn K (.ref C) (.type "BaseException") = some true) &&
  (decide (PySem.W.subIn K (.ref C) (.type "ValueError") = some true) && (decide (PySem.W.typeIn K (.ref C) = some (.type "type")) && (PySem.W.hasDictIn K C && (decide (PySem.W.findIn K (.ref C) "__getattribute__" = some (some (.builtin "BaseException.__getattribute__"))) &&
  (decide (PySem.W.findIn K (.ref C) "__getattr__" = some none) && (decide (PySem.W.findIn K (.ref C) "__class__" = some (some (.builtin "object.__class__"))) && (decide (PySem.W.specialIn K (.builtin "object.__class__") "__get__" = some (some (.builtin "getset_descriptor.__get__"))) &&
  (decide (PySem.W.takesIn K (.builtin "object.__class__") = some true) && decide (PySem.W.mroIn K C (.type "object") = some true))))))))))))
/-- a module's constant -/
inductive Gc where
  | dv (d : He.Dv) | tup (ds : List He.Dv)
def gcB (K : PySem.W.Frag) (x : Str) : Gc → Bool
  | .dv d => dvOk d && (match PySem.W.nsIn K mainGlobals x with | some (some u) => He.relB (d.v K) u | _ => false)
  | .tup ds => ds.all dvOk && (decide (PySem.W.nsIn K mainGlobals x = some (some (.ref (He.ga K x)))) && He.tupB K x ds)
def isaB (K : PySem.W.Frag) (a b : Addr) (r : Bool) : Bool := decide (PySem.W.kitOne K (.ref a) (.ref b) = some r) && decide (PySem.W.exmOne K (.ref a) (.ref b) = some r)
/-- the classes' places by their names -/
def caOf (K : PySem.W.Frag) (cls : List Str) (i : Nat) : Addr := He.ga K (cls.getD i default)
def topB (cls : List Str) (isa : Nat → Nat → Bool) (gls : List (Str × Gc)) (K : PySem.W.Frag) : Bool :=
  ((List.range cls.length).all fun i => xokB K (caOf K cls i) (cls.getD i default)) && (((List.range cls.length).all fun i => (List.range cls.length).all fun j => isaB K (caOf K cls i) (caOf K cls j) (isa i j)) &&
  ((gls.all fun p => gcB K p.1 p.2) && bnamesA.all fun x => decide (PySem.W.nsIn K mainGlobals x = some none)))
/-- a plain def of the text by its place -/
def dd (x : String) (st : Stmt) (kwd : List (Str × He.Dv) := []) : He.DefD := ⟨(Str.ofString x, none), Str.ofString x, Str.ofString x, defArgs st, defBody st, defScope st, [], kwd⟩
/-- one look at the objects behind the top, by a function of the part that it needs; what it shall see -/
def lookHook (n : Nat) (look : PySem.W.Frag → He.AlD) (want : He.AlD) (told : PySem.W.Frag → Prop) (tells : ∀ K, look K = want → told K) : PySem.W.Hook :=
  { α := He.AlD, obs := fun s => look (He.frG s.heap.get? (He.asD s.heap.get? n)), val := fun _ => want, says := fun _ h => ∃ K : PySem.W.Frag, K.In h ∧ told K, of := fun _ _ seen => ⟨_, He.frG_in, tells _ seen⟩, keeps := fun _ _ _ ⟨_, there, seen⟩ kept => ⟨_, there.keeps kept, seen⟩ }
end Rf
set_option Elab.async false
set_option linter.all false
set_option maxRecDepth 100000
namespace Rf
open PySem PySem.Spec PyProof.Rows L2
abbrev D := PyData
/-- an exception: its class by number, what it bears -/
abbrev Xn := Nat × Option Int
inductive Rs (α : Type) where
  | ok (a : α) | ex (e : Xn) | no
def Rs.bind {α β : Type} : Rs α → (α → Rs β) → Rs β
  | .ok a, f => f a
  | .ex e, _ => .ex e
  | .no, _ => .no
@[simp] theorem Rs.bind_ok {α β : Type} (a : α) (f : α → Rs β) : (Rs.ok a).bind f = f a := id rfl
@[simp] theorem Rs.bind_ex {α β : Type} (e : Xn) (f : α → Rs β) : (Rs.ex e : Rs α).bind f = .ex e := id rfl
@[simp] theorem Rs.bind_no {α β : Type} (f : α → Rs β) : (Rs.no : Rs α).bind f = .no := id rfl
def Rs.map {α β : Type} (f : α → β) (x : Rs α) : Rs β := x.bind fun a => .ok (f a)
/-- within a comprehension nothing may be raised -/
def Rs.quiet {α : Type} : Rs α → Rs α
  | .ok a => .ok a
  | _ => .no
@[simp] theorem Rs.quiet_ok {α : Type} (a : α) : (Rs.ok a).quiet = .ok a := id rfl
def grd {α : Type} (b : Bool) (x : Rs α) : Rs α := if b = true then x else .no
@[simp] theorem grd_true {α : Type} (x : Rs α) : grd true x = x := id rfl
@[simp] theorem grd_false {α : Type} (x : Rs α) : grd false x = .no := id rfl
/-- the size that lists, tuples and texts keep below here -/
def few (n : Nat) : Bool := Nat.ble n 999999
theorem few_iff {n : Nat} : few n = true ↔ n < 1000000 := by
  unfold few
  rw [Nat.ble_eq]
  omega
/-- a whole number within 2^60, told so that no kernel counts -/
def inRng : Int → Bool
  | .ofNat n => Nat.ble n 1152921504606846975
  | .negSucc n => Nat.ble n 1152921504606846975
theorem inRng_iff {i : Int} : inRng i = true ↔ -(2 ^ 60) ≤ i ∧ i < 2 ^ 60 := by
  cases i with
  | ofNat n => unfold inRng; dsimp only; rw [Nat.ble_eq, show Int.ofNat n = (n : Int) from rfl]; omega
  | negSucc n =>
    unfold inRng
    dsimp only
    rw [Nat.ble_eq, Int.negSucc_eq, show (2 : Int) ^ 60 = 1152921504606846976 from rfl]
    exact ⟨fun h => ⟨by omega, by omega⟩, fun h => by omega⟩
/-- within 2^64 -/
def smI : Int → Bool
  | .ofNat n => Nat.ble n 18446744073709551615
  | .negSucc n => Nat.ble n 18446744073709551614
theorem smI_iff {i : Int} : smI i = true ↔ -(2 ^ 64) < i ∧ i < 2 ^ 64 := by
  cases i with
  | ofNat n => unfold smI; dsimp only; rw [Nat.ble_eq, show Int.ofNat n = (n : Int) from rfl]; omega
  | negSucc n => unfold smI; dsimp only; rw [Nat.ble_eq, Int.negSucc_eq]; omega
def posI : Int → Bool
  | .ofNat 0 => false
  | .ofNat (_ + 1) => true
  | .negSucc _ => false
theorem posI_iff {i : Int} : posI i = true ↔ 0 < i := by
  cases i with
  | ofNat n => cases n with
    | zero => unfold posI; simp
    | succ n => exact ⟨fun _ => Int.natCast_pos.mpr (Nat.succ_pos n), fun _ => rfl⟩
  | negSucc n =>
    constructor
    · intro h; cases h
    · intro h; rw [Int.negSucc_eq] at h; omega

inductive Sl where
  | un | fz (d : D) | ow (ds : List D) | nw (dss : List (List D)) | xn (e : Xn) | pt (k : Nat) | od (m : Bool) (ps : List (D × D))
abbrev Env := List Sl

inductive Tg where
  | nm (i : Nat) | t2 (a b : Tg) | t3 (a b c : Tg) | t4 (a b c d : Tg)
inductive It where
  | seq | rng | enum | zip | str | ez
inductive Bf where
  | len | sum | all | any | abs | max | min | tuple | list | int | sorted | str
inductive Mf where
  | index | count | countS | joinS | splitS | indexS
mutual
inductive E where
  | var (i : Nat)
  | cst (d : D)
  | glb (i : Nat)
  | bin (o : Operator) (a b : E)
  | neg (a : E)
  | nt (a : E)
  | and (a b : E)
  | or (a b : E)
  | cmp (o : CmpOp) (a b : E)
  | chn (o p : CmpOp) (a b c : E)
  | ite (c a b : E)
  | tup (es : Es)
  | lst (es : Es)
  | idx (a i : E)
  | vdx (v : Nat) (i : E)
  | vln (v : Nat)
  | sl01 (a h : E)
  | sl10 (a l : E)
  | sl11 (a l h : E)
  | rev (a : E)
  | lrg1 (tp : Bool) (a : E)
  | lrg2 (tp : Bool) (a b : E)
  | bcl (f : Bf) (es : Es)
  | fcl (f : Nat) (es : Es)
  | kcl (f : Nat) (sh : Nat) (es ks : Es)
  | met (m : Mf) (a : E) (es : Es)
  | isi (a : E) (t : String)
  | isx (v : Nat) (c : Nat)
  | isv (v : Nat)
  | cmpr (e : E) (t : Tg) (k : It) (is : Es) (c : Es) (own : List Nat)
  | cme (e : E) (t : Tg) (k : It) (is : Es) (own : List Nat)
  | sst (e : E)
  | dsp (ks : List Str) (es : Es)
  | ssc (ln : Bool) (e : E) (t : Tg) (k : It) (is : Es) (own : List Nat)
  | cm2 (e : E) (t : Tg) (k : It) (is : Es) (t1 : Tg) (k1 : It) (is1 : Es) (own own1 : List Nat)
inductive Es where
  | nil
  | cons (e : E) (es : Es)
end

def addD : D → D → Rs D
  | .int i, .int j => .ok (.int (i + j))
  | .str x, .str y => grd (few (x.length + y.length)) (.ok (.str (x ++ y)))
  | .tuple xs, .tuple ys => grd (few (xs.length + ys.length)) (.ok (.tuple (xs ++ ys)))
  | .list xs, .list ys => grd (few (xs.length + ys.length)) (.ok (.list (xs ++ ys)))
  | _, _ => .no
def subD : D → D → Rs D
  | .int i, .int j => .ok (.int (i - j))
  | _, _ => .no
/-- a text so many times -/
def repS (x : Str) (n : Int) : Str := ⟨(List.replicate n.toNat x.cps.toList).flatten.toArray⟩
def tmI : Int → Bool
  | .ofNat n => Nat.ble n 1000
  | .negSucc n => Nat.ble n 1152921504606846975
theorem tmI_iff {i : Int} : tmI i = true ↔ -(2 ^ 60) ≤ i ∧ i ≤ 1000 := by
  cases i with
  | ofNat n => unfold tmI; dsimp only; rw [Nat.ble_eq, show Int.ofNat n = (n : Int) from rfl]; omega
  | negSucc n =>
    unfold tmI
    dsimp only
    rw [Nat.ble_eq, Int.negSucc_eq, show (2 : Int) ^ 60 = 1152921504606846976 from rfl]
    exact ⟨fun h => ⟨by omega, by omega⟩, fun h => by omega⟩
def rep {α : Type} (xs : List α) (n : Int) : List α := (List.replicate n.toNat xs).flatten
def mulD : D → D → Rs D
  | .tuple xs, .int n => grd (tmI n && (Nat.ble 1 xs.length && Nat.ble xs.length 1000)) (.ok (.tuple (rep xs n)))
  | .list xs, .int n => grd (tmI n && Nat.ble xs.length 1000) (.ok (.list (rep xs n)))
  | .str x, .int n => grd (tmI n && (Nat.ble 1 x.length && Nat.ble x.length 1000)) (.ok (.str (repS x n)))
  | .int i, .int j => grd (smI i || smI j) (.ok (.int (i * j)))
  | _, _ => .no
def divD : D → D → Rs D
  | .int i, .int j => grd (posI j && smI j) (.ok (.int (i / j)))
  | _, _ => .no
def modD : D → D → Rs D
  | .int i, .int j => grd (posI j) (.ok (.int (i % j)))
  | _, _ => .no
def powD : D → D → Rs D
  | .int i, .int j => (match j with | .ofNat n => grd (Nat.ble n 100 && Nat.ble i.natAbs 999) (.ok (.int (i ^ n))) | .negSucc _ => .no)
  | _, _ => .no
def binD : Operator → D → D → Rs D
  | .Add => addD
  | .Sub => subD
  | .Mult => mulD
  | .FloorDiv => divD
  | .Mod => modD
  | .Pow => powD
  | _ => fun _ _ => .no
def negD : D → Rs D
  | .int i => .ok (.int (-i))
  | _ => .no
def flatD : D → Bool
  | .none | .bool _ | .int _ | .str _ => true
  | _ => false
def eqD (d e : D) : Rs Bool := grd (SeqAt.shaped d && SeqAt.shaped e) (.ok (PyData.eqv d e))
/-- all can be compared -/
def alkB (ds : List D) : Bool := ds.all fun d => (ds.all fun e => PySem.W.alike d e) && (match d with | .none => false | _ => true)
/-- all are tuples with an item, or none is one -/
def srtB (ds : List D) : Bool := (ds.all fun d => match d with | .tuple (_ :: _) => true | _ => false) || ds.all fun d => match d with | .none => false | .tuple _ => false | _ => true
mutual
/-- no dict within -/
def nod : D → Bool
  | .list xs => nodAll xs
  | .tuple xs => nodAll xs
  | .dict _ => false
  | _ => true
def nodAll : List D → Bool
  | [] => true
  | d :: ds => nod d && nodAll ds
end
def ltD : D → D → Rs Bool
  | .int i, .int j => .ok (decide (i < j))
  | .str x, .str y => .ok (decide (x.cps.toList < y.cps.toList))
  | .tuple xs, .tuple ys => grd (PySem.W.alike (.tuple xs) (.tuple ys) && (Nat.ble (PyData.tuple xs).depth 60 && (nodAll xs && nodAll ys))) (.ok (PySem.W.dataLt (.tuple xs) (.tuple ys)))
  | .list xs, .list ys => grd (PySem.W.alike (.list xs) (.list ys) && (Nat.ble (PyData.list xs).depth 60 && (nodAll xs && nodAll ys))) (.ok (PySem.W.dataLt (.list xs) (.list ys)))
  | _, _ => .no
def intsD : List D → Rs (List Int)
  | [] => .ok []
  | .int i :: ds => (intsD ds).map (i :: ·)
  | _ :: _ => .no
/-- whether a list of whole numbers is not behind another -/
def leL (a b : List Int) : Bool := Ob.lexAt (fun j => decide (a.getD j 0 = b.getD j 0)) (fun j => decide (a.getD j 0 ≤ b.getD j 0)) (decide (a.length ≤ b.length)) 0 (min a.length b.length)
def leD : D → D → Rs Bool
  | .int i, .int j => .ok (decide (i ≤ j))
  | .tuple xs, .tuple ys => (intsD xs).bind fun a => (intsD ys).map fun b => leL a b
  | _, _ => .no
def isD : D → D → Rs Bool
  | d, .none => .ok (match d with | .none => true | _ => false)
  | .bool a, .bool b => .ok (decide (a = b))
  | _, _ => .no
def inD : D → D → Rs Bool
  | d, .list ds => grd (SeqAt.shaped d && SeqAt.shaped (.list ds)) (.ok (ds.any fun z => PyData.eqv z d))
  | d, .tuple ds => grd (SeqAt.shaped d && SeqAt.shaped (.tuple ds)) (.ok (ds.any fun z => PyData.eqv z d))
  | .str x, .str z => (match x.cps.toList with | [c] => .ok (decide (c ∈ z.cps.toList)) | _ => .no)
  | _, _ => .no
def cmpB : CmpOp → D → D → Rs Bool
  | .Eq, d, e => eqD d e
  | .NotEq, d, e => (eqD d e).map not
  | .Lt, d, e => ltD d e
  | .Gt, .int i, .int j => .ok (decide (j < i))
  | .LtE, d, e => leD d e
  | .GtE, .int i, .int j => .ok (decide (j ≤ i))
  | .Is, d, e => isD d e
  | .IsNot, d, e => (isD d e).map not
  | .In, d, e => inD d e
  | .NotIn, d, e => (inD d e).map not
  | _, _, _ => .no
def cmpD (o : CmpOp) (d e : D) : Rs D := (cmpB o d e).map .bool
def asB : D → Rs Bool
  | .bool b => .ok b
  | _ => .no
/-- tables by texts -/
def keyIs (k : Str) (p : D × D) : Bool := match p.1 with | .str x => decide (x = k) | _ => false
def kvAt (ps : List (D × D)) (k : Str) : Option D := (ps.find? (keyIs k)).map (·.2)
def kvPut (ps : List (D × D)) (k : Str) (d : D) : List (D × D) := if ps.any (keyIs k) = true then ps.map fun p => if keyIs k p = true then (p.1, d) else p else ps ++ [(.str k, d)]
def kvMerge (ps : List (D × D)) : List Str → List D → List (D × D)
  | k :: ks, d :: ds => kvMerge (kvPut ps k d) ks ds
  | _, _ => ps
def kvMrg (ps qs : List (D × D)) : List (D × D) := qs.foldl (fun acc p => match p.1 with | .str k => kvPut acc k p.2 | _ => acc) ps
def idxD : D → D → Rs D
  | .dict ps, .str k => match kvAt ps k with | some d => .ok d | none => .no
  | .list ds, .int i => match atI ds i with | some d => .ok d | none => .no
  | .tuple ds, .int i => match atI ds i with | some d => .ok d | none => .no
  | .str z, .int i => grd (few z.length) (match atI z.cps.toList i with | some c => .ok (.str ⟨#[c]⟩) | none => .no)
  | _, _ => .no
def cutD {α : Type} (xs : List α) (lo hi : Option Int) : List α := (xs.drop (HT.sIx xs.length 0 lo)).take (HT.sIx xs.length xs.length hi - HT.sIx xs.length 0 lo)
def sliD : D → Option Int → Option Int → Rs D
  | .list ds, lo, hi => .ok (.list (cutD ds lo hi))
  | .tuple ds, lo, hi => .ok (.tuple (cutD ds lo hi))
  | .str z, lo, hi => grd (few z.length) (.ok (.str ⟨(cutD z.cps.toList lo hi).toArray⟩))
  | _, _, _ => .no
def asI : D → Rs Int
  | .int i => .ok i
  | _ => .no
def revD : D → Rs D
  | .list ds => .ok (.list ds.reverse)
  | .tuple ds => .ok (.tuple ds.reverse)
  | _ => .no
def boolsD : List D → Rs (List Bool)
  | [] => .ok []
  | .bool i :: ds => (boolsD ds).map (i :: ·)
  | _ :: _ => .no
def isiD (t : String) : D → Rs Bool
  | .none => .ok false
  | .bool _ => .ok (t == "bool" || t == "int")
  | .int _ => .ok (t == "int")
  | .str _ => .ok (t == "str")
  | .list _ => .ok (t == "list")
  | .tuple _ => .ok (t == "tuple")
  | .dict _ => .no
/-- built-in functions -/
def lenD : List D → Rs D
  | [.list xs] => .ok (.int xs.length)
  | [.tuple xs] => .ok (.int xs.length)
  | [.str x] => grd (few x.length) (.ok (.int x.length))
  | _ => .no
def lenS : D → Rs D
  | .list xs => .ok (.int xs.length)
  | .tuple xs => .ok (.int xs.length)
  | _ => .no
def sumD : List D → Rs D
  | [.list xs] => (intsD xs).map fun ns => .int ns.sum
  | [.tuple xs] => (intsD xs).map fun ns => .int ns.sum
  | _ => .no
def allD : List D → Rs D
  | [.list xs] => (boolsD xs).map fun bs => .bool (bs.all id)
  | _ => .no
def anyD : List D → Rs D
  | [.list xs] => (boolsD xs).map fun bs => .bool (bs.any id)
  | _ => .no
def absD : List D → Rs D
  | [.int i] => .ok (.int (if i < 0 then -i else i))
  | _ => .no
def bestD (f : D → List D → D) : List D → Rs D
  | [] => .no
  | x :: xs => grd (alkB (x :: xs) && (PyData.canLayAll0 (x :: xs) && Nat.ble (PyData.depthAll (x :: xs)) 60)) (.ok (f x xs))
def maxD : List D → Rs D
  | [.int i, .int j] => .ok (.int (if j > i then j else i))
  | [.list xs] => bestD PySem.W.maxD xs
  | [.tuple xs] => bestD PySem.W.maxD xs
  | _ => .no
def minD : List D → Rs D
  | [.int i, .int j] => .ok (.int (if j < i then j else i))
  | [.list xs] => bestD PySem.W.minD xs
  | [.tuple xs] => bestD PySem.W.minD xs
  | _ => .no
def sortD : List D → Rs D
  | [.list xs] => grd (alkB xs && (srtB xs && Nat.ble (PyData.depthAll xs) 60)) (.ok (.list (xs.mergeSort fun a b => !PySem.W.dataLt b a)))
  | [.tuple xs] => grd (alkB xs && (srtB xs && Nat.ble (PyData.depthAll xs) 60)) (.ok (.list (xs.mergeSort fun a b => !PySem.W.dataLt b a)))
  | _ => .no
def tupleD : List D → Rs D
  | [.list xs] => .ok (.tuple xs)
  | [.tuple xs] => .ok (.tuple xs)
  | _ => .no
def listD : List D → Rs D
  | [.list xs] => .ok (.list xs)
  | [.tuple xs] => .ok (.list xs)
  | _ => .no
def toIntD : List D → Rs D
  | [.int i] => .ok (.int i)
  | [.bool b] => .ok (.int (if b then 1 else 0))
  | [.str a] => grd (Nat.ble a.length 640) (match PySem.intText? a with | some n => .ok (.int n) | none => .no)
  | _ => .no
def strD : List D → Rs D
  | [.int i] => grd (inRng i) (.ok (.str (Str.ofString (toString i))))
  | [.str a] => .ok (.str a)
  | _ => .no
def Bf.nm : Bf → String
  | .len => "len" | .sum => "sum" | .all => "all" | .any => "any" | .abs => "abs" | .max => "max" | .min => "min" | .tuple => "tuple" | .list => "list" | .int => "int" | .sorted => "sorted" | .str => "str"
def bclD : Bf → List D → Rs D
  | .len => lenD | .sum => sumD | .all => allD | .any => anyD | .abs => absD | .max => maxD | .min => minD | .tuple => tupleD | .list => listD | .int => toIntD | .sorted => sortD | .str => strD
/-- the first place of an equal one -/
def placeD (d : D) : List D → Option Nat
  | [] => none
  | x :: xs => if PyData.eqv x d then some 0 else (placeD d xs).map (· + 1)
/-- methods of data -/
def indexD (d : D) (ds : List D) : Rs D := match d, ds with
  | .list xs, [e] => grd (SeqAt.shaped (.list xs) && SeqAt.shaped e) (match placeD e xs with | some j => .ok (.int (j : Nat)) | none => .no)
  | _, _ => .no
/-- how often an equal one stands there -/
def countD (d : D) (ds : List D) : Rs D := match d, ds with
  | .list xs, [e] => grd (SeqAt.shaped (.list xs) && SeqAt.shaped e) (.ok (.int ((xs.countP fun y => PyData.eqv y e : Nat) : Int)))
  | _, _ => .no
/-- how often a sign stands in a text -/
def countSD (d : D) (ds : List D) : Rs D := match d, ds with
  | .str a, [.str z] => (match z.cps.toList with | [c] => .ok (.int ((a.cps.toList.count c : Nat) : Int)) | _ => .no)
  | _, _ => .no
/-- texts, put together -/
def strsD : List D → Rs (List Str)
  | [] => .ok []
  | .str x :: ds => (strsD ds).map (x :: ·)
  | _ :: _ => .no
def joinSD (d : D) (ds : List D) : Rs D := match d, ds with
  | .str a, [.list xs] => (strsD xs).bind fun ys => grd (Nat.ble ((ys.map fun y => y.length).sum + ys.length * a.length) 1000000) (.ok (.str (Txt.join a ys)))
  | _, _ => .no
/-- a text's parts between signs -/
def splitSD (d : D) (ds : List D) : Rs D := match d, ds with
  | .str a, [.str z] => grd (Nat.ble 1 z.length && Nat.ble a.length 1000000) (.ok (.list ((Txt.split a z).map .str)))
  | _, _ => .no
/-- where a text stands first in another -/
def indexSD (d : D) (ds : List D) : Rs D := match d, ds with
  | .str a, [.str z] => (match Builtin.Str.occurrences a z 0 a.length 1 with | i :: _ => .ok (.int (i : Nat)) | [] => .no)
  | _, _ => .no
/-- one text put in another one's place -/
def rplD (q : Str × Str) : D → Rs D
  | .str x => grd (Nat.ble (x.length + (x.length + 1) * q.2.length) 1000000) (.ok (.str (Txt.replace x q.1 q.2)))
  | _ => .no
def rplAll : List (Str × Str) → D → Rs D
  | [], d => .ok d
  | q :: qs, d => (rplD q d).bind (rplAll qs)
def Mf.nm : Mf → String
  | .index => "index" | .count => "count" | .countS => "count" | .joinS => "join" | .splitS => "split" | .indexS => "index"
def metD : Mf → D → List D → Rs D
  | .index => indexD | .count => countD | .countS => countSD | .joinS => joinSD | .splitS => splitSD | .indexS => indexSD
def isLst : D → Bool
  | .list _ => true
  | _ => false
def isStrD : D → Bool
  | .str _ => true
  | _ => false
def metOk : Mf → D → Bool
  | .index => isLst | .count => isLst | .countS => isStrD | .joinS => isStrD | .splitS => isStrD | .indexS => isStrD
/-- what a loop walks -/
def zip2 : List D → List D → List D
  | x :: xs, y :: ys => .tuple [x, y] :: zip2 xs ys
  | _, _ => []
def zip3 : List D → List D → List D → List D
  | x :: xs, y :: ys, z :: zs => .tuple [x, y, z] :: zip3 xs ys zs
  | _, _, _ => []
def enumD : Nat → List D → List D
  | _, [] => []
  | n, x :: xs => .tuple [.int (n : Nat), x] :: enumD (n + 1) xs
def itsD : D → Rs (List D)
  | .list xs => .ok xs
  | .tuple xs => .ok xs
  | .str x => grd (few x.length) (.ok (x.cps.toList.map fun c => .str ⟨#[c]⟩))
  | _ => .no
def rngD (lo hi : Int) : List D := (List.range (hi - lo).toNat).map fun k => .int (lo + (k : Nat))
def rngC (lo c : Int) (n : Nat) : List D := (List.range n).map fun k => .int (lo + (k : Nat) * c)
/-- a range of any step -/
def rg3 (i j c : Int) : Bool := !decide (c = 0) && (Nat.ble c.natAbs 1000000 && (Builtin.Range.small i j c && (match Builtin.Range.rangeSize i j c with | .ofNat n => few n | _ => false)))
def itD : It → List D → Rs (List D)
  | .seq, [d] => itsD d
  | .rng, [.int j] => grd (inRng j && few j.toNat) (.ok (rngD 0 j))
  | .rng, [.int i, .int j] => grd (inRng i && inRng j && few (j - i).toNat) (.ok (rngD i j))
  | .rng, [.int i, .int j, .int c] => if c = -1 then grd (inRng i && inRng j && few (i - j).toNat) (.ok (rngC i (-1) (i - j).toNat)) else grd (rg3 i j c) (.ok (rngC i c (Builtin.Range.rangeSize i j c).toNat))
  | .enum, [d] => (itsD d).map (enumD 0)
  | .zip, [d, e] => (itsD d).bind fun xs => (itsD e).map fun ys => zip2 xs ys
  | .ez, [d, e] => (itsD d).bind fun xs => (itsD e).map fun ys => enumD 0 (zip2 xs ys)
  | .zip, [d, e, f] => (itsD d).bind fun xs => (itsD e).bind fun ys => (itsD f).map fun zs => zip3 xs ys zs
  | _, _ => .no
/-- list(range()), tuple(range()) -/
def rngL (tp : Bool) (ds : List D) : Rs D := (itD .rng ds).map fun xs => if tp = true then .tuple xs else .list xs
def bindTg : Tg → D → Rs (List (Nat × D))
  | .nm i, d => .ok [(i, d)]
  | .t2 a b, .tuple [x, y] => (bindTg a x).bind fun l => (bindTg b y).map fun r => l ++ r
  | .t3 a b c, .tuple [x, y, z] => (bindTg a x).bind fun l => (bindTg b y).bind fun r => (bindTg c z).map fun q => l ++ (r ++ q)
  | .t4 a b c d, .tuple [x, y, z, w] => (bindTg a x).bind fun l => (bindTg b y).bind fun r => (bindTg c z).bind fun q => (bindTg d w).map fun o => l ++ (r ++ (q ++ o))
  | _, _ => .no
def setAllE (ρ : Env) : List (Nat × D) → Env
  | [] => ρ
  | b :: bs => setAllE (ρ.set b.1 (.fz b.2)) bs
def setTg (t : Tg) (d : D) (ρ : Env) : Rs Env := (bindTg t d).map (setAllE ρ)
def Tg.slots : Tg → List Nat
  | .nm i => [i]
  | .t2 a b => a.slots ++ b.slots
  | .t3 a b c => a.slots ++ (b.slots ++ c.slots)
  | .t4 a b c d => a.slots ++ (b.slots ++ (c.slots ++ d.slots))
def wipeE (ρ : Env) : List Nat → Env
  | [] => ρ
  | v :: vs => (wipeE ρ vs).set v .un
/-- a comprehension's turns: what each gives, none where its test says no -/
def gather (f : D → Rs (Option D)) : List D → Rs (List D)
  | [] => .ok []
  | d :: ds => (f d).quiet.bind fun o => (gather f ds).map fun r => o.toList ++ r

theorem gather_cons (f : D → Rs (Option D)) (d : D) (ds : List D) : gather f (d :: ds) = (f d).quiet.bind fun o => (gather f ds).map fun r => o.toList ++ r := rfl

/-- .. whose element may raise -/
def gathE (f : D → Rs D) : List D → Rs (List D)
  | [] => .ok []
  | d :: ds => (f d).bind fun x => (gathE f ds).map fun r => x :: r
def turnQ (t : Tg) (re : Env → Rs D) (own : List Nat) (ρ : Env) (d : D) : Rs D := (setTg t d (wipeE ρ own)).quiet.bind re
/-- a comprehension's turn -/
def turnD (t : Tg) (rt : Env → Rs Bool) (re : Env → Rs D) (own : List Nat) (ρ : Env) (d : D) : Rs (Option D) :=
  (setTg t d (wipeE ρ own)).bind fun ρ1 => (rt ρ1).bind fun b => if b = true then (re ρ1).map some else .ok none
/-- what a comprehension of two clauses gives -/
def gath2 (f : D → Rs (List D)) : List D → Rs (List D)
  | [] => .ok []
  | d :: ds => (f d).quiet.bind fun l => (gath2 f ds).map fun r => l ++ r
theorem gath2_cons (f : D → Rs (List D)) (d : D) (ds : List D) : gath2 f (d :: ds) = (f d).quiet.bind fun l => (gath2 f ds).map fun r => l ++ r := rfl
def turn2 (t : Tg) (ri : Env → Rs (List D)) (t1 : Tg) (re : Env → Rs D) (own own1 : List Nat) (ρ : Env) (d : D) : Rs (List D) :=
  (setTg t d (wipeE ρ own)).bind fun ρ1 => (ri ρ1).bind fun its => gather (turnD t1 (fun _ => .ok true) re own1 ρ1) its
/-- set in among rising ones -/
def insU (x : Int) : List Int → List Int
  | [] => [x]
  | y :: l => if x < y then x :: y :: l else if x = y then y :: l else y :: insU x l
/-- rising, each once -/
def sortU (ns : List Int) : List Int := ns.foldl (fun l x => insU x l) []
/-- sorted(set(xs)) -/
def sstD : D → Rs D
  | .list ds => (intsD ds).bind fun ns => grd (Nat.ble ns.length 63) (.ok (.list ((sortU ns).map .int)))
  | _ => .no
def sscD (ln : Bool) (ns : List Int) : Rs D := grd (Nat.ble (sortU ns).length 63) (.ok (if ln = true then .int ((sortU ns).length : Nat) else .list ((sortU ns).map .int)))
structure Fn where
  name : Str
  ar : Nat
  m : List D → Rs D
  /-- no keyword-only parameters -/
  pl : Bool
structure Tb where
  fns : List Fn
  /-- calls with keywords: the def, the keywords' names, how the arguments lie -/
  shs : List (Nat × Nat × List Str × (List D → List D → List D))
  gls : List (Str × D)
  cls : List Str
  isa : Nat → Nat → Bool
  /-- defs that write their first argument -/
  mus : List Nat := []
def Tb.fn (T : Tb) (i : Nat) (ds : List D) : Rs D := match T.fns[i]? with | some f => f.m ds | none => .no
def Tb.arr (T : Tb) (i : Nat) (ds es : List D) : List D := match T.shs[i]? with | some s => s.2.2.2 ds es | none => []
def Tb.gl (T : Tb) (i : Nat) : Rs D := match T.gls[i]? with | some p => .ok p.2 | none => .no
def varD : Option Sl → Rs D
  | some (.fz d) => .ok d
  | _ => .no
def lookD : Option Sl → Rs D
  | some (.fz d) => .ok d
  | some (.ow ds) => .ok (.list ds)
  | some (.od _ ps) => .ok (.dict ps)
  | _ => .no
/-- the test of a comprehension: none, or one -/
def tst : List D → Rs Bool
  | [] => .ok true
  | [.bool b] => .ok b
  | _ => .no
mutual
def E.ev (T : Tb) : E → Env → Rs D
  | .var i, ρ => varD ρ[i]?
  | .cst d, _ => .ok d
  | .glb i, _ => T.gl i
  | .bin o a b, ρ => (a.ev T ρ).bind fun x => (b.ev T ρ).bind fun y => (binD o x y).quiet
  | .neg a, ρ => (a.ev T ρ).bind fun x => (negD x).quiet
  | .nt a, ρ => (a.ev T ρ).bind fun x => (asB x).map fun b => .bool (!b)
  | .and a b, ρ => (a.ev T ρ).bind fun x => (asB x).bind fun c => if c = true then b.ev T ρ else .ok (.bool false)
  | .or a b, ρ => (a.ev T ρ).bind fun x => (asB x).bind fun c => if c = true then .ok (.bool true) else b.ev T ρ
  | .cmp o a b, ρ => (a.ev T ρ).bind fun x => (b.ev T ρ).bind fun y => (cmpD o x y).quiet
  | .chn o p a b c, ρ => (a.ev T ρ).bind fun x => (b.ev T ρ).bind fun y => (cmpB o x y).quiet.bind fun k => if k = true then (c.ev T ρ).bind fun z => (cmpD p y z).quiet else .ok (.bool false)
  | .ite c a b, ρ => (c.ev T ρ).bind fun x => (asB x).bind fun k => if k = true then a.ev T ρ else b.ev T ρ
  | .tup es, ρ => (es.ev T ρ).map .tuple
  | .lst es, ρ => (es.ev T ρ).map .list
  | .idx a i, ρ => (a.ev T ρ).bind fun x => (i.ev T ρ).bind fun y => (idxD x y).quiet
  | .vdx v i, ρ => (lookD ρ[v]?).bind fun x => (i.ev T ρ).bind fun y => (idxD x y).quiet
  | .vln v, ρ => (lookD ρ[v]?).bind fun x => (lenS x).quiet
  | .sl01 a h, ρ => (a.ev T ρ).bind fun x => (h.ev T ρ).bind fun y => (asI y).bind fun k => (sliD x none (some k)).quiet
  | .sl10 a l, ρ => (a.ev T ρ).bind fun x => (l.ev T ρ).bind fun y => (asI y).bind fun k => (sliD x (some k) none).quiet
  | .sl11 a l h, ρ => (a.ev T ρ).bind fun x => (l.ev T ρ).bind fun y => (asI y).bind fun k => (h.ev T ρ).bind fun z => (asI z).bind fun n => (sliD x (some k) (some n)).quiet
  | .rev a, ρ => (a.ev T ρ).bind fun x => (revD x).quiet
  | .lrg1 tp a, ρ => (a.ev T ρ).bind fun x => (rngL tp [x]).quiet
  | .lrg2 tp a b, ρ => (a.ev T ρ).bind fun x => (b.ev T ρ).bind fun y => (rngL tp [x, y]).quiet
  | .bcl f es, ρ => (es.ev T ρ).bind fun ds => (bclD f ds).quiet
  | .fcl f es, ρ => (es.ev T ρ).bind (T.fn f)
  | .kcl f sh es ks, ρ => (es.ev T ρ).bind fun ds => (ks.ev T ρ).bind fun zs => T.fn f (T.arr sh ds zs)
  | .met m a es, ρ => (a.ev T ρ).bind fun x => grd (metOk m x) ((es.ev T ρ).bind fun ds => (metD m x ds).quiet)
  | .isi a t, ρ => (a.ev T ρ).bind fun x => ((isiD t x).map .bool).quiet
  | .isx v c, ρ => match ρ[v]? with | some (.xn e) => grd (decide (e.1 < T.cls.length) && decide (c < T.cls.length)) (.ok (.bool (T.isa e.1 c))) | _ => .no
  | .isv v, ρ => match ρ[v]? with | some (.xn e) => grd (decide (e.1 < T.cls.length)) (.ok (.bool true)) | _ => .no
  | .cme e t k is own, ρ => ((is.ev T ρ).bind fun ds => (itD k ds).quiet).bind fun its => grd (few its.length) ((gathE (turnQ t (fun ρ1 => e.ev T ρ1) own ρ) its).map .list)
  | .cmpr e t k is c own, ρ => ((is.ev T ρ).bind fun ds => (itD k ds).quiet).bind fun its => grd (few its.length) ((gather (turnD t (fun ρ1 => (c.ev T ρ1).bind tst) (fun ρ1 => e.ev T ρ1) own ρ) its).map .list)
  | .sst e, ρ => (e.ev T ρ).bind sstD
  | .dsp ks es, ρ => (es.ev T ρ).map fun ds => .dict (kvMerge [] ks ds)
  | .ssc ln e t k is own, ρ => ((is.ev T ρ).bind fun ds => (itD k ds).quiet).bind fun its => ((gather (turnD t (fun _ => .ok true) (fun ρ1 => e.ev T ρ1) own ρ) its).bind intsD).quiet.bind (sscD ln)
  | .cm2 e t k is t1 k1 is1 own own1, ρ => ((is.ev T ρ).bind fun ds => (itD k ds).quiet).bind fun its => (gath2 (turn2 t (fun ρ1 => (is1.ev T ρ1).bind fun ds => (itD k1 ds).quiet) t1 (fun ρ2 => e.ev T ρ2) own own1 ρ) its).bind fun r => grd (few r.length) (.ok (.list r))
def Es.ev (T : Tb) : Es → Env → Rs (List D)
  | .nil, _ => .ok []
  | .cons e es, ρ => (e.ev T ρ).bind fun x => (es.ev T ρ).map fun r => x :: r
end
end Rf
set_option Elab.async false
set_option linter.all false
set_option maxRecDepth 100000
namespace Rf
open PySem PySem.Spec PyProof.Rows L2
mutual
inductive Dp (K : PySem.W.Frag) (G : Hp) : V → D → Prop
  | non : Dp K G .non .none
  | bl (b : Bool) : Dp K G (.bl b) (.bool b)
  | int (i : Int) : Dp K G (.int i) (.int i)
  | str (x : Str) : Dp K G (.str x) (.str x)
  | lst {a : Addr} {xs : List V} {ds : List D} (q : SqL K G a xs) (r : DpAll K G xs ds) : Dp K G (.ref a) (.list ds)
  | tup {a : Addr} {xs : List V} {ds : List D} (q : SqT K G a xs) (r : DpAll K G xs ds) : Dp K G (.ref a) (.tuple ds)
  | dct {a : Addr} {xs : List (Key × V)} {ps : List (D × D)} (q : G a = some (.dK xs)) (r : DpKv K G xs ps) : Dp K G (.ref a) (.dict ps)
inductive DpAll (K : PySem.W.Frag) (G : Hp) : List V → List D → Prop
  | nil : DpAll K G [] []
  | cons {v : V} {vs : List V} {d : D} {ds : List D} (h : Dp K G v d) (t : DpAll K G vs ds) : DpAll K G (v :: vs) (d :: ds)
inductive DpKv (K : PySem.W.Frag) (G : Hp) : List (Key × V) → List (D × D) → Prop
  | nil : DpKv K G [] []
  | cons {x : Str} {v : V} {xs : List (Key × V)} {d : D} {ps : List (D × D)} (h : Dp K G v d) (t : DpKv K G xs ps) : DpKv K G ((.inr x, v) :: xs) ((.str x, d) :: ps)
end
mutual
theorem nod_lay : ∀ {d : D}, d.canLay0 = true → nod d = true
  | .none, _ => rfl
  | .bool _, _ => rfl
  | .int _, _ => rfl
  | .str _, _ => rfl
  | .list xs, h => nodAll_lay (by simpa [PyData.canLay0] using h)
  | .tuple xs, h => nodAll_lay (by simpa [PyData.canLay0] using h)
  | .dict _, h => by simp [PyData.canLay0] at h
theorem nodAll_lay : ∀ {ds : List D}, PyData.canLayAll0 ds = true → nodAll ds = true
  | [], _ => rfl
  | d :: ds, h => by
    simp only [PyData.canLayAll0, Bool.and_eq_true] at h
    show (nod d && nodAll ds) = true
    rw [nod_lay h.1, nodAll_lay h.2]; rfl
end
mutual
theorem nod_alike : ∀ {d : D}, PySem.W.alike d d = true → nod d = true
  | .none, _ => rfl
  | .bool _, _ => rfl
  | .int _, _ => rfl
  | .str _, _ => rfl
  | .list xs, h => nodAll_alike (show PySem.W.alikeAll xs xs = true from h)
  | .tuple xs, h => nodAll_alike (show PySem.W.alikeAll xs xs = true from h)
  | .dict _, h => nomatch (show false = true from h)
theorem nodAll_alike : ∀ {ds : List D}, PySem.W.alikeAll ds ds = true → nodAll ds = true
  | [], _ => rfl
  | d :: ds, h => by
    have h : (PySem.W.alike d d && PySem.W.alikeAll ds ds) = true := h
    rw [Bool.and_eq_true] at h
    show (nod d && nodAll ds) = true
    rw [nod_alike h.1, nodAll_alike h.2]; rfl
end
theorem nodAll_mem {ds : List D} (h : ∀ d ∈ ds, nod d = true) : nodAll ds = true := by
  induction ds with
  | nil => rfl
  | cons d ds ih =>
    show (nod d && nodAll ds) = true
    rw [h d List.mem_cons_self, ih fun e he => h e (List.mem_cons_of_mem _ he)]; rfl
mutual
theorem Dp.dp {K : PySem.W.Frag} {G : Hp} : ∀ {v : V} {d : D}, Dp K G v d → nod d = true → L2.Dp K G v d
  | _, _, .non, _ => .non
  | _, _, .bl b, _ => .bl b
  | _, _, .int i, _ => .int i
  | _, _, .str x, _ => .str x
  | _, _, .lst q r, h => .lst q (DpAll.dp r h)
  | _, _, .tup q r, h => .tup q (DpAll.dp r h)
  | _, _, .dct q r, h => nomatch (show false = true from h)
theorem DpAll.dp {K : PySem.W.Frag} {G : Hp} : ∀ {vs : List V} {ds : List D}, DpAll K G vs ds → nodAll ds = true → L2.DpAll K G vs ds
  | _, _, .nil, _ => .nil
  | _, _, .cons (d := d) (ds := ds) a b, h => by
    have h : (nod d && nodAll ds) = true := h
    rw [Bool.and_eq_true] at h
    exact .cons (Dp.dp a h.1) (DpAll.dp b h.2)
end
theorem Dp.readsN {X : Cx} {pins : List (Addr × Obj)} {σ : L2.St} {H : Hp} {s : Shared} (I : Inv X pins σ H s) (d : D) (v : V) (u : Value) (h : Dp X.K H v d) (r : RelV v u) (lay : nod d = true) : ∃ as, Reads s.heap u d as := L2.Dp.reads I d v u (h.dp lay) r
theorem Dp.readsAllN {X : Cx} {pins : List (Addr × Obj)} {σ : L2.St} {H : Hp} {s : Shared} (I : Inv X pins σ H s) (ds : List D) (vs : List V) (us : List Value) (h : DpAll X.K H vs ds) (r : Vals vs us) (lay : nodAll ds = true) : ∃ as, ReadsAll s.heap us ds as := L2.Dp.readsAll I ds vs us (h.dp lay) r
theorem Dp.reads {X : Cx} {pins : List (Addr × Obj)} {σ : L2.St} {H : Hp} {s : Shared} (I : Inv X pins σ H s) (d : D) (v : V) (u : Value) (h : Dp X.K H v d) (r : RelV v u) (lay : d.canLay0 = true) : ∃ as, Reads s.heap u d as := Dp.readsN I d v u h r (nod_lay lay)
theorem Dp.readsAll {X : Cx} {pins : List (Addr × Obj)} {σ : L2.St} {H : Hp} {s : Shared} (I : Inv X pins σ H s) (ds : List D) (vs : List V) (us : List Value) (h : DpAll X.K H vs ds) (r : Vals vs us) (lay : PyData.canLayAll0 ds = true) : ∃ as, ReadsAll s.heap us ds as := Dp.readsAllN I ds vs us h r (nodAll_lay lay)
section
variable {K : PySem.W.Frag} {G : Hp}
theorem DpKv_val : ∀ {xs : List (Key × V)} {ps : List (D × D)} {k : Str} {d : D}, DpKv K G xs ps → kvAt ps k = some d → ∃ v, valV xs (.inr k) = some v ∧ Dp K G v d
  | _, _, k, d, .nil, h => nomatch h
  | _, _, k, d, .cons (x := x) (v := v) (xs := xs) (d := e) (ps := ps) a b, h => by
    by_cases q : x = k
    · have h : (List.find? (keyIs k) ((.str x, e) :: ps)).map (·.2) = some d := h
      rw [List.find?_cons_of_pos (show keyIs k (.str x, e) = true from decide_eq_true q)] at h
      have h : e = d := Option.some.inj h
      subst h
      exact ⟨v, valV_pos (by rw [q]), a⟩
    · have h : (List.find? (keyIs k) ((.str x, e) :: ps)).map (·.2) = some d := h
      rw [List.find?_cons_of_neg (show ¬ keyIs k (.str x, e) = true from fun z => q (of_decide_eq_true z))] at h
      obtain ⟨w, h1, h2⟩ := DpKv_val b h
      exact ⟨w, by rw [valV_neg (fun z => q (by injection z))]; exact h1, h2⟩
theorem DpKv_any : ∀ {xs : List (Key × V)} {ps : List (D × D)} (k : Str), DpKv K G xs ps → (xs.any fun p => decide (p.1 = .inr k)) = ps.any (keyIs k)
  | _, _, k, .nil => rfl
  | _, _, k, .cons (x := x) (d := e) a b => by
    rw [List.any_cons, List.any_cons, DpKv_any k b]
    congr 1
    show decide ((.inr x : Key) = .inr k) = decide (x = k)
    by_cases q : x = k
    · subst q; simp
    · rw [decide_eq_false q, decide_eq_false fun z => q (by injection z)]
theorem DpKv_map : ∀ {xs : List (Key × V)} {ps : List (D × D)} (k : Str) {v : V} {d : D}, DpKv K G xs ps → Dp K G v d → DpKv K G (xs.map fun p => if p.1 = .inr k then (p.1, v) else p) (ps.map fun p => if keyIs k p = true then (p.1, d) else p)
  | _, _, k, v, d, .nil, _ => .nil
  | _, _, k, v, d, .cons (x := x) (v := w) (d := e) a b, h => by
    have ih := DpKv_map k b h
    rw [List.map_cons, List.map_cons]
    by_cases q : x = k
    · rw [if_pos (by rw [q]), if_pos (show keyIs k (.str x, e) = true from decide_eq_true q)]
      exact .cons h ih
    · rw [if_neg (fun z => q (by injection z)), if_neg (show ¬ keyIs k (.str x, e) = true from fun z => q (of_decide_eq_true z))]
      exact .cons a ih
theorem DpKv_snoc : ∀ {xs : List (Key × V)} {ps : List (D × D)} (k : Str) {v : V} {d : D}, DpKv K G xs ps → Dp K G v d → DpKv K G (xs ++ [(.inr k, v)]) (ps ++ [(.str k, d)])
  | _, _, k, v, d, .nil, h => .cons h .nil
  | _, _, k, v, d, .cons a b, h => .cons a (DpKv_snoc k b h)
theorem DpKv_put {xs : List (Key × V)} {ps : List (D × D)} (k : Str) {v : V} {d : D} (h : DpKv K G xs ps) (r : Dp K G v d) : DpKv K G (putK xs (.inr k) v) (kvPut ps k d) := by
  unfold putK kvPut
  rw [DpKv_any k h]
  by_cases q : ps.any (keyIs k) = true
  · rw [if_pos q, if_pos q]; exact DpKv_map k h r
  · rw [if_neg q, if_neg q]; exact DpKv_snoc k h r
theorem DpKv_len : ∀ {xs : List (Key × V)} {ps : List (D × D)}, DpKv K G xs ps → xs.length = ps.length
  | _, _, .nil => rfl
  | _, _, .cons _ b => by simp [DpKv_len b]
/-- values behind given keys -/
def kvZ (ks : List Str) (vs : List V) : List (Key × V) := (ks.map (.inr : Str → Key)).zip vs
theorem DpKv_merge : ∀ {ks : List Str} {xs : List (Key × V)} {ps : List (D × D)} {vs : List V} {ds : List D}, DpKv K G xs ps → DpAll K G vs ds → DpKv K G (mergeK xs (kvZ ks vs)) (kvMerge ps ks ds)
  | [], _, _, _, _, h, r => by cases r <;> exact h
  | k :: ks, _, _, _, _, h, .nil => h
  | k :: ks, _, _, _, _, h, .cons a b => DpKv_merge (ks := ks) (DpKv_put k h a) b
theorem DpKv_mrg : ∀ {ys : List (Key × V)} {qs : List (D × D)} {xs : List (Key × V)} {ps : List (D × D)}, DpKv K G xs ps → DpKv K G ys qs → DpKv K G (mergeK xs ys) (kvMrg ps qs)
  | _, _, _, _, h, .nil => h
  | _, _, xs, ps, h, .cons (x := x) (v := v) (xs := ys) (d := d) (ps := qs) a b => by
    show DpKv K G (mergeK (putK xs (.inr x) v) ys) (kvMrg (kvPut ps x d) qs)
    exact DpKv_mrg (DpKv_put x h a) b
end
end Rf
set_option Elab.async false
set_option linter.all false
set_option maxRecDepth 100000
namespace Rf
open PySem PySem.Spec PyProof.Rows L2
theorem Same.seqT {K : PySem.W.Frag} {H H' : Hp} {a : Addr} {xs : List V} (e : Same H H') (h : SqT K H a xs) : SqT K H' a xs := by
  rcases h with (h | ⟨o, h⟩) | h
  · exact .inl (.inl (e _ _ h))
  · exact .inl (.inr ⟨o, e _ _ h⟩)
  · exact .inr h
mutual
theorem Dp_mono {K : PySem.W.Frag} {G H : Hp} (e : Same G H) : ∀ {v : V} {d : D}, Dp K G v d → Dp K H v d
  | _, _, .non => .non
  | _, _, .bl b => .bl b
  | _, _, .int i => .int i
  | _, _, .str x => .str x
  | _, _, .lst q r => .lst (e.seq q) (DpAll_mono e r)
  | _, _, .tup q r => .tup (Same.seqT e q) (DpAll_mono e r)
  | _, _, .dct q r => .dct (e _ _ q) (DpKv_mono e r)
theorem DpAll_mono {K : PySem.W.Frag} {G H : Hp} (e : Same G H) : ∀ {vs : List V} {ds : List D}, DpAll K G vs ds → DpAll K H vs ds
  | _, _, .nil => .nil
  | _, _, .cons a b => .cons (Dp_mono e a) (DpAll_mono e b)
theorem DpKv_mono {K : PySem.W.Frag} {G H : Hp} (e : Same G H) : ∀ {vs : List (Key × V)} {ds : List (D × D)}, DpKv K G vs ds → DpKv K H vs ds
  | _, _, .nil => .nil
  | _, _, .cons a b => .cons (Dp_mono e a) (DpKv_mono e b)
end
section
variable {K : PySem.W.Frag} {G : Hp}
theorem DpAll_len : ∀ {vs : List V} {ds : List D}, DpAll K G vs ds → vs.length = ds.length
  | _, _, .nil => rfl
  | _, _, .cons _ b => by simp [DpAll_len b]
theorem DpAll_app : ∀ {vs ws : List V} {ds es : List D}, DpAll K G vs ds → DpAll K G ws es → DpAll K G (vs ++ ws) (ds ++ es)
  | _, _, _, _, .nil, h => h
  | _, _, _, _, .cons a b, h => .cons a (DpAll_app b h)
theorem DpAll_take : ∀ {vs : List V} {ds : List D} (n : Nat), DpAll K G vs ds → DpAll K G (vs.take n) (ds.take n)
  | _, _, 0, _ => .nil
  | _, _, _ + 1, .nil => .nil
  | _, _, n + 1, .cons a b => .cons a (DpAll_take n b)
theorem DpAll_drop : ∀ {vs : List V} {ds : List D} (n : Nat), DpAll K G vs ds → DpAll K G (vs.drop n) (ds.drop n)
  | _, _, 0, h => h
  | _, _, _ + 1, .nil => .nil
  | _, _, n + 1, .cons a b => DpAll_drop n b
theorem DpAll_rev {vs : List V} {ds : List D} (h : DpAll K G vs ds) : DpAll K G vs.reverse ds.reverse := by
  induction vs generalizing ds with
  | nil => cases h; exact .nil
  | cons v vs ih =>
    cases h with
    | cons a b => rw [List.reverse_cons, List.reverse_cons]; exact DpAll_app (ih b) (.cons a .nil)
theorem DpAll_get : ∀ {vs : List V} {ds : List D} {i : Nat} {d : D}, DpAll K G vs ds → ds[i]? = some d → ∃ v, vs[i]? = some v ∧ Dp K G v d
  | _, _, _, _, .nil, h => by simp at h
  | _, _, 0, d, .cons a b, h => by simp at h; subst h; exact ⟨_, rfl, a⟩
  | _, _, i + 1, d, .cons a b, h => by
    obtain ⟨v, e, r⟩ := DpAll_get (i := i) b (by simpa using h)
    exact ⟨v, by simpa using e, r⟩
theorem DpAll_getV : ∀ {vs : List V} {ds : List D} {i : Nat} {v : V}, DpAll K G vs ds → vs[i]? = some v → ∃ d, ds[i]? = some d ∧ Dp K G v d
  | _, _, _, _, .nil, h => by simp at h
  | _, _, 0, v, .cons a b, h => by simp at h; subst h; exact ⟨_, rfl, a⟩
  | _, _, i + 1, v, .cons a b, h => by
    obtain ⟨d, e, r⟩ := DpAll_getV (i := i) b (by simpa using h)
    exact ⟨d, by simpa using e, r⟩
theorem DpAll_set : ∀ {vs : List V} {ds : List D} {v : V} {d : D} (i : Nat), DpAll K G vs ds → Dp K G v d → DpAll K G (vs.set i v) (ds.set i d)
  | _, _, _, _, _, .nil, _ => .nil
  | _, _, _, _, 0, .cons a b, h => .cons h b
  | _, _, _, _, i + 1, .cons a b, h => .cons a (DpAll_set i b h)
theorem DpAll_atI {vs : List V} {ds : List D} {i : Int} {d : D} (h : DpAll K G vs ds) (e : atI ds i = some d) : ∃ v, atI vs i = some v ∧ Dp K G v d := by
  unfold atI at e ⊢
  rw [DpAll_len h]
  cases q : ixN ds.length i with
  | none => rw [q] at e; cases e
  | some j =>
    rw [q] at e
    exact DpAll_get h (show ds[j]? = some d from e)
theorem DpAll_cut {vs : List V} {ds : List D} (h : DpAll K G vs ds) (lo hi : Option Int) : DpAll K G (cutV vs lo hi) (cutD ds lo hi) := by
  unfold cutV cutD
  rw [DpAll_len h]
  exact DpAll_take _ (DpAll_drop _ h)
theorem DpAll_ints : ∀ {vs : List V} {ds : List D} {ns : List Int}, DpAll K G vs ds → intsD ds = .ok ns → vs = ns.map V.int
  | _, _, _, .nil, h => by cases h; rfl
  | _, _, ns, .cons (d := d) (ds := ds) a b, h => by
    cases a with
    | int i =>
      unfold intsD at h
      cases q : intsD ds with
      | ok m =>
        rw [q] at h
        have e : i :: m = ns := by injection h
        subst e
        rw [DpAll_ints b q]; rfl
      | ex e => rw [q] at h; cases h
      | no => rw [q] at h; cases h
    | non => unfold intsD at h; cases h
    | bl => unfold intsD at h; cases h
    | str => unfold intsD at h; cases h
    | lst => unfold intsD at h; cases h
    | tup => unfold intsD at h; cases h
    | dct => unfold intsD at h; cases h
theorem DpAll_bools : ∀ {vs : List V} {ds : List D} {ns : List Bool}, DpAll K G vs ds → boolsD ds = .ok ns → vs = ns.map V.bl
  | _, _, _, .nil, h => by cases h; rfl
  | _, _, ns, .cons (d := d) (ds := ds) a b, h => by
    cases a with
    | bl i =>
      unfold boolsD at h
      cases q : boolsD ds with
      | ok m =>
        rw [q] at h
        have e : i :: m = ns := by injection h
        subst e
        rw [DpAll_bools b q]; rfl
      | ex e => rw [q] at h; cases h
      | no => rw [q] at h; cases h
    | non => unfold boolsD at h; cases h
    | int => unfold boolsD at h; cases h
    | str => unfold boolsD at h; cases h
    | lst => unfold boolsD at h; cases h
    | tup => unfold boolsD at h; cases h
    | dct => unfold boolsD at h; cases h
end
/-- on the way: nothing tracked is changed, the frozen part grows by new objects alone -/
structure Stp (G H G' H' : Hp) : Prop where
  hh : Same H H'
  gg : Same G G'
  gh : Same G' H'
  nw : ∀ a o, G' a = some o → G a = none → H a = none
theorem Stp.refl {G H : Hp} (s : Same G H) : Stp G H G H := ⟨Same.refl H, Same.refl G, s, fun a o h n => by rw [h] at n; cases n⟩
theorem Stp.sub {G H G' H' : Hp} (s : Stp G H G' H') : Same G' H' := s.gh
theorem Stp.trans {G H G1 H1 G2 H2 : Hp} (a : Stp G H G1 H1) (b : Stp G1 H1 G2 H2) : Stp G H G2 H2 :=
  ⟨a.hh.trans b.hh, a.gg.trans b.gg, b.gh, fun c o h n => by
    cases q : G1 c with
    | none => exact a.hh.free (b.nw c o h q)
    | some u => exact a.nw c u q n⟩
theorem Same.upd {H : Hp} {p : Addr} {o : HO} (h : H p = none) : Same H (upd H p o) := fun b x e => by
  rw [upd_ne (ne_of_none e h)]
  exact e
theorem Stp.new {G H : Hp} {p : Addr} {o : HO} (s : Same G H) (h : H p = none) : Stp G H (upd G p o) (upd H p o) :=
  ⟨Same.upd h, Same.upd (s.free h), fun a u e => by
    by_cases q : a = p
    · subst q; rw [upd_same] at e ⊢; exact e
    · rw [upd_ne q] at e ⊢; exact s a u e, fun a u e n => by
    by_cases q : a = p
    · subst q; exact h
    · rw [upd_ne q] at e; rw [e] at n; cases n⟩
/-- an object that is laid beside the frozen ones -/
theorem Stp.beside {G H : Hp} {p : Addr} {o : HO} (s : Same G H) (h : H p = none) : Stp G H G (L2.upd H p o) :=
  ⟨Same.upd h, Same.refl G, fun a u e => Same.upd h a u (s a u e), fun a u e n => by rw [e] at n; cases n⟩

/-- the classes' places; what is wanted of what is raised -/
structure Cw where
  K : PySem.W.Frag
  ca : Nat → Addr
  W : WX
  xa : Option (Addr × Xn)
  th : Nat → Addr
def XW (ca : Nat → Addr) (W : WX) (σ : L2.St) (e : Xn) (H : Hp) : Prop := match e.2 with
  | none => W (.ref (ca e.1)) none σ H
  | some n => ∀ d, H d = some (.xd [("now", .int n)]) → W (.ref (ca e.1)) (some d) σ H
def PoG {α β : Type} (R : Hp → β → α → Prop) (c : Cw) (σ : L2.St) (G H : Hp) (x : Rs α) (Q : β → Hp → Prop) : Prop := match x with
  | .ok d => ∀ u G' H', Stp G H G' H' → R G' u d → Q u H'
  | .ex e => ∀ G' H', Stp G H G' H' → XW c.ca c.W σ e H'
  | .no => False
section
variable {α β γ δ : Type} {R : Hp → β → α → Prop} {S : Hp → δ → γ → Prop} {c : Cw} {σ : L2.St} {G H G1 H1 : Hp}
theorem PoG.mono {x : Rs α} {Q : β → Hp → Prop} (s : Stp G H G1 H1) (p : PoG R c σ G H x Q) : PoG R c σ G1 H1 x Q := by
  cases x with
  | ok d => exact fun u G' H' s' r => p u G' H' (s.trans s') r
  | ex e => exact fun G' H' s' => p G' H' (s.trans s')
  | no => exact p
theorem PoG.seq {x : Rs α} {f : α → Rs γ} {Q : δ → Hp → Prop} {Q1 : β → Hp → Prop} (p : PoG S c σ G H (x.bind f) Q)
    (h : ∀ a u G1 H1, x = .ok a → Stp G H G1 H1 → R G1 u a → PoG S c σ G1 H1 (f a) Q → Q1 u H1) : PoG R c σ G H x Q1 := by
  cases x with
  | ok d => exact fun u G' H' s r => h d u G' H' rfl s r (PoG.mono s p)
  | ex e => exact p
  | no => exact p
end
abbrev Kx := PySem.W.Frag × (Option (Addr × Xn) × (Nat → Addr))
abbrev Cw.kx (c : Cw) : Kx := (c.K, (c.xa, c.th))
/-- lists of a name's own, each an object of its own -/
inductive RowsR (K : PySem.W.Frag) (G H : Hp) : List Addr → List (List D) → Prop
  | nil : RowsR K G H [] []
  | cons {a : Addr} {as : List Addr} {vs : List V} {ds : List D} {dss : List (List D)} (h : H a = some (.lst vs)) (g : G a = none) (r : DpAll K G vs ds) (t : RowsR K G H as dss) : RowsR K G H (a :: as) (ds :: dss)
/-- slots -/
def SlotR (K : Kx) (G H : Hp) : Sl → Option V → Prop
  | .un, _ => True
  | .fz d, v => ∃ u, v = some u ∧ Dp K.1 G u d
  | .ow ds, v => ∃ a vs, v = some (.ref a) ∧ H a = some (.lst vs) ∧ G a = none ∧ DpAll K.1 G vs ds
  | .nw dss, v => ∃ (a : Addr) (as : List Addr), v = some (.ref a) ∧ H a = some (.lst (as.map V.ref)) ∧ G a = none ∧ RowsR K.1 G H as dss ∧ (a :: as).Nodup
  | .xn e, v => ∃ a, v = some (.ref a) ∧ K.2.1 = some (a, e)
  | .pt k, v => v = some (.ref (K.2.2 k))
  | .od m ps, v => ∃ a xs, v = some (.ref a) ∧ H a = some (.dK xs) ∧ G a = none ∧ DpKv K.1 G xs ps ∧ (m = true → a = K.2.2 0)
structure EnvR (K : Kx) (G H : Hp) (ρ : Env) (σ : L2.St) : Prop where
  len : ρ.length = σ.length
  at_ : ∀ (i : Nat) (s : Sl) (v : Option V), ρ[i]? = some s → σ[i]? = some v → SlotR K G H s v
theorem RowsR.step {K : PySem.W.Frag} {G H G' H' : Hp} (st : Stp G H G' H') : ∀ {as : List Addr} {dss : List (List D)}, RowsR K G H as dss → RowsR K G' H' as dss
  | _, _, .nil => .nil
  | _, _, .cons (a := a) h g r t => .cons (st.hh a _ h) (by
    cases z : G' a with
    | none => rfl
    | some o => have y := st.nw a o z g; rw [h] at y; cases y) (DpAll_mono st.gg r) (RowsR.step st t)
theorem RowsR.mem {K : PySem.W.Frag} {G H : Hp} {b : Addr} : ∀ {as : List Addr} {dss : List (List D)}, RowsR K G H as dss → b ∈ as → G b = none ∧ ∃ vs, H b = some (.lst vs)
  | _, _, .nil, h => by cases h
  | _, _, .cons h g r t, hb => by
    rcases List.mem_cons.mp hb with e | e
    · subst e; exact ⟨g, _, h⟩
    · exact RowsR.mem t e
theorem RowsR.len {K : PySem.W.Frag} {G H : Hp} : ∀ {as : List Addr} {dss : List (List D)}, RowsR K G H as dss → as.length = dss.length
  | _, _, .nil => rfl
  | _, _, .cons _ _ _ t => by simp [RowsR.len t]
/-- other heaps that tell the rows alike -/
theorem RowsR.same {K : PySem.W.Frag} {G H G' H' : Hp} : ∀ {as : List Addr} {dss : List (List D)}, RowsR K G H as dss → Same G G' → (∀ a ∈ as, H' a = H a ∧ G' a = none) → RowsR K G' H' as dss
  | _, _, .nil, _, _ => .nil
  | _, _, .cons (a := a) h g r t, sg, e => .cons (by rw [(e a List.mem_cons_self).1]; exact h) (e a List.mem_cons_self).2 (DpAll_mono sg r) (RowsR.same t sg fun b hb => e b (List.mem_cons_of_mem _ hb))
/-- what a slot holds as its own -/
def fp (H : Hp) : Sl → Option V → Addr → Prop
  | .ow _, v, b => v = some (.ref b)
  | .nw _, v, b => ∃ (a : Addr) (as : List Addr), v = some (.ref a) ∧ H a = some (.lst (as.map V.ref)) ∧ (b = a ∨ b ∈ as)
  | .od _ _, v, b => v = some (.ref b)
  | _, _, _ => False
theorem refs_inj {as bs : List Addr} (h : as.map V.ref = bs.map V.ref) : as = bs := by
  refine (List.map_inj_right (fun a b e => ?_)).mp h
  injection e
theorem SlotR.step {K : Kx} {G H G' H' : Hp} {s : Sl} {v : Option V} (st : Stp G H G' H') (h : SlotR K G H s v) : SlotR K G' H' s v := by
  cases s with
  | un => trivial
  | fz d => obtain ⟨u, e, r⟩ := h; exact ⟨u, e, Dp_mono st.gg r⟩
  | ow ds =>
    obtain ⟨a, vs, e, q, n, r⟩ := h
    refine ⟨a, vs, e, st.hh a _ q, ?_, DpAll_mono st.gg r⟩
    cases z : G' a with
    | none => rfl
    | some o => have y := st.nw a o z n; rw [q] at y; cases y
  | nw dss =>
    obtain ⟨a, as, e, q, n, r, nd⟩ := h
    refine ⟨a, as, e, st.hh a _ q, ?_, r.step st, nd⟩
    cases z : G' a with
    | none => rfl
    | some o => have y := st.nw a o z n; rw [q] at y; cases y
  | xn e => exact h
  | pt k => exact h
  | od m ps =>
    obtain ⟨a, xs, e, q, n, r, z0⟩ := h
    refine ⟨a, xs, e, st.hh a _ q, ?_, DpKv_mono st.gg r, z0⟩
    cases z : G' a with
    | none => rfl
    | some o => have y := st.nw a o z n; rw [q] at y; cases y
theorem fp_kind {K : Kx} {G H : Hp} {s : Sl} {v : Option V} {b : Addr} (h : SlotR K G H s v) (f : fp H s v b) : G b = none ∧ ((∃ vs, H b = some (.lst vs)) ∨ ∃ xs, H b = some (.dK xs)) := by
  cases s with
  | od m ps =>
    obtain ⟨a, xs, e, q, n, r, _⟩ := h
    have f : v = some (.ref b) := f
    rw [e] at f
    have f := Option.some.inj f
    injection f with f
    subst f
    exact ⟨n, .inr ⟨xs, q⟩⟩
  | ow ds =>
    obtain ⟨a, vs, e, q, n, r⟩ := h
    have f : v = some (.ref b) := f
    rw [e] at f
    have f := Option.some.inj f
    injection f with f
    subst f
    exact ⟨n, .inl ⟨vs, q⟩⟩
  | nw dss =>
    obtain ⟨a, as, e, q, n, r, nd⟩ := h
    obtain ⟨a', as', e', q', f⟩ := f
    rw [e] at e'
    have e' := Option.some.inj e'
    injection e' with e'
    subst e'
    rw [q] at q'
    injection q' with q'
    injection q' with q'
    have q' := refs_inj q'
    subst q'
    rcases f with f | f
    · subst f; exact ⟨n, .inl ⟨_, q⟩⟩
    · exact ⟨(r.mem f).1, .inl (r.mem f).2⟩
  | un => exact f.elim
  | fz => exact f.elim
  | xn => exact f.elim
  | pt => exact f.elim
theorem fp_own {K : Kx} {G H : Hp} {s : Sl} {v : Option V} {b : Addr} (h : SlotR K G H s v) (f : fp H s v b) : G b = none ∧ ∃ o, H b = some o := by
  obtain ⟨a, ⟨_, e⟩ | ⟨_, e⟩⟩ := fp_kind h f
  · exact ⟨a, _, e⟩
  · exact ⟨a, _, e⟩
/-- the footprint stays where the slot's objects stay -/
theorem fp_eq {K : Kx} {G H H' : Hp} {s : Sl} {v : Option V} {b : Addr} (h : SlotR K G H s v) (e : ∀ c, fp H s v c → H' c = H c) (f : fp H' s v b) : fp H s v b := by
  cases s with
  | ow ds => exact f
  | od m ps => exact f
  | nw dss =>
    obtain ⟨a, as, e1, q, n, r, nd⟩ := h
    obtain ⟨a', as', e', q', f⟩ := f
    rw [e1] at e'
    have e' := Option.some.inj e'
    injection e' with e'
    subst e'
    rw [e a ⟨a, as, e1, q, .inl rfl⟩] at q'
    exact ⟨a, as', e1, q', f⟩
  | un => exact f.elim
  | fz => exact f.elim
  | xn => exact f.elim
  | pt => exact f.elim
theorem fp_same {K : Kx} {G H H' : Hp} {s : Sl} {v : Option V} {b : Addr} (h : SlotR K G H s v) (e : Same H H') (f : fp H' s v b) : fp H s v b := fp_eq h (fun c fc => by
  obtain ⟨_, vs, hc⟩ := fp_own h fc
  rw [hc, e c _ hc]) f
/-- a slot whose own objects stay, and nothing of which is frozen -/
theorem SlotR.other {K : Kx} {G H G' H' : Hp} {s : Sl} {v : Option V} (h : SlotR K G H s v) (sg : Same G G') (e : ∀ c, fp H s v c → H' c = H c ∧ G' c = none) : SlotR K G' H' s v := by
  cases s with
  | ow ds =>
    obtain ⟨a, vs, e1, q, n, r⟩ := h
    obtain ⟨k1, k2⟩ := e a e1
    exact ⟨a, vs, e1, by rw [k1]; exact q, k2, DpAll_mono sg r⟩
  | od m ps =>
    obtain ⟨a, xs, e1, q, n, r, z0⟩ := h
    obtain ⟨k1, k2⟩ := e a e1
    exact ⟨a, xs, e1, by rw [k1]; exact q, k2, DpKv_mono sg r, z0⟩
  | nw dss =>
    obtain ⟨a, as, e1, q, n, r, nd⟩ := h
    obtain ⟨k1, k2⟩ := e a ⟨a, as, e1, q, .inl rfl⟩
    exact ⟨a, as, e1, by rw [k1]; exact q, k2, r.same sg fun b hb => e b ⟨a, as, e1, q, .inr hb⟩, nd⟩
  | un => trivial
  | fz d => obtain ⟨u, e, r⟩ := h; exact ⟨u, e, Dp_mono sg r⟩
  | xn => exact h
  | pt => exact h
theorem EnvR.step {K : Kx} {G H G' H' : Hp} {ρ : Env} {σ : L2.St} (st : Stp G H G' H') (h : EnvR K G H ρ σ) : EnvR K G' H' ρ σ :=
  ⟨h.len, fun i s v a b => (h.at_ i s v a b).step st⟩
theorem EnvR.get {K : Kx} {G H : Hp} {ρ : Env} {σ : L2.St} (h : EnvR K G H ρ σ) {i : Nat} {s : Sl} (e : ρ[i]? = some s) : ∃ v, σ[i]? = some v ∧ SlotR K G H s v := by
  obtain ⟨hl, _⟩ := List.getElem?_eq_some_iff.mp e
  have hl2 : i < σ.length := by rw [← h.len]; exact hl
  exact ⟨σ[i], List.getElem?_eq_getElem hl2, h.at_ i s _ e (List.getElem?_eq_getElem hl2)⟩
theorem EnvR.set {K : Kx} {G H : Hp} {ρ : Env} {σ : L2.St} (h : EnvR K G H ρ σ) {i : Nat} {s : Sl} {v : Option V} (r : SlotR K G H s v) : EnvR K G H (ρ.set i s) (σ.set i v) := by
  refine ⟨by simp [h.len], fun j t w a b => ?_⟩
  by_cases e : i = j
  · subst e
    rw [List.getElem?_set_self'] at a b
    cases q : ρ[i]? with
    | none => rw [q] at a; cases a
    | some x =>
      cases q2 : σ[i]? with
      | none => rw [q2] at b; cases b
      | some y =>
        rw [q] at a; rw [q2] at b
        have e1 : s = t := Option.some.inj a
        have e2 : v = w := Option.some.inj b
        subst e1; subst e2; exact r
  · rw [List.getElem?_set_ne e] at a b
    exact h.at_ j t w a b
theorem EnvR.setU {K : Kx} {G H : Hp} {ρ : Env} {σ : L2.St} (h : EnvR K G H ρ σ) {i : Nat} {u : V} {d : D} (r : Dp K.1 G u d) : EnvR K G H (ρ.set i (.fz d)) (σ.set i (some u)) := h.set ⟨u, rfl, r⟩
theorem EnvR.wipe {K : Kx} {G H : Hp} {ρ : Env} {σ : L2.St} (h : EnvR K G H ρ σ) : ∀ vs : List Nat, EnvR K G H (wipeE ρ vs) (L2.wipe σ vs)
  | [] => h
  | v :: vs => by
    unfold wipeE L2.wipe
    exact (EnvR.wipe h vs).set trivial
/-- what an expression asks: its value by the evaluator -/
def tG {α β : Type} (R : Hp → β → α → Prop) (c : Cw) (r : Env → Rs α) : L2.St → Hp → (β → Hp → Prop) → Prop := fun σ H Q => ∃ ρ G, Same G H ∧ EnvR c.kx G H ρ σ ∧ PoG R c σ G H (r ρ) Q
abbrev tE (c : Cw) (r : Env → Rs D) : TE := tG (Dp c.K) c r
abbrev tL (c : Cw) (r : Env → Rs (List D)) : TA := tG (DpAll c.K) c r
abbrev tTs (c : Cw) (r : Env → Rs D) : TT := tG (fun _ b b' => b' = b) c fun ρ => (r ρ).bind asB
theorem PE.mono {X : Cx} {e : Expr} {t t' : TE} (h : PE X e t) (i : ∀ σ H Q, t' σ H Q → t σ H Q) : PE X e t' := ⟨fun pins s σ H Q I q => h.run pins s σ H Q I (i _ _ _ q)⟩
theorem PT.mono {X : Cx} {e : Expr} {t t' : TT} (h : PT X e t) (i : ∀ σ H Q, t' σ H Q → t σ H Q) : PT X e t' := ⟨fun pins s σ H Q I q => h.run pins s σ H Q I (i _ _ _ q)⟩
theorem PW.mono {X : Cx} {e : Expr} {t t' : TT} (h : PW X e t) (i : ∀ σ H Q, t' σ H Q → t σ H Q) : PW X e t' := ⟨fun w pins s σ H Q I q => h.run w pins s σ H Q I (i _ _ _ q)⟩
theorem PA.mono {X : Cx} {e : List Expr} {t t' : TA} (h : PA X e t) (i : ∀ σ H Q, t' σ H Q → t σ H Q) : PA X e t' := ⟨fun p pins s σ H Q I q => h.run p pins s σ H Q I (i _ _ _ q)⟩
/-- the first part of a bind -/
theorem tG.first {α β γ δ : Type} {R : Hp → β → α → Prop} {S : Hp → δ → γ → Prop} {c : Cw} {σ : L2.St} {G H : Hp} {ρ : Env} {r : Env → Rs α} {f : α → Rs γ} {Q : δ → Hp → Prop} {Q1 : β → Hp → Prop} (sg : Same G H) (e : EnvR c.kx G H ρ σ)
    (p : PoG S c σ G H ((r ρ).bind f) Q) (h : ∀ a u G1 H1, Same G1 H1 → EnvR c.kx G1 H1 ρ σ → Stp G H G1 H1 → R G1 u a → PoG S c σ G1 H1 (f a) Q → Q1 u H1) : tG R c r σ H Q1 :=
  ⟨ρ, G, sg, e, p.seq fun a u G1 H1 _ st ra p1 => h a u G1 H1 st.gh (e.step st) st ra p1⟩
/-- the last part, as it stands -/
theorem tG.last {α β : Type} {R : Hp → β → α → Prop} {c : Cw} {σ : L2.St} {G H : Hp} {ρ : Env} {r : Env → Rs α} {Q : β → Hp → Prop} (sg : Same G H) (e : EnvR c.kx G H ρ σ) (p : PoG R c σ G H (r ρ) Q) : tG R c r σ H Q := ⟨ρ, G, sg, e, p⟩
end Rf
set_option Elab.async false
set_option linter.all false
set_option maxRecDepth 100000
set_option maxHeartbeats 3900000
namespace Rf
open PySem PySem.Spec PyProof.Rows L2
abbrev seqO (T : String) (items : Array Value) (n : Nat) (dd : Option Addr) (sl : Array (Option Value)) : Obj := { cls := .type T, dict := dd, data := .seq items n, slots := sl }
/-- a sequence on the heap times a number: int's own row tells that this is none of its, the sequence's row does it -/
structure Timed (T id : String) (Bn : Builtin) : Prop where
  other : (Value.type T == Value.type "int") = false
  fill : fillsNumberSlot (.type T) "mul" = pure false
  rep : seqRepeat? (.type T) = pure (some (.builtin id))
  slot : Slot T (dunder "mul") id
  row : entryFor table id = some Bn
  args : ∀ a b, argsOk id { pos := [a, b] }
theorem Timed.run {T id : String} {Bn : Builtin} (Y : Timed T id Bn) {P : Program} {w : World} {A : Around} {E Q : Value → Shared → Prop} {s : Shared} {l : Addr} {items : Array Value} {n : Nat} {dd : Option Addr} {sl : Array (Option Value)} {k : Int} {t : Tok} {S : PySem.Spec}
    (not : Meets (Builtin.«int.__rmul__» ⟨[.int k t, .ref l], []⟩) (fun _ R s => s.heap.get? l = some (seqO T items n dd sl) ∧ R (.ok (.ret Value.notImplemented)) s))
    (does : Meets (Bn ⟨[.ref l, .int k t], []⟩) (fun A R s => s.heap.get? l = some (seqO T items n dd sl) ∧ S A R s)) (there : s.heap.get? l = some (seqO T items n dd sl)) (h : S A (wants Q E) s) :
    wpAny (model P w) A (binaryOp .Mult (.ref l) (.int k t)) Q E s :=
  have ty : s.TypeIs (.ref l) T := ⟨_, there, rfl⟩
  have own := call_meets (E := E) Y.slot ty Y.row (Y.args _ _) does ⟨there, h⟩
  wpAny_binaryOp_repeat_ref Y.other ty (fun s2 => typeIs_int s2 k t) Y.fill F.fills_int_mul F.slot_int_rmul Y.rep F.slot_int_index.lookup (call_meets F.slot_int_rmul (typeIs_int s k t) F.entry_int_rmul (F.args_int_rmul_2 _ _) not ⟨there, rfl, ty, own⟩)
theorem tupTimed : Timed "tuple" "tuple.__mul__" Builtin.«tuple.__mul__» := ⟨by decide, noFill_tuple_mul, repeat_tuple, F.slot_tuple_mul, F.entry_tuple_mul, F.args_tuple_mul_2⟩
theorem lstTimed : Timed "list" "list.__mul__" Builtin.«list.__mul__» := ⟨by decide, noFill_list_mul, repeat_list, F.slot_list_mul, F.entry_list_mul, F.args_list_mul_2⟩
/-- a tuple once is itself; no times, or fewer, it is empty -/
theorem tupFew (l : Addr) (items : Array Value) (n : Nat) (dd : Option Addr) (sl : Array (Option Value)) (x : Int) (u : Tok) (low : -(2 ^ 63) ≤ x) (few : x ≤ 1) (full : items.isEmpty = false) :
    Meets (Builtin.«tuple.__mul__» ⟨[.ref l, .int x u], []⟩) (fun _ R s => s.heap.get? l = some (seqO "tuple" items n dd sl) ∧
      if x = 1 then R (.ok (.ret (.ref l))) s else R (.ok (.ret (.ref s.heap.objs.size))) { s with heap := s.heap.push { cls := .type "tuple", data := .seq #[] } }) :=
  Meets.of_wp fun P w A R ⟨hp, gs, dr, tk, os⟩ ⟨there, fin⟩ => by
    have idx := AutoSeq1.idx_int
    have fits : (decide (x < -(2 ^ 63)) || decide (x ≥ 2 ^ 63)) = false := by simp only [Bool.or_eq_false_iff, decide_eq_false_iff_not]; omega
    obtain rfl | ne := Decidable.em (x = 1)
    · have same : (items.isEmpty || (1 : Int) == 1) = true := by simp
      rw [if_pos rfl] at fin
      wp_walk using wpAny_loadPart' there
      simp only [fits, same, Bool.false_eq_true, decide_false, decide_true, if_true, if_false]
      wp_walk using wpAny_loadPart' there
      exact ⟨_, rfl, fin⟩
    · have other : (items.isEmpty || x == 1) = false := by simp [full, ne]
      have none_ : (decide (x ≤ 0) || items.isEmpty) = true := by simp only [Bool.or_eq_true, decide_eq_true_eq]; omega
      rw [if_neg ne] at fin
      wp_walk using wpAny_loadPart' there
      simp only [fits, other, Bool.false_eq_true, decide_false, if_false]
      wp_walk using wpAny_loadPart' there
      simp only [none_, if_true]
      wp_walk using wpAny_loadPart' there
      exact ⟨_, rfl, fin⟩
def rTimesT (K : PySem.W.Frag) : R2 := fun x y H Q => ∃ l k xs, x = .ref l ∧ y = .int k ∧ SqT K H l xs ∧ xs ≠ [] ∧ -(2 ^ 60) ≤ k ∧ k ≤ 1000 ∧ xs.length ≤ 1000 ∧ (k = 1 → Q (.ref l) H) ∧ (k ≠ 1 → ∀ p, H p = none → Q (.ref p) (upd H p (.tup (List.replicate k.toNat xs).flatten)))
theorem few_flat {α : Type} {k : Int} {xs : List α} (h1 : k ≤ 1000) (h2 : xs.length ≤ 1000) : (List.replicate k.toNat xs).flatten.length ≤ sizeLine := by
  have : k.toNat * xs.length ≤ 1000 * 1000 := Nat.mul_le_mul (by omega) h2
  rw [PyProof.Rows.lm_len_rep_flat, sizeLine_eq]
  omega
section
variable {X : Cx}
theorem opTimesT : OpR X (binaryOp .Mult) (rTimesT X.K) := fun pins s σ H x y v u Q I rx ry ⟨l, k, xs, ex, ey, is, some_, low, high, len, q1, q2⟩ => by
  by_cases two : 2 ≤ k
  · exact op_repT pins s σ H x y v u Q I rx ry ⟨l, k, xs, ex, ey, is, some_, two, high, len, q2 (by omega)⟩
  subst ex ey
  cases rx
  obtain ⟨t, rfl⟩ := ry
  obtain ⟨its, r, ⟨⟨cls, dd, data, sl⟩, there, ec, n, ed⟩, _⟩ := I.tuple is
  cases (show cls = _ from ec)
  cases (show data = _ from ed)
  have full : its.toArray.isEmpty = false := by
    match its, xs, r, some_ with
    | [], _, .nil, e => exact absurd rfl e
    | _ :: _, _, _, _ => rfl
  refine tupTimed.run (int_rmul_tuple k t l its.toArray n dd sl) (tupFew l its.toArray n dd sl k t (by omega) (by omega) full) there ?_
  by_cases one : k = 1
  · rw [if_pos one]
    exact ⟨.ref l, H, I, rfl, q1 one⟩
  · rw [if_neg one]
    have q := q2 one
    rw [show k.toNat = 0 by omega] at q
    exact ⟨.ref _, _, I.laid (t' := s.toks) (o := .tup []) (fun _ _ => Heap.get?_push_of_some _) (Nat.le_refl _) ⟨Nat.zero_le _, [], .nil, IsTup.new _ _⟩, rfl, q _ (I.hok.fresh (Nat.le_refl _))⟩
end
theorem lstTimes (l : Addr) (items : Array Value) (n : Nat) (sl : Array (Option Value)) (x : Int) (u : Tok) (fits : Builtin.List.listFitsIndex x = true) (room : items.size * x.toNat ≤ (2 ^ 63 - 1) / 8) (short : Builtin.List.listTooLong (items.size * x.toNat) = false) :
    Meets (Builtin.«list.__mul__» ⟨[.ref l, .int x u], []⟩) (fun _ R s => s.heap.get? l = some (seqO "list" items n none sl) ∧
      R (.ok (.ret (.ref s.heap.objs.size))) { s with heap := s.heap.push { cls := .type "list", data := .seq (List.foldl (· ++ ·) #[] (List.replicate (if items.isEmpty = true then 0 else x.toNat) items)) } }) :=
  Meets.of_wp fun P w A R ⟨hp, gs, dr, tk, os⟩ ⟨there, fin⟩ => by
    have short' : ¬ Builtin.List.listTooLong (items.size * x.toNat) = true := by rw [short]; exact Bool.false_ne_true
    have fits' : ¬ (!Builtin.List.listFitsIndex x) = true := by rw [fits]; exact Bool.false_ne_true
    have room' : ¬ items.size * x.toNat > (2 ^ 63 - 1) / 8 := Nat.not_lt.mpr room
    have j := Nat.not_lt.mpr (PySem.AutoListH.joined_fits short')
    wp_walk using wpAny_loadPart' there
    exact wpAny_ite_false (decide_eq_false j) (wpAny_bind (m := _) (by wp_walk; exact ⟨_, rfl, fin⟩))
theorem intRmulL (a : Int) (t : Tok) (l : Addr) (items : Array Value) (n : Nat) (sl : Array (Option Value)) :
    Meets (Builtin.«int.__rmul__» ⟨[.int a t, .ref l], []⟩) (fun _ R s => s.heap.get? l = some (seqO "list" items n none sl) ∧ R (.ok (.ret Value.notImplemented)) s) :=
  Meets.of_wp fun P w A R ⟨hp, gs, dr, tk, os⟩ ⟨there, fin⟩ => by
    wp_walk using wpAny_loadPart' there
    exact ⟨_, rfl, fin⟩
def rTimesL (K : PySem.W.Frag) : R2 := fun x y H Q => ∃ l k xs, x = .ref l ∧ y = .int k ∧ SqL K H l xs ∧ -(2 ^ 60) ≤ k ∧ k ≤ 1000 ∧ xs.length ≤ 1000 ∧ ∀ p, H p = none → Q (.ref p) (upd H p (.lst (List.replicate k.toNat xs).flatten))
theorem opTimesL {X : Cx} : OpR X (binaryOp .Mult) (rTimesL X.K) := fun pins s σ H x y v u Q I rx ry ⟨l, k, xs, ex, ey, is, low, high, len, q⟩ => by
  subst ex ey
  cases rx
  obtain ⟨t, rfl⟩ := ry
  obtain ⟨its, r, ⟨⟨cls, dd, data, sl⟩, n, there, ec, edd, ed⟩, _⟩ := I.list is
  cases (show cls = _ from ec)
  cases (show dd = _ from edd)
  cases (show data = _ from ed)
  have sz : its.toArray.size * k.toNat ≤ 1000000 := by
    rw [List.size_toArray, ← r.length, Nat.mul_comm]
    exact Nat.le_trans (Nat.mul_le_mul (show k.toNat ≤ 1000 by omega) len) (by decide)
  have made : List.foldl (· ++ ·) #[] (List.replicate (if its.toArray.isEmpty = true then 0 else k.toNat) its.toArray) = (List.replicate k.toNat its).flatten.toArray := by
    cases its <;> simp [size_rep]
  refine lstTimed.run (intRmulL k t l its.toArray n sl) (lstTimes l its.toArray n sl k t (fitsIndex_both (by omega) (by omega)) (by omega) (notLongL (by rw [sizeLine_eq]; omega))) there ?_
  rw [made]
  exact ⟨.ref _, _, I.laid (t' := s.toks) (o := .lst (List.replicate k.toNat xs).flatten) (fun _ _ => Heap.get?_push_of_some _) (Nat.le_refl _) ⟨few_flat high len, _, 0, r.rep k.toNat, Heap.get?_push_size _ rfl⟩, rfl, q _ (I.hok.fresh (Nat.le_refl _))⟩
theorem repS_one (x : Str) : repS x 1 = x := by
  unfold repS
  cases x
  simp
theorem opTimesS {X : Cx} : OpR X (binaryOp .Mult) (fun x y H Q => ∃ z k, x = .str z ∧ y = .int k ∧ -(2 ^ 60) ≤ k ∧ k ≤ 1000 ∧ 1 ≤ z.length ∧ z.length ≤ 1000 ∧ Q (.str (repS z k)) H) := by
  intro pins s σ H x y v u Q I rx ry h
  obtain ⟨z, k, rfl, rfl, h1, h2, hz0, hz, q⟩ := h
  obtain ⟨t, rfl⟩ := rx
  obtain ⟨t', rfl⟩ := ry
  have hzz : z.length = z.cps.size := rfl
  refine P.mul_str (by rw [decide_eq_false (by omega), decide_eq_false (by omega)]; rfl) (fun a b => ?_) (fun a b => ?_) ?_
  · have : (1000 : Int) ≤ (2 ^ 63 - 1) / k := by
      have hk : 0 < k := by omega
      rw [Int.le_ediv_iff_mul_le hk]
      omega
    omega
  · have a1 : z.length * k.toNat ≤ 1000 * 1000 := Nat.mul_le_mul hz (by omega)
    unfold Builtin.Str.tooLong
    rw [sizeLine_eq]
    exact decide_eq_false (by omega)
  · by_cases k0 : k < 1
    · rw [if_pos k0]
      have e : repS z k = Str.empty := by unfold repS; rw [show k.toNat = 0 by omega]; rfl
      rw [e] at q
      exact ⟨by decide, .str Str.empty, H, I.tok _, ⟨_, rfl⟩, q⟩
    · rw [if_neg k0]
      by_cases k1 : k = 1
      · subst k1
        rw [repS_one] at q
        rw [if_pos (show ((1 : Int) == 1 || z.length == 0) = true from rfl)]
        exact ⟨.str z, H, I, ⟨_, rfl⟩, q⟩
      · have c : (k == 1 || z.length == 0) = false := by
          rw [Bool.or_eq_false_iff]
          exact ⟨beq_eq_false_iff_ne.mpr k1, beq_eq_false_iff_ne.mpr (by omega)⟩
        rw [if_neg (by rw [c]; exact Bool.false_ne_true)]
        have e : (List.replicate k.toNat z.cps).foldl (· ++ ·) #[] = (List.replicate k.toNat z.cps.toList).flatten.toArray := by
          have f : ∀ (m : Nat) (acc : Array Nat), ((List.replicate m z.cps).foldl (· ++ ·) acc).toList = acc.toList ++ (List.replicate m z.cps.toList).flatten := by
            intro m
            induction m with
            | zero => intro acc; simp
            | succ m ih => intro acc; rw [List.replicate_succ, List.foldl_cons, ih, List.replicate_succ, List.flatten_cons]; simp
          apply Array.toList_inj.mp
          rw [f]; simp
        rw [e]
        have hl : ((List.replicate k.toNat z.cps.toList).flatten.toArray).size ≤ sizeLine := by
          rw [List.size_toArray, PyProof.Rows.lm_len_rep_flat, sizeLine_eq]
          have a1 : k.toNat * z.cps.toList.length ≤ 1000 * 1000 := Nat.mul_le_mul (by omega) (by rw [Array.length_toList]; omega)
          omega
        exact ⟨hl, .str (repS z k), H, I.tok _, ⟨_, rfl⟩, q⟩
end Rf
set_option Elab.async false
set_option linter.all false
set_option maxRecDepth 100000
set_option maxHeartbeats 2000000
namespace Rf
open PySem PySem.Spec PyProof.Rows L2
def PoQ (K : PySem.W.Frag) (G H : Hp) (x : Rs D) (Q : VK) : Prop := match x with
  | .ok d => ∀ u G' H', Stp G H G' H' → Dp K G' u d → Q u H'
  | _ => False
theorem PoG.q {c : Cw} {σ : L2.St} {G H : Hp} {x : Rs D} {Q : VK} (p : PoG (Dp c.K) c σ G H x.quiet Q) : PoQ c.K G H x Q := by
  cases x with
  | ok d => exact p
  | ex e => exact p
  | no => exact p
theorem PoQ.mono {K : PySem.W.Frag} {G H G1 H1 : Hp} {x : Rs D} {Q : VK} (s : Stp G H G1 H1) (p : PoQ K G H x Q) : PoQ K G1 H1 x Q := by
  cases x with
  | ok d => exact fun u G' H' s' r => p u G' H' (s.trans s') r
  | ex e => exact p
  | no => exact p
theorem PoQ.bl {K : PySem.W.Frag} {G H : Hp} {x : Rs Bool} {Q : VK} (s : Same G H) (p : PoQ K G H (x.map .bool) Q) : ∃ b, x = .ok b ∧ Q (.bl b) H := by
  cases x with
  | ok b => exact ⟨b, rfl, p _ G H (Stp.refl s) (.bl b)⟩
  | ex e => exact p.elim
  | no => exact p.elim
theorem PoQ.grd {K : PySem.W.Frag} {G H : Hp} {b : Bool} {x : Rs D} {Q : VK} (p : PoQ K G H (grd b x) Q) : b = true ∧ PoQ K G H x Q := by
  cases b with
  | true => exact ⟨rfl, p⟩
  | false => exact p.elim
def rO2 (K : PySem.W.Frag) (f : D → D → Rs D) : R2 := fun x y H Q => ∃ d e G, Same G H ∧ Dp K G x d ∧ Dp K G y e ∧ PoQ K G H (f d e) Q
def rO1 (K : PySem.W.Frag) (f : D → Rs D) : V → Hp → VK → Prop := fun x H Q => ∃ d G, Same G H ∧ Dp K G x d ∧ PoQ K G H (f d) Q
theorem few_le {n : Nat} (h : few n = true) : n ≤ sizeLine := by
  have := few_iff.mp h
  rw [sizeLine_eq]; omega
theorem few_lt {n : Nat} (h : few n = true) : n < sizeLine := by
  have := few_iff.mp h
  rw [sizeLine_eq]; omega
section
variable {X : Cx}
/-- list + list, of any kind -/
theorem op_catL : OpR X (binaryOp .Add) (fun x y H Q => ∃ l b xs zs, x = .ref l ∧ y = .ref b ∧ SqL X.K H l xs ∧ SqL X.K H b zs ∧ xs.length + zs.length ≤ sizeLine ∧ ∀ p, H p = none → Q (.ref p) (upd H p (.lst (xs ++ zs)))) := fun pins s σ H _ _ _ _ Q I rx ry ⟨a, b, xs, ys, ex, ey, isX, isY, few, q⟩ => by
  subst ex ey
  cases rx
  cases ry
  obtain ⟨us, r1, ⟨⟨c1, d1, t1, k1⟩, n1, at1, ec1, ed1, et1⟩, _⟩ := I.list isX
  obtain ⟨ws, r2, ⟨⟨c2, d2, t2, k2⟩, n2, at2, ec2, ed2, et2⟩, _⟩ := I.list isY
  cases (show c1 = _ from ec1)
  cases (show d1 = _ from ed1)
  cases (show t1 = _ from et1)
  cases (show c2 = _ from ec2)
  cases (show d2 = _ from ed2)
  cases (show t2 = _ from et2)
  have fits : us.toArray.size + ws.toArray.size ≤ sizeLine := by simpa [← r1.length, ← r2.length] using few
  have row := list_addW a b us.toArray ws.toArray n1 n2 none none k1 k2 fits
  refine concat_meets ⟨_, at1, rfl⟩ ⟨_, at2, rfl⟩ noFill_list_add seq_list_add PySem.F.slot_list_add PySem.F.entry_list_add (PySem.F.args_list_add_2 _ _) row ⟨at1, at2, ?_⟩
  rw [List.append_toArray]
  exact ⟨.ref _, _, I.lnew (t' := s.toks) (r1.append r2) (List.length_append ▸ few), rfl, q _ I.fresh⟩
theorem oAdd : OpR X (binaryOp .Add) (rO2 X.K addD) := by
  intro pins s σ H x y v u Q I rx ry ⟨d, e, G, sg, hd, he, p⟩
  cases hd <;> cases he <;> first | exact (show False from p).elim | skip
  · exact op_add pins s σ H _ _ v u Q I rx ry ⟨_, _, rfl, rfl, p _ G H (Stp.refl sg) (.int _)⟩
  · obtain ⟨g, p⟩ := PoQ.grd p
    exact op_add_str pins s σ H _ _ v u Q I rx ry ⟨_, _, rfl, rfl, few_le g, p _ G H (Stp.refl sg) (.str _)⟩
  · rename_i a xs ds qa ra b ys es qb rb
    obtain ⟨g, p⟩ := PoQ.grd p
    refine op_catL pins s σ H _ _ v u Q I rx ry ⟨a, b, xs, ys, rfl, rfl, sg.seq qa, sg.seq qb, by rw [DpAll_len ra, DpAll_len rb]; exact few_le g, fun q hq => ?_⟩
    have st := Stp.new (o := .lst (xs ++ ys)) sg hq
    exact p _ _ _ st (.lst (SqL.of upd_same) (DpAll_app (DpAll_mono st.gg ra) (DpAll_mono st.gg rb)))
  · rename_i a xs ds qa ra b ys es qb rb
    obtain ⟨g, p⟩ := PoQ.grd p
    refine op_catA pins s σ H _ _ v u Q I rx ry ⟨a, b, xs, ys, rfl, rfl, Same.seqT sg qa, Same.seqT sg qb, by rw [DpAll_len ra, DpAll_len rb]; exact few_le g, fun e => ?_, fun _ e => ?_, fun _ _ q hq => ?_⟩
    · subst e
      cases ra
      exact p _ G H (Stp.refl sg) (.tup qb rb)
    · subst e
      cases rb
      refine p _ G H (Stp.refl sg) (.tup qa ?_)
      rw [List.append_nil]; exact ra
    · have st := Stp.new (o := .tup (xs ++ ys)) sg hq
      exact p _ _ _ st (.tup (SqT.of upd_same) (DpAll_app (DpAll_mono st.gg ra) (DpAll_mono st.gg rb)))
theorem oSub : OpR X (binaryOp .Sub) (rO2 X.K subD) := by
  intro pins s σ H x y v u Q I rx ry ⟨d, e, G, sg, hd, he, p⟩
  cases hd <;> cases he <;> first | exact (show False from p).elim | skip
  exact op_sub pins s σ H _ _ v u Q I rx ry ⟨_, _, rfl, rfl, p _ G H (Stp.refl sg) (.int _)⟩
theorem DpAll_rep {K : PySem.W.Frag} {G : Hp} {vs : List V} {ds : List D} (h : DpAll K G vs ds) : ∀ n : Nat, DpAll K G (List.replicate n vs).flatten (List.replicate n ds).flatten
  | 0 => .nil
  | n + 1 => by rw [List.replicate_succ, List.replicate_succ, List.flatten_cons, List.flatten_cons]; exact DpAll_app h (DpAll_rep h n)
theorem oMul : OpR X (binaryOp .Mult) (rO2 X.K mulD) := by
  intro pins s σ H x y v u Q I rx ry ⟨d, e, G, sg, hd, he, p⟩
  cases hd <;> cases he <;> first | exact (show False from p).elim | skip
  · obtain ⟨g, p⟩ := PoQ.grd p
    refine op_mul pins s σ H _ _ v u Q I rx ry ⟨_, _, rfl, rfl, ?_, p _ G H (Stp.refl sg) (.int _)⟩
    simp only [Bool.or_eq_true, smI_iff] at g
    exact g
  · obtain ⟨g, p⟩ := PoQ.grd p
    simp only [Bool.and_eq_true, tmI_iff, Nat.ble_eq] at g
    exact opTimesS pins s σ H _ _ v u Q I rx ry ⟨_, _, rfl, rfl, g.1.1, g.1.2, g.2.1, g.2.2, p _ G H (Stp.refl sg) (.str _)⟩
  · rename_i a xs ds qa ra k
    obtain ⟨g, p⟩ := PoQ.grd p
    simp only [Bool.and_eq_true, tmI_iff, Nat.ble_eq] at g
    refine opTimesL pins s σ H _ _ v u Q I rx ry ⟨a, k, xs, rfl, rfl, sg.seq qa, g.1.1, g.1.2, by rw [DpAll_len ra]; exact g.2, fun q hq => ?_⟩
    have st := Stp.new (o := .lst (List.replicate k.toNat xs).flatten) sg hq
    exact p _ _ _ st (.lst (SqL.of upd_same) (DpAll_rep (DpAll_mono st.gg ra) _))
  · rename_i a xs ds qa ra k
    obtain ⟨g, p⟩ := PoQ.grd p
    simp only [Bool.and_eq_true, tmI_iff, Nat.ble_eq] at g
    refine opTimesT pins s σ H _ _ v u Q I rx ry ⟨a, k, xs, rfl, rfl, Same.seqT sg qa, fun e => by subst e; have := DpAll_len ra; simp at this; omega, g.1.1, g.1.2, by rw [DpAll_len ra]; exact g.2.2, fun e => ?_, fun e q hq => ?_⟩
    · subst e
      exact p _ G H (Stp.refl sg) (.tup qa (by have e2 : rep ds 1 = ds := by { show (List.replicate 1 ds).flatten = ds; simp }; rw [e2]; exact ra))
    · have st := Stp.new (o := .tup (List.replicate k.toNat xs).flatten) sg hq
      exact p _ _ _ st (.tup (SqT.of upd_same) (DpAll_rep (DpAll_mono st.gg ra) _))
theorem oDiv : OpR X (binaryOp .FloorDiv) (rO2 X.K divD) := by
  intro pins s σ H x y v u Q I rx ry ⟨d, e, G, sg, hd, he, p⟩
  cases hd <;> cases he <;> first | exact (show False from p).elim | skip
  rename_i i j
  obtain ⟨g, p⟩ := PoQ.grd p
  rw [Bool.and_eq_true, posI_iff, smI_iff] at g
  refine op_fdivW pins s σ H _ _ v u Q I rx ry ⟨_, _, rfl, rfl, wide_div (b := 64) g.1 (by omega) (by decide) (by decide), p _ G H (Stp.refl sg) (.int _)⟩
theorem oMod : OpR X (binaryOp .Mod) (rO2 X.K modD) := by
  intro pins s σ H x y v u Q I rx ry ⟨d, e, G, sg, hd, he, p⟩
  cases hd <;> cases he <;> first | exact (show False from p).elim | skip
  obtain ⟨g, p⟩ := PoQ.grd p
  exact op_mod pins s σ H _ _ v u Q I rx ry ⟨_, _, rfl, rfl, posI_iff.mp g, p _ G H (Stp.refl sg) (.int _)⟩
theorem oPow : OpR X (binaryOp .Pow) (rO2 X.K powD) := by
  intro pins s σ H x y v u Q I rx ry ⟨d, e, G, sg, hd, he, p⟩
  cases hd <;> cases he <;> first | exact (show False from p).elim | skip
  rename_i i j
  cases j with
  | negSucc n => exact (show False from p).elim
  | ofNat n =>
    obtain ⟨g, p⟩ := PoQ.grd p
    rw [Bool.and_eq_true, Nat.ble_eq, Nat.ble_eq] at g
    exact op_pow pins s σ H _ _ v u Q I rx ry ⟨_, _, rfl, rfl, ⟨by simp, by simp; omega, by have := g.2; omega⟩, p _ G H (Stp.refl sg) (.int _)⟩
theorem oBin (o : Operator) : OpR X (binaryOp o) (rO2 X.K (binD o)) := by
  cases o <;> first | exact oAdd | exact oSub | exact oMul | exact oDiv | exact oMod | exact oPow | exact fun pins s σ H x y v u Q I rx ry ⟨d, e, G, sg, hd, he, p⟩ => (show False from p).elim
theorem oNeg : UnR X (unaryOp .USub) (rO1 X.K negD) := by
  intro pins s σ H x v Q I rx ⟨d, G, sg, hd, p⟩
  cases hd <;> first | exact (show False from p).elim | skip
  exact un_neg pins s σ H _ v Q I rx ⟨_, rfl, p _ G H (Stp.refl sg) (.int _)⟩
theorem Dp.up {K : PySem.W.Frag} {G H : Hp} {v : V} {d : D} (sg : Same G H) (h : Dp K G v d) : Dp K H v d := Dp_mono sg h
def rOB (K : PySem.W.Frag) (f : D → D → Rs Bool) : R2 := rO2 K fun d e => (f d e).map .bool
theorem oEq (hu : X.A.units + 65 < cLine) : OpR X (compareOp .Eq) (rOB X.K eqD) := by
  intro pins s σ H x y v u Q I rx ry ⟨d, e, G, sg, hd, he, p⟩
  obtain ⟨b, eb, q⟩ := PoQ.bl sg p
  have eb : eqD d e = .ok b := eb
  unfold eqD grd at eb
  by_cases g0 : (SeqAt.shaped d && SeqAt.shaped e) = true
  rw [if_pos g0] at eb
  · have g := g0
    simp only [Bool.and_eq_true] at g
    injection eb with eb
    subst eb
    exact op_eqD (by omega) pins s σ H _ _ v u Q I rx ry ⟨d, e, (Dp_mono sg hd).dp (nod_lay (SeqAt.canLay_of_shaped g.1)), (Dp_mono sg he).dp (nod_lay (SeqAt.canLay_of_shaped g.2)), g.1, g.2, q⟩
  · rw [if_neg g0] at eb; cases eb
theorem oNe (hu : X.A.units + 65 < cLine) : OpR X (compareOp .NotEq) (rOB X.K fun d e => (eqD d e).map not) := by
  intro pins s σ H x y v u Q I rx ry ⟨d, e, G, sg, hd, he, p⟩
  obtain ⟨b, eb, q⟩ := PoQ.bl sg p
  have eb : (eqD d e).map not = .ok b := eb
  unfold eqD grd at eb
  by_cases g0 : (SeqAt.shaped d && SeqAt.shaped e) = true
  rw [if_pos g0] at eb
  · have g := g0
    simp only [Bool.and_eq_true] at g
    simp only [Rs.map, Rs.bind_ok] at eb
    injection eb with eb
    subst eb
    exact op_neD (by omega) pins s σ H _ _ v u Q I rx ry ⟨d, e, (Dp_mono sg hd).dp (nod_lay (SeqAt.canLay_of_shaped g.1)), (Dp_mono sg he).dp (nod_lay (SeqAt.canLay_of_shaped g.2)), g.1, g.2, q⟩
  · rw [if_neg g0] at eb; cases eb
theorem oLe (hu : X.A.units + 65 < cLine) : OpR X (compareOp .LtE) (rOB X.K leD) := by
  intro pins s σ H x y v u Q I rx ry ⟨d, e, G, sg, hd, he, p⟩
  obtain ⟨b, eb, q⟩ := PoQ.bl sg p
  cases hd <;> cases he <;> first | cases eb; done | skip
  · injection eb with eb
    subst eb
    exact op_le pins s σ H _ _ v u Q I rx ry ⟨_, _, rfl, rfl, q⟩
  · rename_i a vs1 xs q1 r1 b2 vs2 ys q2 r2
    have eb : (intsD xs).bind (fun a => (intsD ys).map fun b => leL a b) = .ok b := eb
    cases h1 : intsD xs with
    | ok ns =>
      cases h2 : intsD ys with
      | ok ms =>
        rw [h1, h2] at eb
        have eb : Rs.ok (leL ns ms) = .ok b := eb
        injection eb with eb
        subst eb
        have e1 := DpAll_ints r1 h1
        have e2 := DpAll_ints r2 h2
        subst e1 e2
        exact op_leT (by omega) pins s σ H _ _ v u Q I rx ry ⟨_, _, ns, ms, rfl, rfl, Same.seqT sg q1, Same.seqT sg q2, q⟩
      | ex e => rw [h1, h2] at eb; cases eb
      | no => rw [h1, h2] at eb; cases eb
    | ex e => rw [h1] at eb; cases eb
    | no => rw [h1] at eb; cases eb
theorem oGt : OpR X (compareOp .Gt) (rOB X.K (cmpB .Gt)) := by
  intro pins s σ H x y v u Q I rx ry ⟨d, e, G, sg, hd, he, p⟩
  obtain ⟨b, eb, q⟩ := PoQ.bl sg p
  cases hd <;> cases he <;> first | cases eb; done | skip
  injection eb with eb
  subst eb
  exact op_gt pins s σ H _ _ v u Q I rx ry ⟨_, _, rfl, rfl, q⟩
theorem oGe : OpR X (compareOp .GtE) (rOB X.K (cmpB .GtE)) := by
  intro pins s σ H x y v u Q I rx ry ⟨d, e, G, sg, hd, he, p⟩
  obtain ⟨b, eb, q⟩ := PoQ.bl sg p
  cases hd <;> cases he <;> first | cases eb; done | skip
  injection eb with eb
  subst eb
  exact op_ge pins s σ H _ _ v u Q I rx ry ⟨_, _, rfl, rfl, q⟩
theorem oIs : OpR X (compareOp .Is) (rOB X.K isD) := by
  intro pins s σ H x y v u Q I rx ry ⟨d, e, G, sg, hd, he, p⟩
  obtain ⟨b, eb, q⟩ := PoQ.bl sg p
  cases he with
  | non =>
    refine op_isN pins s σ H _ _ v u Q I rx ry ⟨rfl, ?_⟩
    cases hd <;> (injection eb with eb; subst eb; exact q)
  | bl k =>
    cases hd <;> first | cases eb; done | skip
    injection eb with eb
    subst eb
    exact op_isBl pins s σ H _ _ v u Q I rx ry ⟨_, _, rfl, rfl, q⟩
  | int => cases hd <;> cases eb
  | str => cases hd <;> cases eb
  | lst => cases hd <;> cases eb
  | tup => cases hd <;> cases eb
  | dct => cases hd <;> cases eb
theorem oIsNot : OpR X (compareOp .IsNot) (rOB X.K fun d e => (isD d e).map not) := by
  intro pins s σ H x y v u Q I rx ry ⟨d, e, G, sg, hd, he, p⟩
  obtain ⟨b, eb, q⟩ := PoQ.bl sg p
  cases he with
  | non =>
    refine op_notN pins s σ H _ _ v u Q I rx ry ⟨rfl, ?_⟩
    cases hd <;> (simp only [isD, Rs.map, Rs.bind_ok] at eb; injection eb with eb; subst eb; exact q)
  | bl k =>
    cases hd <;> first | cases eb; done | skip
    simp only [isD, Rs.map, Rs.bind_ok] at eb
    injection eb with eb
    subst eb
    exact op_notBl pins s σ H _ _ v u Q I rx ry ⟨_, _, rfl, rfl, q⟩
  | int => cases hd <;> cases eb
  | str => cases hd <;> cases eb
  | lst => cases hd <;> cases eb
  | tup => cases hd <;> cases eb
  | dct => cases hd <;> cases eb
theorem oInT (hu : X.A.units + 65 < cLine) {pins s σ H x y v u Q} {d : D} {ds : List D} (I : Inv X pins σ H s) (rx : RelV x v) (ry : RelV y u) (hd : Dp X.K H x d) (he : Dp X.K H y (.tuple ds)) (sd : SeqAt.shaped d = true) (se : SeqAt.shaped (.tuple ds) = true)
    (q : Q (.bl (ds.any fun z => PyData.eqv z d)) H) : wpAny (model X.prog X.w) X.A (compareOp .In v u) (EP X pins σ Q) X.xe s := by
  obtain ⟨as, r1⟩ := Dp.reads I d x v hd rx (SeqAt.canLay_of_shaped sd)
  cases he with
  | tup hs ha =>
    cases ry
    obtain ⟨its, rv, ht, hlen⟩ := I.tuple hs
    have hxs : PyData.canLayAll0 ds = true := SeqAt.canLay_of_shaped se
    obtain ⟨bs, h4⟩ := Dp.readsAll I ds _ its ha rv hxs
    have hmap : its.map (SeqAt.readOf s.heap) = ds := SeqAt.readsAll_map ds its bs hxs h4
    have hroom : X.A.units + 1 + min (PyData.depthAll ds) d.depth < cLine := room_in_shaped sd hu
    refine SeqAt.in_tupleAt (fun u => PyData.eqv (SeqAt.readOf s.heap u) d) (show s.heap.IsTuple _ its.toArray from ht) (SeqAt.items_eqAt (vs := its.toArray) (show ReadsAll s.heap its.toArray.toList ds bs from h4) r1 hxs (SeqAt.canLay_of_shaped sd) hroom) ?_
    refine ⟨.bl _, H, I, rfl, ?_⟩
    have e : (its.toArray.any fun u => PyData.eqv (SeqAt.readOf s.heap u) d) = ds.any fun z => PyData.eqv z d := by
      rw [← hmap]
      rw [List.any_map]
      first | rfl | simp [Function.comp_def]
    first
      | exact e ▸ q
      | (simpa [← hmap, List.any_map, Function.comp] using q)
theorem oNotInT (hu : X.A.units + 65 < cLine) {pins s σ H x y v u Q} {d : D} {ds : List D} (I : Inv X pins σ H s) (rx : RelV x v) (ry : RelV y u) (hd : Dp X.K H x d) (he : Dp X.K H y (.tuple ds)) (sd : SeqAt.shaped d = true) (se : SeqAt.shaped (.tuple ds) = true)
    (q : Q (.bl (!ds.any fun z => PyData.eqv z d)) H) : wpAny (model X.prog X.w) X.A (compareOp .NotIn v u) (EP X pins σ Q) X.xe s := by
  obtain ⟨as, r1⟩ := Dp.reads I d x v hd rx (SeqAt.canLay_of_shaped sd)
  cases he with
  | tup hs ha =>
    cases ry
    obtain ⟨its, rv, ht, hlen⟩ := I.tuple hs
    have hxs : PyData.canLayAll0 ds = true := SeqAt.canLay_of_shaped se
    obtain ⟨bs, h4⟩ := Dp.readsAll I ds _ its ha rv hxs
    have hmap : its.map (SeqAt.readOf s.heap) = ds := SeqAt.readsAll_map ds its bs hxs h4
    have hroom : X.A.units + 1 + min (PyData.depthAll ds) d.depth < cLine := room_in_shaped sd hu
    refine SeqAt.notIn_tupleAt (fun u => PyData.eqv (SeqAt.readOf s.heap u) d) (show s.heap.IsTuple _ its.toArray from ht) (SeqAt.items_eqAt (vs := its.toArray) (show ReadsAll s.heap its.toArray.toList ds bs from h4) r1 hxs (SeqAt.canLay_of_shaped sd) hroom) ?_
    refine ⟨.bl _, H, I, rfl, ?_⟩
    have e : (its.toArray.any fun u => PyData.eqv (SeqAt.readOf s.heap u) d) = ds.any fun z => PyData.eqv z d := by
      rw [← hmap]
      rw [List.any_map]
      first | rfl | simp [Function.comp_def]
    first
      | exact e ▸ q
      | (simpa [← hmap, List.any_map, Function.comp] using q)
end
end Rf
set_option Elab.async false
set_option linter.all false
set_option maxRecDepth 100000
set_option maxHeartbeats 3900000
namespace Rf
open PySem PySem.Spec PySem.Calls PySem.W PyProof.Rows L2
theorem alkB_of {xs : List D} (h : alkB xs = true) : PySem.W.AlikeAll xs := by
  unfold alkB at h
  rw [List.all_eq_true] at h
  refine ⟨fun x hx y hy => ?_, fun x hx e => ?_⟩
  · have := h x hx
    rw [Bool.and_eq_true, List.all_eq_true] at this
    exact this.1 y hy
  · have := h x hx
    rw [Bool.and_eq_true] at this
    subst e
    cases this.2
section
variable {X : Cx}
theorem opLtT (hu : X.A.units + 65 < cLine) {pins s σ H x y v u Q} {d e : D} (I : Inv X pins σ H s) (rx : RelV x v) (ry : RelV y u) (hd : Dp X.K H x d) (he : Dp X.K H y e) (ha : PySem.W.alike d e = true) (hn : d ≠ .none) (hs : d.depth ≤ 60) (nd : nod d = true) (ne : nod e = true) (q : Q (.bl (PySem.W.dataLt d e)) H) :
    wpAny (model X.prog X.w) X.A (compareOp .Lt v u) (EP X pins σ Q) X.xe s := by
  obtain ⟨as, r1⟩ := Dp.readsN I d x v hd rx nd
  obtain ⟨bs, r2⟩ := Dp.readsN I e y u he ry ne
  exact PySem.W.lt_data r1 r2 ha hn (by have := Nat.min_le_left d.depth e.depth; omega) ⟨.bl _, H, I, rfl, q⟩
theorem unread {h : Heap} {v : Value} {d e : D} {as bs : List Addr} (hc : d.canLay0 = true) (r1 : Reads h v d as) (r2 : Reads h v e bs) : d = e := by
  first
    | exact (Reads.unique r1 _ _ r2).1
    | exact Reads.unique d e v as bs hc r1 r2
theorem lay_of_mem {d : D} : ∀ {xs : List D}, PyData.canLayAll0 xs = true → d ∈ xs → d.canLay0 = true
  | _ :: _, h, .head _ => (Bool.and_eq_true_iff.mp (by simpa only [PyData.canLayAll0] using h)).1
  | _ :: _, h, .tail _ m => lay_of_mem (Bool.and_eq_true_iff.mp (by simpa only [PyData.canLayAll0] using h)).2 m
theorem item_of {pins s σ G H} {vs : List V} {ds : List D} {its : List Value} {i : Nat} {v : Value} (I : Inv X pins σ H s) (sg : Same G H) (ra : DpAll X.K G vs ds) (rv : Vals vs its) (hi : its[i]? = some v) (lay : PyData.canLayAll0 ds = true) : ∃ u d as, RelV u v ∧ Dp X.K G u d ∧ Reads s.heap v d as ∧ ds[i]? = some d ∧ vs[i]? = some u := by
  have lt : i < vs.length := rv.length ▸ (List.getElem?_eq_some_iff.mp hi).1
  have at_ : vs[i]? = some vs[i] := List.getElem?_eq_getElem lt
  obtain ⟨v2, ev, ru⟩ := rv.get at_
  cases Option.some.inj (hi.symm.trans ev)
  obtain ⟨d, ed, rd⟩ := DpAll_getV ra at_
  obtain ⟨as, r⟩ := Dp.reads I d _ _ (Dp_mono sg rd) ru (lay_of_mem lay (List.mem_of_getElem? ed))
  exact ⟨vs[i], d, as, ru, rd, r, ed, at_⟩
/-- the items of a list, or of a tuple, of data: where they lie, and that they read so -/
theorem itemsOf {pins s σ G H} {v : V} {u : Value} {ds : List D} (I : Inv X pins σ H s) (sg : Same G H) (h : Dp X.K G v (.list ds) ∨ Dp X.K G v (.tuple ds)) (r : RelV v u) :
    ∃ (a : Addr) (ws : List V) (its : List Value), u = .ref a ∧ DpAll X.K G ws ds ∧ Vals ws its ∧ its.length ≤ sizeLine ∧ (s.heap.IsList a its.toArray ∨ s.heap.IsTuple a its.toArray) := by
  rcases h with h | h
  · cases h with
    | lst q ra =>
      obtain ⟨its, rv, p, few⟩ := I.list (sg.seq q)
      exact ⟨_, _, its, r, ra, rv, rv.length ▸ few, .inl p.isList⟩
  · cases h with
    | tup q ra =>
      obtain ⟨its, rv, p, few⟩ := I.tuple (Same.seqT sg q)
      exact ⟨_, _, its, r, ra, rv, rv.length ▸ few, .inr p⟩
/-- min, max of a list or a tuple of data -/
def rBest (K : PySem.W.Frag) (f : D → List D → D) : List V → Hp → VK → Prop := fun vs H Q => ∃ v d x xs G, vs = [v] ∧ Same G H ∧ Dp K G v d ∧ (d = .list (x :: xs) ∨ d = .tuple (x :: xs)) ∧ alkB (x :: xs) = true ∧ PyData.canLayAll0 (x :: xs) = true ∧ PyData.depthAll (x :: xs) ≤ 60 ∧ ∀ u, Dp K G u (f x xs) → Q u H
/-- what a builtin tells of a sequence at a: one of its items that reads as the best one -/
def TellsBest (X : Cx) (nm : String) (f : D → List D → D) (s : Shared) (a : Addr) (its : Array Value) : Prop := ∀ {x : D} {xs : List D} {as : List Addr} {Q : Value → Shared → Prop}, ReadsAll s.heap its.toList (x :: xs) as → PySem.W.AlikeAll (x :: xs) → X.A.units + 1 + PyData.depthAll (x :: xs) < cLine →
  (∀ (i : Nat) (v : Value) (h : Heap) (n : Nat) (bs : List Addr), its[i]? = some v → Reads h v (f x xs) bs → (∀ b o, s.heap.get? b = some o → h.get? b = some o) → Q v { s with heap := h, toks := n }) → wpAny (model X.prog X.w) X.A (call (.builtin nm) [.ref a]) Q X.xe s
theorem cBest {nm : String} {f : D → List D → D} (hu : X.A.units + 65 < cLine) (tells : ∀ {pins : List (Addr × Obj)} {σ : L2.St} {H : Hp} {s : Shared} {a : Addr} {its : Array Value}, Inv X pins σ H s → s.heap.IsList a its ∨ s.heap.IsTuple a its → TellsBest X nm f s a its) : CallR X (.builtin nm) (rBest X.K f) := by
  intro pins s σ H vs us Q I r ⟨v, d, x, xs, G, e, sg, rd, hd, ha, hl, hz, q⟩
  subst e
  obtain ⟨u, rfl, ru⟩ : ∃ u, us = [u] ∧ RelV v u := by cases r with | cons r t => cases t; exact ⟨_, rfl, r⟩
  obtain ⟨a, ws, its, rfl, ra, rv, _, at_⟩ := itemsOf I sg (ds := x :: xs) (hd.imp (fun e => e ▸ rd) (fun e => e ▸ rd)) ru
  obtain ⟨as, rr⟩ := Dp.readsAll I _ _ _ (DpAll_mono sg ra) rv hl
  refine tells I at_ (by simpa using rr) (alkB_of ha) (by omega) fun i v h n bs ei told kept => ?_
  obtain ⟨u, d, cs, ru, rd, r0, ed, _⟩ := item_of I sg ra rv (by simpa using ei) hl
  exact ⟨u, H, I.kept kept, ru, q u (unread (lay_of_mem hl (List.mem_of_getElem? ed)) (PyProof.Rows.Reads.keeps kept r0) told ▸ rd)⟩
theorem cMinD (hc : X.calm = true) (hu : X.A.units + 65 < cLine) : CallR X (.builtin "min") (rBest X.K PySem.W.minD) :=
  cBest hu fun I at_ _ _ _ _ rr al un k => at_.elim (fun p => PySem.W.min_list_data (I.ok.hd hc) p rr al un k) fun p => PySem.W.min_tuple_data (I.ok.hd hc) p rr al un k
theorem cMaxD (hc : X.calm = true) (hu : X.A.units + 65 < cLine) : CallR X (.builtin "max") (rBest X.K PySem.W.maxD) :=
  cBest hu fun I at_ _ _ _ _ rr al un k => at_.elim (fun p => PySem.W.max_list_data (I.ok.hd hc) p rr al un k) fun p => PySem.W.max_tuple_data (I.ok.hd hc) p rr al un k
theorem srtB_of {xs : List D} (h : srtB xs = true) : PySem.W.Sortable xs := by
  unfold srtB at h
  obtain h | h := Bool.or_eq_true_iff.mp h
  · refine .inl fun d m => ?_
    have q := List.all_eq_true.mp h d m
    match d, q with
    | .tuple (y :: ys), _ => exact ⟨y, ys, rfl⟩
  · refine .inr fun d m => ?_
    have q := List.all_eq_true.mp h d m
    exact ⟨fun e => (by subst e; cases q), fun ys e => (by subst e; cases q)⟩
theorem each_of {pins s σ G H} (I : Inv X pins σ H s) (sg : Same G H) : ∀ {vs : List V} {ds : List D} {its : List Value}, DpAll X.K G vs ds → Vals vs its → nodAll ds = true → PySem.W.EachIs (fun v (b : V × D) => RelV b.1 v ∧ Dp X.K G b.1 b.2) its (vs.zip ds) ∧ PySem.W.EachIs (fun v (b : V × D) => ∃ as, Reads s.heap v b.2 as) its (vs.zip ds)
  | _, _, _, .nil, .nil, _ => ⟨.nil, .nil⟩
  | _, _, _, .cons (d := d) (ds := ds) a b, .cons r t, h => by
    have h : (nod d && nodAll ds) = true := h
    rw [Bool.and_eq_true] at h
    obtain ⟨i1, i2⟩ := each_of I sg b t h.2
    exact ⟨.cons ⟨r, a⟩ i1, .cons (Dp.readsN I _ _ _ (Dp_mono sg a) r h.1) i2⟩
theorem each_out {H : Hp} {K : PySem.W.Frag} : ∀ {out : List Value} {bs : List (V × D)}, PySem.W.EachIs (fun v (b : V × D) => RelV b.1 v ∧ Dp K H b.1 b.2) out bs → Vals (bs.map (·.1)) out ∧ DpAll K H (bs.map (·.1)) (bs.map (·.2))
  | _, _, .nil => ⟨.nil, .nil⟩
  | _, _, .cons h t => ⟨.cons h.1 (each_out t).1, .cons h.2 (each_out t).2⟩
/-- what a value is read from lies in the heap -/
theorem reads_lt {h : Heap} : ∀ {v : Value} {d : D} {as : List Addr}, Reads h v d as → ∀ a ∈ as, a < h.objs.size := fun r =>
  Reads.rec (motive_1 := fun _ _ as _ => ∀ a ∈ as, a < h.objs.size) (motive_2 := fun _ _ as _ => ∀ a ∈ as, a < h.objs.size) nofun (fun _ => nofun) (fun _ _ => nofun) (fun _ _ => nofun)
    (fun at_ _ _ _ ih => List.forall_mem_cons.mpr ⟨Heap.lt_size at_, ih⟩) (fun _ _ _ _ ih => ih)
    (fun at_ _ _ _ _ i1 i2 => List.forall_mem_cons.mpr ⟨Heap.lt_size at_, fun a m => (List.mem_append.mp m).elim (i1 a) (i2 a)⟩) nofun (fun _ _ i1 i2 a m => (List.mem_append.mp m).elim (i1 a) (i2 a)) r
/-- sorted of a list or a tuple: its items are gathered into a new list, and that list is sorted -/
theorem sortedSeq {P : Program} {w : World} {A : Around} {E Q : Value → Shared → Prop} {s : Shared} {β : Type} {R : Value → β → Prop} {enc : β → PyData} {vs : List Value} {bs : List β} {l : Addr} (at_ : s.heap.IsList l vs.toArray ∨ s.heap.IsTuple l vs.toArray)
    (e : PySem.W.EachIs R vs bs) (er : PySem.W.EachIs (fun v b => ∃ as, Reads s.heap v (enc b) as) vs bs) (hal : PySem.W.AllAlike (bs.map enc)) (hk : PySem.W.Sortable (bs.map enc)) (few : bs.length ≤ sizeLine) (hu : ∀ b, b ∈ bs → A.units + 2 + (enc b).depth < cLine)
    (h : ∀ (h1 h2 : Heap) (ep : Nat) (out : List Value), (∀ b o, s.heap.get? b = some o → h1.get? b = some o) → (∀ b o, h1.get? b = some o → h2.get? b = some o) → h2.get? h1.objs.size = some (seqObj "list" out.toArray ep) → out.length = bs.length → PySem.W.EachIs R out (bs.mergeSort (PySem.W.dataLe false enc)) → Q (.ref h1.objs.size) { s with heap := h2 }) :
    wpAny (model P w) A (call (.builtin "sorted") [.ref l]) Q E s := by
  obtain ⟨T, o, n, hT, ho, hc, hd⟩ : ∃ (T : String) (o : Obj) (n : Nat), (T = "list" ∨ T = "tuple") ∧ s.heap.get? l = some o ∧ o.cls = .type T ∧ o.data = .seq vs.toArray n := by
    rcases at_ with ⟨o, ho, hc, n, hd⟩ | ⟨o, ho, hc, n, hd⟩
    · exact ⟨_, o, n, .inl rfl, ho, hc, hd⟩
    · exact ⟨_, o, n, .inr rfl, ho, hc, hd⟩
  have few' : vs.length ≤ sizeLine := e.length ▸ few
  refine call_function_entry_kw kind_sorted plain_sorted entry_sorted (args_sorted1 _) ?_
  unfold Builtin.«sorted»
  refine wpAny_bind (m := checkCount "sorted" 1 1 _) (wpAny_pure (wpAny_bind (wpAny_collect_seq l hT ho hc hd (fun h1 k1 => ?_) (by rw [List.size_toArray]; exact few'))))
  refine wpAny_bind (wpAny_newList ?_ few')
  have old : ∀ b o, s.heap.get? b = some o → (h1.push (seqObj "list" vs.toArray 0)).get? b = some o := fun b o q => Heap.get?_push_of_some _ (k1 b o q)
  have there : (h1.push (seqObj "list" vs.toArray 0)).get? h1.objs.size = some (seqObj "list" vs.toArray 0) := Heap.get?_push_size _ rfl
  refine wpAny_bind (wpAny_holding (PySem.W.list_sort_data (s := { s with heap := h1.push (seqObj "list" vs.toArray 0) }) there e (er.mono fun v b ⟨as, r⟩ => ⟨as, PyProof.Rows.Reads.keeps old r, fun m => Nat.lt_irrefl _ (reads_lt (PyProof.Rows.Reads.keeps k1 r) _ m)⟩) hal hk few (fun b m => by have := hu b m; exact this) fun out len er2 => wpAny_pure ⟨_, rfl, ?_⟩))
  obtain ⟨ep, fin⟩ := PyProof.Rows.sortedHeap_at (vs := vs) (out := out.toArray) there
  have more : (h1.push (seqObj "list" vs.toArray 0)).objs.size = h1.objs.size + 1 := Heap.size_push ..
  exact h h1 _ ep out k1 (fun b o q => (PyProof.Rows.sortedHeap_old (Nat.ne_of_lt (Heap.lt_size q)) (more ▸ Nat.lt_succ_of_lt (Heap.lt_size q))).trans (Heap.get?_push_of_some _ q)) fin len er2
def rSrtD (K : PySem.W.Frag) : List V → Hp → VK → Prop := fun vs H Q => ∃ v ds G, vs = [v] ∧ Same G H ∧ (Dp K G v (.list ds) ∨ Dp K G v (.tuple ds)) ∧ PySem.W.AllAlike ds ∧ PySem.W.Sortable ds ∧ PyData.depthAll ds ≤ 60 ∧ ∀ (p : Addr) (ws : List V), H p = none → DpAll K G ws (ds.mergeSort fun a b => !PySem.W.dataLt b a) → Q (.ref p) (upd H p (.lst ws))
theorem depth_mem {d : D} : ∀ {xs : List D}, d ∈ xs → d.depth ≤ PyData.depthAll xs
  | x :: xs, m => by
    unfold PyData.depthAll
    cases m with
    | head => omega
    | tail _ m => have := depth_mem m; omega
theorem cSrtD (hu : X.A.units + 65 < cLine) : CallR X (.builtin "sorted") (rSrtD X.K) := by
  intro pins s σ H vs us Q I r ⟨v, ds, G, e, sg, rd, ha, hk, hz, q⟩
  subst e
  obtain ⟨u, rfl, ru⟩ : ∃ u, us = [u] ∧ RelV v u := by cases r with | cons r t => cases t; exact ⟨_, rfl, r⟩
  obtain ⟨a, ws, its, rfl, ra, rv, few, at_⟩ := itemsOf I sg rd ru
  have len := DpAll_len ra
  have snd : (ws.zip ds).map (·.2) = ds := List.map_snd_zip (by omega)
  have zl : (ws.zip ds).length = its.length := by rw [List.length_zip, ← rv.length]; omega
  obtain ⟨e1, e2⟩ := each_of I sg ra rv (nodAll_mem fun d m => nod_alike (ha d m d m))
  refine sortedSeq (enc := fun b : V × D => b.2) at_ e1 e2 (snd.symm ▸ ha) (snd.symm ▸ hk) (zl.symm ▸ few) (fun b m => ?_) fun h1 h2 ep out k1 k2 there lo er => ?_
  · have := depth_mem (List.of_mem_zip (show (b.1, b.2) ∈ ws.zip ds from m)).2
    omega
  · obtain ⟨vo, d1⟩ := each_out er
    have same : ((ws.zip ds).mergeSort (PySem.W.dataLe false fun b : V × D => b.2)).map (·.2) = ds.mergeSort fun a b => !PySem.W.dataLt b a :=
      (List.map_mergeSort (s := fun a b : D => !PySem.W.dataLt b a) fun a _ b _ => by rw [PySem.W.dataLe_eq]; rfl).trans (by rw [snd])
    have J : Inv X pins σ H { s with heap := h1 } := I.kept (t' := s.toks) k1
    exact ⟨.ref _, _, J.laid (t' := s.toks) (o := .lst _) k2 (Nat.le_refl _) ⟨by rw [vo.length, lo, zl]; exact few, out, ep, vo, there⟩, rfl, q _ _ (J.hok.fresh (Nat.le_refl _)) (same ▸ d1)⟩
end
end Rf
set_option Elab.async false
set_option linter.all false
set_option maxRecDepth 100000
set_option maxHeartbeats 2000000
namespace Rf
open PySem PySem.Spec PyProof.Rows L2
section
variable {X : Cx}
theorem grd_okI {α : Type} {b : Bool} {x : Rs α} {a : α} (h : grd b x = .ok a) : b = true ∧ x = .ok a := by
  cases b with
  | true => exact ⟨rfl, h⟩
  | false => cases h
theorem oLt (hu : X.A.units + 65 < cLine) : OpR X (compareOp .Lt) (rOB X.K ltD) := by
  intro pins s σ H x y v u Q I rx ry ⟨d, e, G, sg, hd, he, p⟩
  obtain ⟨b, eb, q⟩ := PoQ.bl sg p
  have hd' := Dp_mono sg hd
  have he' := Dp_mono sg he
  cases hd <;> cases he <;> first | (cases (show (Rs.no : Rs Bool) = .ok b from eb); done) | skip
  · injection eb with eb
    subst eb
    exact op_lt pins s σ H _ _ v u Q I rx ry ⟨_, _, rfl, rfl, q⟩
  · injection eb with eb
    subst eb
    exact op_lt_str pins s σ H _ _ v u Q I rx ry ⟨_, _, rfl, rfl, q⟩
  · obtain ⟨g, eb⟩ := grd_okI (show grd _ _ = Rs.ok b from eb)
    injection eb with eb
    subst eb
    rw [Bool.and_eq_true, Bool.and_eq_true, Bool.and_eq_true, Nat.ble_eq] at g
    exact opLtT hu I rx ry hd' he' g.1 (fun e => by cases e) g.2.1 g.2.2.1 g.2.2.2 q
  · obtain ⟨g, eb⟩ := grd_okI (show grd _ _ = Rs.ok b from eb)
    injection eb with eb
    subst eb
    rw [Bool.and_eq_true, Bool.and_eq_true, Bool.and_eq_true, Nat.ble_eq] at g
    exact opLtT hu I rx ry hd' he' g.1 (fun e => by cases e) g.2.1 g.2.2.1 g.2.2.2 q
theorem sign_of {y z : Str} {b : Bool} (h : inD (.str y) (.str z) = .ok b) : ∃ c, y = ⟨#[c]⟩ ∧ decide (c ∈ z.cps.toList) = b := by
  have h : (match y.cps.toList with | [c] => Rs.ok (decide (c ∈ z.cps.toList)) | _ => .no) = Rs.ok b := h
  split at h
  · rename_i c e
    injection h with h
    refine ⟨c, ?_, h⟩
    cases y with
    | mk a =>
      congr
      apply Array.toList_inj.mp
      exact e
  · cases h
theorem oIn (hu : X.A.units + 65 < cLine) : OpR X (compareOp .In) (rOB X.K inD) := by
  intro pins s σ H x y v u Q I rx ry ⟨d, e, G, sg, hd, he, p⟩
  obtain ⟨b, eb, q⟩ := PoQ.bl sg p
  have hd' := Dp_mono sg hd
  have he' := Dp_mono sg he
  cases e with
  | list ds =>
    have eb : grd (SeqAt.shaped d && SeqAt.shaped (.list ds)) (.ok (ds.any fun z => PyData.eqv z d)) = Rs.ok b := by cases d <;> exact eb
    by_cases g : (SeqAt.shaped d && SeqAt.shaped (.list ds)) = true
    · rw [g] at eb
      injection eb with eb
      subst eb
      simp only [Bool.and_eq_true] at g
      exact op_inD hu pins s σ H _ _ v u Q I rx ry ⟨d, ds, hd'.dp (nod_lay (SeqAt.canLay_of_shaped g.1)), he'.dp (nod_lay (SeqAt.canLay_of_shaped g.2)), g.1, g.2, q⟩
    · rw [Bool.eq_false_iff.mpr g] at eb; cases eb
  | tuple ds =>
    have eb : grd (SeqAt.shaped d && SeqAt.shaped (.tuple ds)) (.ok (ds.any fun z => PyData.eqv z d)) = Rs.ok b := by cases d <;> exact eb
    by_cases g : (SeqAt.shaped d && SeqAt.shaped (.tuple ds)) = true
    · rw [g] at eb
      injection eb with eb
      subst eb
      simp only [Bool.and_eq_true] at g
      exact oInT hu I rx ry hd' he' g.1 g.2 q
    · rw [Bool.eq_false_iff.mpr g] at eb; cases eb
  | none => cases d <;> cases eb
  | bool => cases d <;> cases eb
  | int => cases d <;> cases eb
  | str z =>
    cases d <;> first | (cases eb; done) | skip
    rename_i y
    obtain ⟨c, ey, eb'⟩ := sign_of eb
    subst ey eb'
    cases hd with
    | str => cases he with
      | str => exact op_in_sign pins s σ H _ _ v u Q I rx ry ⟨c, z, rfl, rfl, q⟩
  | dict => cases d <;> cases eb
theorem oNotIn (hu : X.A.units + 65 < cLine) : OpR X (compareOp .NotIn) (rOB X.K fun d e => (inD d e).map not) := by
  intro pins s σ H x y v u Q I rx ry ⟨d, e, G, sg, hd, he, p⟩
  obtain ⟨b, eb, q⟩ := PoQ.bl sg p
  have hd' := Dp_mono sg hd
  have he' := Dp_mono sg he
  cases e with
  | list ds =>
    have eb : (grd (SeqAt.shaped d && SeqAt.shaped (.list ds)) (.ok (ds.any fun z => PyData.eqv z d))).map not = Rs.ok b := by cases d <;> exact eb
    by_cases g : (SeqAt.shaped d && SeqAt.shaped (.list ds)) = true
    · rw [g] at eb
      injection eb with eb
      subst eb
      simp only [Bool.and_eq_true] at g
      exact op_notInD hu pins s σ H _ _ v u Q I rx ry ⟨d, ds, hd'.dp (nod_lay (SeqAt.canLay_of_shaped g.1)), he'.dp (nod_lay (SeqAt.canLay_of_shaped g.2)), g.1, g.2, q⟩
    · rw [Bool.eq_false_iff.mpr g] at eb; cases eb
  | tuple ds =>
    have eb : (grd (SeqAt.shaped d && SeqAt.shaped (.tuple ds)) (.ok (ds.any fun z => PyData.eqv z d))).map not = Rs.ok b := by cases d <;> exact eb
    by_cases g : (SeqAt.shaped d && SeqAt.shaped (.tuple ds)) = true
    · rw [g] at eb
      injection eb with eb
      subst eb
      simp only [Bool.and_eq_true] at g
      exact oNotInT hu I rx ry hd' he' g.1 g.2 q
    · rw [Bool.eq_false_iff.mpr g] at eb; cases eb
  | none => cases d <;> cases eb
  | bool => cases d <;> cases eb
  | int => cases d <;> cases eb
  | str z =>
    cases d <;> first | (cases eb; done) | skip
    rename_i y
    obtain ⟨b0, e1, e2⟩ : ∃ b0, inD (.str y) (.str z) = .ok b0 ∧ b = !b0 := by
      have eb : (inD (.str y) (.str z)).map not = .ok b := eb
      cases w : inD (.str y) (.str z) with
      | ok b0 => rw [w] at eb; injection eb with eb; exact ⟨b0, rfl, eb.symm⟩
      | ex e => rw [w] at eb; cases eb
      | no => rw [w] at eb; cases eb
    obtain ⟨c, ey, eb'⟩ := sign_of e1
    subst ey e2 eb'
    cases hd with
    | str => cases he with
      | str => exact op_notIn_sign pins s σ H _ _ v u Q I rx ry ⟨c, z, rfl, rfl, q⟩
  | dict => cases d <;> cases eb
theorem oCmp (hu : X.A.units + 65 < cLine) (o : CmpOp) : OpR X (compareOp o) (rO2 X.K (cmpD o)) := by
  cases o
  · exact oEq hu
  · exact oNe hu
  · exact oLt hu
  · exact oLe hu
  · exact oGt
  · exact oGe
  · exact oIs
  · exact oIsNot
  · exact oIn hu
  · exact oNotIn hu
/-- d[k], d a dict with texts as keys -/
def rIxK : R2 := fun x y H Q => ∃ (a : Addr) (xs : List (Key × V)) (k : Str) (v : V), x = .ref a ∧ y = .str k ∧ H a = some (.dK xs) ∧ valV xs (.inr k) = some v ∧ Q v H
theorem ix_dct : IxR X rIxK := by
  intro value slice pins s σ H x y v u Q I rx ry ⟨a, xs, k, w', ex, ey, hA, ew, p⟩ hsx
  subst ex ey
  have ev : v = Value.ref a := rx
  subst ev
  obtain ⟨_, _, us, ru, du⟩ := dk_rd I.hok (.inl hA)
  obtain ⟨x1, hx1, rx1⟩ := RelO.some_of (v := w') (o := valueAt us (.inr k)) (by rw [← ew]; exact ru.val (.inr k))
  exact PyProof.Rows.subscriptTail_builtinR (x := x1) du.typeIs PySem.F.slot_dict_getitem.lookup (wpAny_getItem_of (kV_is (k := .inr k) ry) du.mapOf hx1 ⟨rfl, w', H, I.tok _, rx1, p⟩) hsx
theorem iIdx : IxR X (rO2 X.K idxD) := by
  intro value slice pins s σ H x y v u Q I rx ry ⟨d, e, G, sg, hd, he, p⟩ hsx
  cases he with
  | int i =>
    cases hd with
    | lst qa ra =>
      rename_i a xs ds
      cases ea : atI ds i with
      | none => simp only [idxD, ea] at p; exact p.elim
      | some z =>
        simp only [idxD, ea] at p
        obtain ⟨w', ew, rw'⟩ := DpAll_atI ra ea
        exact ix_list value slice pins s σ H _ _ v u Q I rx ry ⟨a, xs, i, w', rfl, rfl, sg.seq qa, ew, p _ G H (Stp.refl sg) rw'⟩ hsx
    | tup qa ra =>
      rename_i a xs ds
      cases ea : atI ds i with
      | none => simp only [idxD, ea] at p; exact p.elim
      | some z =>
        simp only [idxD, ea] at p
        obtain ⟨w', ew, rw'⟩ := DpAll_atI ra ea
        exact ix_tup value slice pins s σ H _ _ v u Q I rx ry ⟨a, xs, i, w', rfl, rfl, Same.seqT sg qa, ew, p _ G H (Stp.refl sg) rw'⟩ hsx
    | str z =>
      obtain ⟨g, p⟩ := PoQ.grd p
      cases ea : atI z.cps.toList i with
      | none => simp only [ea] at p; exact p.elim
      | some c =>
        simp only [ea] at p
        exact ix_str value slice pins s σ H _ _ v u Q I rx ry ⟨z, i, c, rfl, rfl, few_le g, ea, p _ G H (Stp.refl sg) (.str _)⟩ hsx
    | non => exact (show False from p).elim
    | bl => exact (show False from p).elim
    | int => exact (show False from p).elim
    | dct => exact (show False from p).elim
  | dct => cases hd <;> exact (show False from p).elim
  | non => cases hd <;> exact (show False from p).elim
  | bl => cases hd <;> exact (show False from p).elim
  | str k =>
    cases hd with
    | dct qa ra =>
      rename_i a xs ps
      have p : PoQ X.K G H (match kvAt ps k with | some d => .ok d | none => .no) Q := p
      cases ea : kvAt ps k with
      | none => rw [ea] at p; exact p.elim
      | some z =>
        rw [ea] at p
        obtain ⟨w', ew, rw'⟩ := DpKv_val ra ea
        exact ix_dct value slice pins s σ H _ _ v u Q I rx ry ⟨a, xs, k, w', rfl, rfl, sg a _ qa, ew, p w' G H (Stp.refl sg) rw'⟩ hsx
    | _ => exact (show False from p).elim
  | lst => cases hd <;> exact (show False from p).elim
  | tup => cases hd <;> exact (show False from p).elim
def rSlD (K : PySem.W.Frag) : V → Option Int → Option Int → Hp → VK → Prop := fun x lo hi H Q => ∃ d G, Same G H ∧ Dp K G x d ∧ PoQ K G H (sliD d lo hi) Q
theorem sSli : L2.SlR X (rSlD X.K) := by
  intro pins s σ H x v vl vu lo hi sl Q I rx hs pl pu ⟨d, G, sg, hd, p⟩
  cases hd with
  | lst qa ra =>
    rename_i a xs ds
    refine sl_list pins s σ H _ v vl vu lo hi sl Q I rx hs pl pu ⟨a, xs, rfl, sg.seq qa, fun q hq => ?_⟩
    have st := Stp.new (o := .lst (cutV xs lo hi)) sg hq
    exact p _ _ _ st (.lst (SqL.of upd_same) (DpAll_mono st.gg (DpAll_cut ra lo hi)))
  | tup qa ra =>
    rename_i a xs ds
    refine sl_tupA pins s σ H _ v vl vu lo hi sl Q I rx hs pl pu ⟨a, xs, rfl, Same.seqT sg qa, fun e => ?_, fun _ q hq => ?_⟩
    · refine p _ G H (Stp.refl sg) (.tup qa ?_)
      have e2 : cutD ds lo hi = ds := by
        unfold cutD
        rw [DpAll_len ra] at e
        rw [e.1, e.2, List.drop_zero, Nat.sub_zero, List.take_length]
      rw [e2]; exact ra
    · have st := Stp.new (o := .tup (cutV xs lo hi)) sg hq
      exact p _ _ _ st (.tup (SqT.of upd_same) (DpAll_mono st.gg (DpAll_cut ra lo hi)))
  | non => exact (show False from p).elim
  | bl => exact (show False from p).elim
  | int => exact (show False from p).elim
  | dct => exact (show False from p).elim
  | str z =>
    obtain ⟨g, p⟩ := PoQ.grd p
    refine sl_str pins s σ H _ v vl vu lo hi sl Q I rx hs pl pu ⟨z, rfl, few_le g, ?_⟩
    have e : cutS z lo hi = ⟨(cutD z.cps.toList lo hi).toArray⟩ := by
      unfold cutD
      rw [Array.length_toList]
      rfl
    rw [e]
    exact p _ G H (Stp.refl sg) (.str _)
def rB (K : PySem.W.Frag) (f : List D → Rs D) : List V → Hp → VK → Prop := fun vs H Q => ∃ ds G, Same G H ∧ DpAll K G vs ds ∧ PoQ K G H (f ds) Q
theorem one_of {K : PySem.W.Frag} {G : Hp} {vs : List V} {d : D} (h : DpAll K G vs [d]) : ∃ v, vs = [v] ∧ Dp K G v d := by
  cases h with
  | cons a b => cases b; exact ⟨_, rfl, a⟩
theorem two_of {K : PySem.W.Frag} {G : Hp} {vs : List V} {d e : D} (h : DpAll K G vs [d, e]) : ∃ v u, vs = [v, u] ∧ Dp K G v d ∧ Dp K G u e := by
  cases h with
  | cons a b => cases b with | cons a' b' => cases b'; exact ⟨_, _, rfl, a, a'⟩
theorem three_of {K : PySem.W.Frag} {G : Hp} {vs : List V} {d e f : D} (h : DpAll K G vs [d, e, f]) : ∃ v u w, vs = [v, u, w] ∧ Dp K G v d ∧ Dp K G u e ∧ Dp K G w f := by
  cases h with
  | cons a b => cases b with | cons a' b' => cases b' with | cons a2 b2 => cases b2; exact ⟨_, _, _, rfl, a, a', a2⟩
theorem PoQ.mapI {K : PySem.W.Frag} {G H : Hp} {α : Type} {x : Rs α} {f : α → D} {Q : VK} (p : PoQ K G H (x.map f) Q) : ∃ a, x = .ok a ∧ PoQ K G H (.ok (f a)) Q := by
  cases x with
  | ok a => exact ⟨a, rfl, p⟩
  | ex e => exact p.elim
  | no => exact p.elim
theorem cLen : CallR X (.builtin "len") (rB X.K lenD) := by
  intro pins s σ H xs us Q I r ⟨ds, G, sg, hd, p⟩
  unfold lenD at p
  split at p
  · obtain ⟨v, rfl, h⟩ := one_of hd
    cases h with | lst qa ra =>
    refine call_len_seq pins s σ H _ us Q I r ⟨_, _, rfl, .inl (sg.seq qa), ?_⟩
    rw [DpAll_len ra]
    exact p _ G H (Stp.refl sg) (.int _)
  · obtain ⟨v, rfl, h⟩ := one_of hd
    cases h with | tup qa ra =>
    refine call_len_seq pins s σ H _ us Q I r ⟨_, _, rfl, .inr (Same.seqT sg qa), ?_⟩
    rw [DpAll_len ra]
    exact p _ G H (Stp.refl sg) (.int _)
  · obtain ⟨v, rfl, h⟩ := one_of hd
    cases h with | str z =>
    obtain ⟨g, p⟩ := PoQ.grd p
    exact call_len_str pins s σ H _ us Q I r ⟨_, rfl, few_le g, p _ G H (Stp.refl sg) (.int _)⟩
  · exact p.elim
theorem cSum (hc : X.calm = true) : CallR X (.builtin "sum") (rB X.K sumD) := by
  intro pins s σ H xs us Q I r ⟨ds, G, sg, hd, p⟩
  unfold sumD at p
  split at p
  · obtain ⟨v, rfl, h⟩ := one_of hd
    cases h with | lst qa ra =>
    obtain ⟨ns, e, p⟩ := PoQ.mapI p
    have q := DpAll_ints ra e
    subst q
    exact cr_sum hc pins s σ H _ us Q I r ⟨_, ns, rfl, sg.seq qa, p _ G H (Stp.refl sg) (.int _)⟩
  · obtain ⟨v, rfl, h⟩ := one_of hd
    cases h with | tup qa ra =>
    obtain ⟨ns, e, p⟩ := PoQ.mapI p
    have q := DpAll_ints ra e
    subst q
    obtain ⟨its, rv, hl, _⟩ := I.tuple (Same.seqT sg qa)
    rw [Vals.ref1 r]
    obtain ⟨xs, ei⟩ := rv.ints.allInts.items
    have hn : numsOf (intItems xs).toList = ns := by rw [← ei]; exact rv.ints.numsOf
    rw [nums_intItems] at hn
    rw [ei] at hl
    refine PySem.W.ktm_sumG (I.ok.hd hc) (show s.heap.IsTuple _ (intItems xs) from hl) fun h' tk t' hk => ?_
    rw [preSum_eq, List.take_of_length_le (by simp), hn]
    exact ⟨.int _, H, I.kept hk, ⟨_, rfl⟩, p _ G H (Stp.refl sg) (.int _)⟩
  · exact p.elim
theorem cAll (hc : X.calm = true) : CallR X (.builtin "all") (rB X.K allD) := by
  intro pins s σ H xs us Q I r ⟨ds, G, sg, hd, p⟩
  unfold allD at p
  split at p
  · obtain ⟨v, rfl, h⟩ := one_of hd
    cases h with | lst qa ra =>
    obtain ⟨ns, e, p⟩ := PoQ.mapI p
    have q := DpAll_bools ra e
    subst q
    exact cr_all hc pins s σ H _ us Q I r ⟨_, ns, rfl, sg.seq qa, p _ G H (Stp.refl sg) (.bl _)⟩
  · exact p.elim
theorem cAny (hc : X.calm = true) : CallR X (.builtin "any") (rB X.K anyD) := by
  intro pins s σ H xs us Q I r ⟨ds, G, sg, hd, p⟩
  unfold anyD at p
  split at p
  · obtain ⟨v, rfl, h⟩ := one_of hd
    cases h with | lst qa ra =>
    obtain ⟨ns, e, p⟩ := PoQ.mapI p
    have q := DpAll_bools ra e
    subst q
    exact cr_any hc pins s σ H _ us Q I r ⟨_, ns, rfl, sg.seq qa, p _ G H (Stp.refl sg) (.bl _)⟩
  · exact p.elim
theorem cAbs : CallR X (.builtin "abs") (rB X.K absD) := by
  intro pins s σ H xs us Q I r ⟨ds, G, sg, hd, p⟩
  unfold absD at p
  split at p
  · obtain ⟨v, rfl, h⟩ := one_of hd
    cases h
    exact call_abs pins s σ H _ us Q I r ⟨_, rfl, p _ G H (Stp.refl sg) (.int _)⟩
  · exact p.elim
theorem cMax (hc : X.calm = true) (hu : X.A.units + 65 < cLine) : CallR X (.builtin "max") (rB X.K maxD) := by
  intro pins s σ H xs us Q I r ⟨ds, G, sg, hd, p⟩
  unfold maxD at p
  split at p
  · obtain ⟨v, u, rfl, h, h2⟩ := two_of hd
    cases h; cases h2
    exact call_max2 hc pins s σ H _ us Q I r ⟨_, _, rfl, p _ G H (Stp.refl sg) (.int _)⟩
  · rename_i ds
    obtain ⟨v, rfl, h⟩ := one_of hd
    cases ds with
    | nil => exact p.elim
    | cons z zs =>
      obtain ⟨g, p⟩ := PoQ.grd p
      rw [Bool.and_eq_true, Bool.and_eq_true, Nat.ble_eq] at g
      exact cMaxD hc hu pins s σ H _ us Q I r ⟨v, _, z, zs, G, rfl, sg, h, .inl rfl, g.1, g.2.1, g.2.2, fun u q => p u G H (Stp.refl sg) q⟩
  · rename_i ds
    obtain ⟨v, rfl, h⟩ := one_of hd
    cases ds with
    | nil => exact p.elim
    | cons z zs =>
      obtain ⟨g, p⟩ := PoQ.grd p
      rw [Bool.and_eq_true, Bool.and_eq_true, Nat.ble_eq] at g
      exact cMaxD hc hu pins s σ H _ us Q I r ⟨v, _, z, zs, G, rfl, sg, h, .inr rfl, g.1, g.2.1, g.2.2, fun u q => p u G H (Stp.refl sg) q⟩
  · exact p.elim
theorem cMin (hc : X.calm = true) (hu : X.A.units + 65 < cLine) : CallR X (.builtin "min") (rB X.K minD) := by
  intro pins s σ H xs us Q I r ⟨ds, G, sg, hd, p⟩
  unfold minD at p
  split at p
  · obtain ⟨v, u, rfl, h, h2⟩ := two_of hd
    cases h; cases h2
    exact call_min2 hc pins s σ H _ us Q I r ⟨_, _, rfl, p _ G H (Stp.refl sg) (.int _)⟩
  · rename_i ds
    obtain ⟨v, rfl, h⟩ := one_of hd
    cases ds with
    | nil => exact p.elim
    | cons z zs =>
      obtain ⟨g, p⟩ := PoQ.grd p
      rw [Bool.and_eq_true, Bool.and_eq_true, Nat.ble_eq] at g
      exact cMinD hc hu pins s σ H _ us Q I r ⟨v, _, z, zs, G, rfl, sg, h, .inl rfl, g.1, g.2.1, g.2.2, fun u q => p u G H (Stp.refl sg) q⟩
  · rename_i ds
    obtain ⟨v, rfl, h⟩ := one_of hd
    cases ds with
    | nil => exact p.elim
    | cons z zs =>
      obtain ⟨g, p⟩ := PoQ.grd p
      rw [Bool.and_eq_true, Bool.and_eq_true, Nat.ble_eq] at g
      exact cMinD hc hu pins s σ H _ us Q I r ⟨v, _, z, zs, G, rfl, sg, h, .inr rfl, g.1, g.2.1, g.2.2, fun u q => p u G H (Stp.refl sg) q⟩
  · exact p.elim
theorem cSorted (hu : X.A.units + 65 < cLine) : CallR X (.builtin "sorted") (rB X.K sortD) := by
  intro pins s σ H xs us Q I r ⟨ds, G, sg, hd, p⟩
  unfold sortD at p
  split at p
  · rename_i ds
    obtain ⟨v, rfl, h⟩ := one_of hd
    obtain ⟨g, p⟩ := PoQ.grd p
    rw [Bool.and_eq_true, Bool.and_eq_true, Nat.ble_eq] at g
    refine cSrtD hu pins s σ H _ us Q I r ⟨v, ds, G, rfl, sg, .inl h, (alkB_of g.1).1, srtB_of g.2.1, g.2.2, fun q ws hq hw => ?_⟩
    exact p _ _ _ (Stp.new sg hq) (.lst (SqL.of upd_same) (DpAll_mono (Same.upd (sg.free hq)) hw))
  · rename_i ds
    obtain ⟨v, rfl, h⟩ := one_of hd
    obtain ⟨g, p⟩ := PoQ.grd p
    rw [Bool.and_eq_true, Bool.and_eq_true, Nat.ble_eq] at g
    refine cSrtD hu pins s σ H _ us Q I r ⟨v, ds, G, rfl, sg, .inr h, (alkB_of g.1).1, srtB_of g.2.1, g.2.2, fun q ws hq hw => ?_⟩
    exact p _ _ _ (Stp.new sg hq) (.lst (SqL.of upd_same) (DpAll_mono (Same.upd (sg.free hq)) hw))
  · exact p.elim
theorem cTuple : CallR X (.type "tuple") (rB X.K tupleD) := by
  intro pins s σ H xs us Q I r ⟨ds, G, sg, hd, p⟩
  unfold tupleD at p
  split at p
  · obtain ⟨v, rfl, h⟩ := one_of hd
    cases h with | lst qa ra =>
    refine call_tuple_of pins s σ H _ us Q I r ⟨_, _, rfl, .inl ⟨sg.seq qa, fun q hq => ?_⟩⟩
    exact p _ _ _ (Stp.new sg hq) (.tup (SqT.of upd_same) (DpAll_mono (Same.upd (sg.free hq)) ra))
  · obtain ⟨v, rfl, h⟩ := one_of hd
    cases h with | tup qa ra =>
    exact call_tuple_of pins s σ H _ us Q I r ⟨_, _, rfl, .inr ⟨Same.seqT sg qa, p _ G H (Stp.refl sg) (.tup qa ra)⟩⟩
  · exact p.elim
theorem cList : CallR X (.type "list") (rB X.K listD) := by
  intro pins s σ H xs us Q I r ⟨ds, G, sg, hd, p⟩
  unfold listD at p
  split at p
  · obtain ⟨v, rfl, h⟩ := one_of hd
    cases h with | lst qa ra =>
    refine call_list_of pins s σ H _ us Q I r ⟨_, _, rfl, .inl (sg.seq qa), fun q hq => ?_⟩
    exact p _ _ _ (Stp.new sg hq) (.lst (SqL.of upd_same) (DpAll_mono (Same.upd (sg.free hq)) ra))
  · obtain ⟨v, rfl, h⟩ := one_of hd
    cases h with | tup qa ra =>
    refine call_list_of pins s σ H _ us Q I r ⟨_, _, rfl, .inr (Same.seqT sg qa), fun q hq => ?_⟩
    exact p _ _ _ (Stp.new sg hq) (.lst (SqL.of upd_same) (DpAll_mono (Same.upd (sg.free hq)) ra))
  · exact p.elim
theorem cInt : CallR X (.type "int") (rB X.K toIntD) := by
  intro pins s σ H xs us Q I r ⟨ds, G, sg, hd, p⟩
  unfold toIntD at p
  split at p
  · obtain ⟨v, rfl, h⟩ := one_of hd
    cases h
    exact call_int1 pins s σ H _ us Q I r (.inl ⟨_, rfl, p _ G H (Stp.refl sg) (.int _)⟩)
  · obtain ⟨v, rfl, h⟩ := one_of hd
    cases h
    exact call_int1 pins s σ H _ us Q I r (.inr ⟨_, rfl, p _ G H (Stp.refl sg) (.int _)⟩)
  · rename_i a
    obtain ⟨v, rfl, h⟩ := one_of hd
    cases h
    obtain ⟨g, p⟩ := PoQ.grd p
    rw [Nat.ble_eq] at g
    cases q : PySem.intText? a with
    | none => rw [q] at p; exact p.elim
    | some n =>
      rw [q] at p
      exact call_int_str pins s σ H _ us Q I r ⟨a, n, rfl, q, g, p _ G H (Stp.refl sg) (.int _)⟩
  · exact p.elim
theorem inRng_log {i : Int} (h : inRng i = true) : i.natAbs.log2 < 1920 := by
  rw [inRng_iff] at h
  by_cases z : i.natAbs = 0
  · rw [z]; decide
  · refine Nat.lt_of_lt_of_le ((Nat.log2_lt z).mpr (show i.natAbs < 2 ^ 61 from ?_)) (by decide)
    rw [show (2 : Nat) ^ 61 = 2305843009213693952 from rfl]
    rw [show (2 : Int) ^ 60 = 1152921504606846976 from rfl] at h
    omega
theorem cStr : CallR X (.type "str") (rB X.K strD) := by
  intro pins s σ H xs us Q I r ⟨ds, G, sg, hd, p⟩
  unfold strD at p
  split at p
  · obtain ⟨v, rfl, h⟩ := one_of hd
    cases h
    obtain ⟨g, p⟩ := PoQ.grd p
    exact call_str_int pins s σ H _ us Q I r ⟨_, rfl, inRng_log g, p _ G H (Stp.refl sg) (.str _)⟩
  · obtain ⟨v, rfl, h⟩ := one_of hd
    cases h
    exact SkE.call_str_str pins s σ H _ us Q I r ⟨_, rfl, p _ G H (Stp.refl sg) (.str _)⟩
  · exact p.elim
def tyNm : D → String
  | .none => "NoneType" | .bool _ => "bool" | .int _ => "int" | .str _ => "str" | .list _ => "list" | .tuple _ => "tuple" | .dict _ => "dict"
theorem tyx_of {K : PySem.W.Frag} {G : Hp} {x : V} {d : D} (h : Dp K G x d) : TyX K G x (.type (tyNm d)) := by
  cases h with
  | non => exact .base .non
  | bl => exact .base (.bl _)
  | int => exact .base (.int _)
  | str => exact .base (.str _)
  | lst qa ra =>
    rcases qa with (q | ⟨o, q⟩) | ⟨o, its, n, q, c, _⟩
    · exact .base (.lst q)
    · exact .base (.frz q)
    · exact .kList q c
  | tup qa ra =>
    rcases qa with (q | ⟨o, q⟩) | ⟨o, its, n, q, c, _⟩
    · exact .base (.tup q)
    · exact .fTuple q
    · exact .kTuple q c
  | dct q r => exact .base (.dK q)
theorem cIsi (t : String) (ht : t ∈ ["int", "bool", "str", "list", "tuple"]) : CallR X (.builtin "isinstance") (fun vs H Q => ∃ x d G, vs = [x, .ty t] ∧ Same G H ∧ Dp X.K G x d ∧ PoQ X.K G H ((isiD t d).map .bool) Q) := by
  intro pins s σ H xs us Q I r h
  obtain ⟨x, d, G, rfl, sg, hd, p⟩ := h
  obtain ⟨b, eb, q⟩ := PoQ.bl sg p
  have hd' := Dp_mono sg hd
  have ty := tyx_of hd'
  refine call_isi pins s σ H _ us Q I r ⟨x, .ty t, _, .type t, b, rfl, .ty t, ty, ?_, q⟩
  clear q p r ty hd' hd
  simp only [List.mem_cons, List.not_mem_nil, or_false] at ht
  cases d <;> first | cases eb; done | skip
  all_goals (simp only [isiD] at eb; injection eb with eb; subst eb; rcases ht with rfl | rfl | rfl | rfl | rfl <;> exact kit_ty (by simp only [tyNm]; decide +kernel))
end
end Rf
set_option Elab.async false
set_option linter.all false
set_option maxRecDepth 100000
set_option maxHeartbeats 2000000
namespace Rf
open PySem PySem.Spec PyProof.Rows L2
structure WkD (K : PySem.W.Frag) (G : Hp) (J : L2.It) (its : List D) : Prop where
  go : ∀ i H, i < its.length → Same G H → J.go i H
  stop : ∀ H, Same G H → J.stop its.length H
  yld : ∀ (i : Nat) H x H' G1, i < its.length → Same G G1 → Same G1 H → J.yld i H x H' → ∃ d G2, its[i]? = some d ∧ Stp G1 H G2 H' ∧ Dp K G2 x d
abbrev tI (c : Cw) (r : Env → Rs (List D)) : TI := tG (WkD c.K) c r
theorem Rs.bind_assoc {α β γ : Type} (x : Rs α) (f : α → Rs β) (g : β → Rs γ) : (x.bind f).bind g = x.bind fun a => (f a).bind g := by cases x <;> rfl
section
variable {K : PySem.W.Frag} {G : Hp} {a b : Addr} {vs ws : List V} {ds es : List D}
theorem wk_list (q : SqL K G a vs) (r : DpAll K G vs ds) : WkD K G (Itl K a) ds := by
  have hl := DpAll_len r
  refine ⟨fun i H hi s => ?_, fun H s => ⟨vs, s.seq q, by omega⟩, fun i H x H' G1 hi s1 s2 y => ?_⟩
  · have h : i < vs.length := by omega
    exact ⟨vs, vs[i], s.seq q, List.getElem?_eq_getElem h⟩
  · obtain ⟨e, y⟩ := y
    subst e
    obtain ⟨d, e, rd⟩ := DpAll_getV r (y vs (s2.seq (s1.seq q)))
    exact ⟨d, G1, e, Stp.refl s2, Dp_mono s1 rd⟩
theorem wk_tup (q : SqT K G a vs) (r : DpAll K G vs ds) : WkD K G (Itt K a) ds := by
  have hl := DpAll_len r
  refine ⟨fun i H hi s => ?_, fun H s => ⟨vs, Same.seqT s q, by omega⟩, fun i H x H' G1 hi s1 s2 y => ?_⟩
  · have h : i < vs.length := by omega
    exact ⟨vs, vs[i], Same.seqT s q, List.getElem?_eq_getElem h⟩
  · obtain ⟨e, y⟩ := y
    subst e
    obtain ⟨d, e, rd⟩ := DpAll_getV r (y vs (Same.seqT s2 (Same.seqT s1 q)))
    exact ⟨d, G1, e, Stp.refl s2, Dp_mono s1 rd⟩
theorem wk_rng (lo : Int) (n : Nat) : WkD K G (Itr lo n) ((List.range n).map fun (k : Nat) => PyData.int (lo + (k : Int))) := by
  have hl : ((List.range n).map fun (k : Nat) => PyData.int (lo + (k : Int))).length = n := by simp
  refine ⟨fun i H hi s => by rw [hl] at hi; exact hi, fun H s => by rw [hl]; exact Nat.le_refl _, fun i H x H' G1 hi s1 s2 y => ?_⟩
  obtain ⟨e, y⟩ := y
  subst e
  subst y
  rw [hl] at hi
  exact ⟨_, G1, by rw [List.getElem?_map, List.getElem?_range hi]; rfl, Stp.refl s2, .int _⟩
theorem wk_rngC (lo k : Int) (n : Nat) : WkD K G (Itc lo k n) (rngC lo k n) := by
  have hl : (rngC lo k n).length = n := by simp [rngC]
  refine ⟨fun i H hi s => by rw [hl] at hi; exact hi, fun H s => by rw [hl]; exact Nat.le_refl _, fun i H x H' G1 hi s1 s2 y => ?_⟩
  obtain ⟨e, y⟩ := y
  subst e
  subst y
  rw [hl] at hi
  refine ⟨.int (lo + (i : Nat) * k), G1, ?_, Stp.refl s2, .int _⟩
  unfold rngC
  rw [List.getElem?_map, List.getElem?_range hi]; rfl
end
section
variable {X : Cx} {tg : Expr}
/-- a list, a tuple, or a text -/
theorem pi_any {l : Expr} {tl : TE} (hl : PE X l tl) : PI X tg l (fun σ H R => tl σ H fun x H1 => (∃ a, x = .ref a ∧ ((∃ xs, SqL X.K H1 a xs ∧ R (Itl X.K a) H1) ∨ ∃ xs, SqT X.K H1 a xs ∧ R (Itt X.K a) H1)) ∨ ∃ z, x = .str z ∧ R (Its z) H1) := by
  constructor
  intro pins s σ H R I h
  refine thn (hl.run pins s σ H _ I h) fun v s1 ⟨x, H1, I1, r1, q1⟩ => ?_
  have fp : ∀ b ∈ [s1.heap.objs.size], FpOk X pins H1 b := fun b hb => by
    have e : b = s1.heap.objs.size := by simpa using hb
    subst e
    exact I1.fpOk (Nat.le_refl _) (I1.hok.fresh (Nat.le_refl _))
  rcases q1 with ⟨a, e, q1⟩ | ⟨z, e, q1⟩
  · subst e
    cases r1
    rcases q1 with ⟨xs, hq, q⟩ | ⟨xs, hq, q⟩
    · obtain ⟨its, rv, p, hz⟩ := I1.list hq
      exact wpAny_pyIter_list p.isList ⟨s1.heap.objs.size, [s1.heap.objs.size], _, _, H1, rfl, I1.kept (t' := s1.toks) fun b o e => Heap.get?_push_of_some _ e, turn_list a _, ⟨_, Heap.get?_push_size _ rfl, rfl, rfl⟩, fp, q⟩
    · obtain ⟨its, rv, p, hz⟩ := I1.tuple hq
      exact wpAny_pyIter_tuple (show s1.heap.IsTuple a its.toArray from p) ⟨s1.heap.objs.size, [s1.heap.objs.size], _, _, H1, rfl, I1.kept (t' := s1.toks) fun b o e => Heap.get?_push_of_some _ e, turn_tuple a _, ⟨_, Heap.get?_push_size _ rfl, rfl, rfl⟩, fp, q⟩
  · subst e
    obtain ⟨t, rfl⟩ := r1
    cases ha : z.cps.all (· < 128)
    · exact wpAny_pyIter_wide ha ⟨s1.heap.objs.size, [s1.heap.objs.size], _, _, H1, rfl, I1.kept (t' := s1.toks) fun b o e => Heap.get?_push_of_some _ e, turn_str _ z t "str_iterator" (.inr rfl), ⟨_, Heap.get?_push_size _ rfl, rfl, rfl⟩, fp, q1⟩
    · exact wpAny_pyIter_ascii ha ⟨s1.heap.objs.size, [s1.heap.objs.size], _, _, H1, rfl, I1.kept (t' := s1.toks) fun b o e => Heap.get?_push_of_some _ e, turn_str _ z t "str_ascii_iterator" (.inl rfl), ⟨_, Heap.get?_push_size _ rfl, rfl, rfl⟩, fp, q1⟩
theorem wk_str {K : PySem.W.Frag} {G : Hp} (z : Str) : WkD K G (Its z) (z.cps.toList.map fun c => PyData.str ⟨#[c]⟩) := by
  have hl : (z.cps.toList.map fun c => PyData.str ⟨#[c]⟩).length = z.cps.size := by simp
  refine ⟨fun i H hi s => by rw [hl] at hi; exact hi, fun H s => by rw [hl]; exact Nat.le_refl _, fun i H x H' G1 hi s1 s2 y => ?_⟩
  obtain ⟨e, k, hk, ev⟩ := y
  subst e
  subst ev
  exact ⟨.str ⟨#[k]⟩, G1, by rw [List.getElem?_map]; simp [hk], Stp.refl s2, .str _⟩
theorem PI.mono {l : Expr} {w w' : TI} (h : PI X tg l w) (i : ∀ σ H R, w' σ H R → w σ H R) : PI X tg l w' := ⟨fun pins s σ H R I q => h.run pins s σ H R I (i _ _ _ q)⟩
variable {c : Cw} (hK : c.K = X.K)
include hK
theorem pI_seq {l : Expr} {r : Env → Rs D} (hl : PE X l (tE c r)) : PI X tg l (tI c fun ρ => (r ρ).bind fun d => (itsD d).quiet) := by
  refine PI.mono (pi_any hl) fun σ H R ⟨ρ, G, sg, e, p⟩ => tG.first sg e p fun d u G1 H1 s1 e1 st rd p1 => ?_
  rw [hK] at rd p1
  cases rd with
  | lst q r => exact .inl ⟨_, rfl, .inl ⟨_, s1.seq q, p1 _ G1 H1 (Stp.refl s1) (wk_list q r)⟩⟩
  | tup q r => exact .inl ⟨_, rfl, .inr ⟨_, Same.seqT s1 q, p1 _ G1 H1 (Stp.refl s1) (wk_tup q r)⟩⟩
  | str z =>
    have p1 : PoG (WkD X.K) c σ G1 H1 (grd (few z.length) (Rs.ok (z.cps.toList.map fun c => PyData.str ⟨#[c]⟩))).quiet R := p1
    cases g : few z.length with
    | false => rw [g] at p1; exact p1.elim
    | true => rw [g] at p1; exact .inr ⟨z, rfl, p1 _ G1 H1 (Stp.refl s1) (wk_str z)⟩
  | non => exact p1.elim
  | bl => exact p1.elim
  | int => exact p1.elim
  | dct => exact (show False from p1).elim
theorem pI_rng1 {a : Expr} {r : Env → Rs (List D)} {p pos : Pos} (hg : Gl X "range") (hm : X.mg "range" = none) (ha : PA X [a] (tL c r)) (hs : starEach [a] X.env = [(false, eval a X.env)]) (h1 : ∀ ρ ds, r ρ = .ok ds → ds.length = 1) :
    PI X tg (.Call (.Name "range" p) [a] [] pos) (tI c fun ρ => (r ρ).bind fun ds => (itD .rng ds).quiet) := by
  refine PI.mono (pi_range1 hg hm ha hs) fun σ H R ⟨ρ, G, sg, e, p⟩ => ⟨ρ, G, sg, e, p.seq fun ds us G1 H1 ed st rd p1 => ?_⟩
  have hl := h1 ρ ds ed
  match ds, hl, rd, p1 with
  | [d], _, rd, p1 =>
    obtain ⟨v, rfl, h⟩ := one_of rd
    cases h with
    | int j =>
      have p1 : PoG (WkD c.K) c σ G1 H1 (grd (inRng j && few j.toNat) (.ok (rngD 0 j))).quiet R := p1
      by_cases g : (inRng j && few j.toNat) = true
      · rw [g] at p1
        simp only [inRng_iff, few_iff, Bool.and_eq_true, decide_eq_true_eq] at g
        refine ⟨j, rfl, by omega, by omega, p1 _ G1 H1 (Stp.refl st.gh) ?_⟩
        have := wk_rng (K := c.K) (G := G1) 0 j.toNat
        unfold rngD
        rw [show (j - 0).toNat = j.toNat by omega]
        exact this
      · rw [Bool.eq_false_iff.mpr g] at p1; exact p1.elim
    | non => exact (show False from p1).elim
    | bl => exact (show False from p1).elim
    | str => exact (show False from p1).elim
    | lst => exact (show False from p1).elim
    | tup => exact (show False from p1).elim
    | dct => exact (show False from p1).elim
theorem pI_rng2 {a b : Expr} {r : Env → Rs (List D)} {p pos : Pos} (hg : Gl X "range") (hm : X.mg "range" = none) (ha : PA X [a, b] (tL c r)) (hs : starEach [a, b] X.env = [(false, eval a X.env), (false, eval b X.env)]) (hs2 : starEach [b] X.env = [(false, eval b X.env)]) (h1 : ∀ ρ ds, r ρ = .ok ds → ds.length = 2) :
    PI X tg (.Call (.Name "range" p) [a, b] [] pos) (tI c fun ρ => (r ρ).bind fun ds => (itD .rng ds).quiet) := by
  refine PI.mono (pi_range2 hg hm ha hs hs2) fun σ H R ⟨ρ, G, sg, e, p⟩ => ⟨ρ, G, sg, e, p.seq fun ds us G1 H1 ed st rd p1 => ?_⟩
  have hl := h1 ρ ds ed
  match ds, hl, rd, p1 with
  | [d, d2], _, rd, p1 =>
    obtain ⟨v, v2, rfl, h, h2⟩ := two_of rd
    obtain ⟨i, rfl⟩ : ∃ i, d = .int i := by cases h <;> first | exact ⟨_, rfl⟩ | exact (show False from p1).elim
    obtain ⟨j, rfl⟩ : ∃ i, d2 = .int i := by cases h2 <;> first | exact ⟨_, rfl⟩ | exact (show False from p1).elim
    cases h
    cases h2
    have p1 : PoG (WkD c.K) c σ G1 H1 (grd (inRng i && inRng j && few (j - i).toNat) (.ok (rngD i j))).quiet R := p1
    by_cases g : (inRng i && inRng j && few (j - i).toNat) = true
    · rw [g] at p1
      simp only [inRng_iff, few_iff, Bool.and_eq_true, decide_eq_true_eq] at g
      refine ⟨i, j, rfl, ⟨by omega, by omega, by omega, by omega⟩, p1 _ G1 H1 (Stp.refl st.gh) ?_⟩
      exact wk_rng (K := c.K) (G := G1) i (j - i).toNat
    · rw [Bool.eq_false_iff.mpr g] at p1; exact p1.elim
theorem pI_rng3 {a b d : Expr} {r : Env → Rs (List D)} {p pos : Pos} (hg : Gl X "range") (hm : X.mg "range" = none) (ha : PA X [a, b, d] (tL c r)) (hs : starEach [a, b, d] X.env = (false, eval a X.env) :: starEach [b, d] X.env) (hpl : (backTo pos (starEach [b, d] X.env)).any (·.1) = false) (h1 : ∀ ρ ds, r ρ = .ok ds → ds.length = 3) :
    PI X tg (.Call (.Name "range" p) [a, b, d] [] pos) (tI c fun ρ => (r ρ).bind fun ds => (itD .rng ds).quiet) := by
  refine PI.mono (pi_range3 hg hm ha hs hpl) fun σ H R ⟨ρ, G, sg, e, p⟩ => ⟨ρ, G, sg, e, p.seq fun ds us G1 H1 ed st rd p1 => ?_⟩
  have hl := h1 ρ ds ed
  match ds, hl, rd, p1 with
  | [d, d2, d3], _, rd, p1 =>
    obtain ⟨v, v2, v3, rfl, h, h2, h3⟩ := three_of rd
    obtain ⟨i, rfl⟩ : ∃ i, d = .int i := by cases h <;> first | exact ⟨_, rfl⟩ | exact (show False from p1).elim
    obtain ⟨j, rfl⟩ : ∃ i, d2 = .int i := by cases h2 <;> first | exact ⟨_, rfl⟩ | exact (show False from p1).elim
    obtain ⟨k, rfl⟩ : ∃ i, d3 = .int i := by cases h3 <;> first | exact ⟨_, rfl⟩ | exact (show False from p1).elim
    cases h
    cases h2
    cases h3
    have p2 : PoG (WkD c.K) c σ G1 H1 (if k = -1 then grd (inRng i && inRng j && few (i - j).toNat) (.ok (rngC i (-1) (i - j).toNat)) else grd (rg3 i j k) (.ok (rngC i k (Builtin.Range.rangeSize i j k).toNat))).quiet R := p1
    by_cases g5 : k = -1
    · rw [if_pos g5] at p2
      by_cases g : (inRng i && inRng j && few (i - j).toNat) = true
      · rw [g] at p2
        simp only [inRng_iff, few_iff, Bool.and_eq_true] at g
        obtain ⟨⟨⟨g1, g2⟩, g3, g4⟩, g6⟩ := g
        subst g5
        exact ⟨i, j, -1, (i - j).toNat, rfl, RgC.neg (by omega) (by omega) (by omega) (by omega), p2 _ G1 H1 (Stp.refl st.gh) (wk_rngC _ _ _)⟩
      · rw [Bool.eq_false_iff.mpr g] at p2; exact p2.elim
    · rw [if_neg g5] at p2
      by_cases g : rg3 i j k = true
      · rw [g] at p2
        unfold rg3 at g
        rw [Bool.and_eq_true, Bool.and_eq_true, Bool.and_eq_true, Bool.not_eq_true', decide_eq_false_iff_not, Nat.ble_eq] at g
        obtain ⟨g1, g2, g3, g4⟩ := g
        refine ⟨i, j, k, (Builtin.Range.rangeSize i j k).toNat, rfl, ⟨g1, by omega, g3, ?_⟩, p2 _ G1 H1 (Stp.refl st.gh) (wk_rngC _ _ _)⟩
        cases z : Builtin.Range.rangeSize i j k with
        | ofNat n => rfl
        | negSucc n => rw [z] at g4; cases g4
      · rw [Bool.eq_false_iff.mpr g] at p2; exact p2.elim
end
def setAllV (σ : L2.St) : List (Nat × V) → L2.St
  | [] => σ
  | b :: bs => setAllV (σ.set b.1 (some b.2)) bs
inductive Bnd (K : PySem.W.Frag) (G : Hp) : List (Nat × D) → List (Nat × V) → Prop where
  | nil : Bnd K G [] []
  | cons {i : Nat} {d : D} {v : V} {ds : List (Nat × D)} {vs : List (Nat × V)} : Dp K G v d → Bnd K G ds vs → Bnd K G ((i, d) :: ds) ((i, v) :: vs)
theorem Bnd.app {K : PySem.W.Frag} {G : Hp} : ∀ {a c : List (Nat × D)} {b d : List (Nat × V)}, Bnd K G a b → Bnd K G c d → Bnd K G (a ++ c) (b ++ d)
  | _, _, _, _, .nil, h => h
  | _, _, _, _, .cons x y, h => .cons x (Bnd.app y h)
theorem setAllV_app (σ : L2.St) : ∀ (a b : List (Nat × V)), setAllV σ (a ++ b) = setAllV (setAllV σ a) b
  | [], _ => rfl
  | x :: a, b => setAllV_app (σ.set x.1 (some x.2)) a b
theorem EnvR.all {K : Kx} {G H : Hp} : ∀ {bs : List (Nat × D)} {vs : List (Nat × V)} {ρ : Env} {σ : L2.St}, EnvR K G H ρ σ → Bnd K.1 G bs vs → EnvR K G H (setAllE ρ bs) (setAllV σ vs)
  | _, _, _, _, e, .nil => e
  | (i, d) :: bs, (_, v) :: vs, ρ, σ, e, .cons a b => EnvR.all (ρ := ρ.set i (.fz d)) (σ := σ.set i (some v)) (e.setU a) b
/-- what a target asks -/
def tT (c : Cw) (t : Tg) : TG := fun v σ H Q => ∃ G d, Same G H ∧ Dp c.K G v d ∧ match bindTg t d with | .ok bs => ∀ vs, Bnd c.K G bs vs → Q (setAllV σ vs) H | _ => False
section
variable {X : Cx} {c : Cw}
theorem PG.mono {e : Expr} {t t' : TG} (h : PG X e t) (i : ∀ v σ H Q, t' v σ H Q → t v σ H Q) : PG X e t' := by
  obtain ⟨h1⟩ := h
  exact ⟨fun pins s σ H v u Q I r q => h1 pins s σ H v u Q I r (i _ _ _ _ q)⟩

theorem pG_nm (hK : c.K = X.K) {i : Nat} {x : Str} {pos : Pos} (hN : X.N.Nodup) (hi : X.N[i]? = some x) (hx : Loc X.env.scope x) (hf : X.fn x = true ∨ X.env.scope.names.lookup x = some .local) : PG X (.Name x pos) (tT c (.nm i)) :=
  PG.mono (pg_name hN hi hx hf) fun v σ H Q ⟨G, d, sg, h, p⟩ => p [(i, v)] (.cons h .nil)
def plT : Expr → Bool
  | .Starred .. => false
  | _ => true
theorem asg_cons {e : Expr} {es : List Expr} {env : PySem.Env} (h : plT e = true) : assignEach (e :: es) env = (false, assign e env) :: assignEach es env := by
  cases e <;> first | rfl | cases h
theorem pG_t2 (hK : c.K = X.K) {a b : Tg} {e f : Expr} {k : Nat} {pos : Pos} (hc : X.calm = true) (pe : plT e = true) (pf : plT f = true) (ha : PG X e (tT c a)) (hb : PG X f (tT c b)) : PG X (.Tuple [e, f] k pos) (tT c (.t2 a b)) := by
  refine PG.mono (pg_tup (n := 2) hc (pgs_cons ha (pgs_cons hb pgs_nil (by rw [asg_cons pf]; rfl)) (by rw [asg_cons pe]; rfl)) (by rw [asg_cons pe, asg_cons pf]; rfl) (by rw [asg_cons pe, asg_cons pf]; rfl)) fun v σ H Q ⟨G, d, sg, h, p⟩ => ?_
  rw [hK] at h
  match d, h, p with
  | .tuple [x, y], .tup q r, p =>
    obtain ⟨v1, v2, rfl, h1, h2⟩ := two_of r
    refine ⟨_, _, rfl, Same.seqT sg q, rfl, v1, [v2], rfl, ⟨G, x, sg, by rw [hK]; exact h1, ?_⟩⟩
    have p : match (bindTg a x).bind fun l => (bindTg b y).map fun r => l ++ r with | .ok bs => ∀ vs, Bnd c.K G bs vs → Q (setAllV σ vs) H | _ => False := p
    cases ea : bindTg a x with
    | ok l =>
      rw [ea] at p
      cases eb : bindTg b y with
      | ok r =>
        rw [eb] at p
        exact fun vs bv => ⟨v2, [], rfl, ⟨G, y, sg, by rw [hK]; exact h2, by rw [eb]; exact fun ws bw => ⟨rfl, by rw [← setAllV_app]; exact p _ (bv.app bw)⟩⟩⟩
      | ex e => rw [eb] at p; exact p.elim
      | no => rw [eb] at p; exact p.elim
    | ex e => rw [ea] at p; exact p.elim
    | no => rw [ea] at p; exact p.elim
theorem pG_t3 (hK : c.K = X.K) {a b b3 : Tg} {e f g : Expr} {k : Nat} {pos : Pos} (hc : X.calm = true) (pe : plT e = true) (pf : plT f = true) (pg : plT g = true) (ha : PG X e (tT c a)) (hb : PG X f (tT c b)) (h3 : PG X g (tT c b3)) : PG X (.Tuple [e, f, g] k pos) (tT c (.t3 a b b3)) := by
  refine PG.mono (pg_tup (n := 3) hc (pgs_cons ha (pgs_cons hb (pgs_cons h3 pgs_nil (by rw [asg_cons pg]; rfl)) (by rw [asg_cons pf]; rfl)) (by rw [asg_cons pe]; rfl)) (by rw [asg_cons pe, asg_cons pf, asg_cons pg]; rfl) (by rw [asg_cons pe, asg_cons pf, asg_cons pg]; rfl)) fun v σ H Q ⟨G, d, sg, h, p⟩ => ?_
  rw [hK] at h
  match d, h, p with
  | .tuple [x, y, z], .tup q r, p =>
    obtain ⟨v1, v2, v3, rfl, h1, h2, h4⟩ := three_of r
    refine ⟨_, _, rfl, Same.seqT sg q, rfl, v1, [v2, v3], rfl, ⟨G, x, sg, by rw [hK]; exact h1, ?_⟩⟩
    have p : match (bindTg a x).bind fun l => (bindTg b y).bind fun r => (bindTg b3 z).map fun q => l ++ (r ++ q) with | .ok bs => ∀ vs, Bnd c.K G bs vs → Q (setAllV σ vs) H | _ => False := p
    cases ea : bindTg a x with
    | ok l =>
      rw [ea] at p
      cases eb : bindTg b y with
      | ok r =>
        rw [eb] at p
        cases ec : bindTg b3 z with
        | ok q' =>
          rw [ec] at p
          exact fun vs bv => ⟨v2, [v3], rfl, ⟨G, y, sg, by rw [hK]; exact h2, by rw [eb]; exact fun ws bw => ⟨v3, [], rfl, ⟨G, z, sg, by rw [hK]; exact h4, by rw [ec]; exact fun us bu => ⟨rfl, by rw [← setAllV_app, ← setAllV_app]; exact p _ (bv.app (bw.app bu))⟩⟩⟩⟩⟩
        | ex e => rw [ec] at p; exact p.elim
        | no => rw [ec] at p; exact p.elim
      | ex e => rw [eb] at p; exact p.elim
      | no => rw [eb] at p; exact p.elim
    | ex e => rw [ea] at p; exact p.elim
    | no => rw [ea] at p; exact p.elim
theorem four_of {K : PySem.W.Frag} {G : Hp} {vs : List V} {x y z w : D} (h : DpAll K G vs [x, y, z, w]) : ∃ a b c d, vs = [a, b, c, d] ∧ Dp K G a x ∧ Dp K G b y ∧ Dp K G c z ∧ Dp K G d w := by
  cases h with | cons a h => cases h with | cons b h => cases h with | cons c h => cases h with | cons d h => cases h; exact ⟨_, _, _, _, rfl, a, b, c, d⟩
theorem pG_t4 (hK : c.K = X.K) {a b b3 b4 : Tg} {e f g h0 : Expr} {k : Nat} {pos : Pos} (hc : X.calm = true) (pe : plT e = true) (pf : plT f = true) (pg : plT g = true) (ph : plT h0 = true) (ha : PG X e (tT c a)) (hb : PG X f (tT c b)) (h3 : PG X g (tT c b3)) (h4 : PG X h0 (tT c b4)) : PG X (.Tuple [e, f, g, h0] k pos) (tT c (.t4 a b b3 b4)) := by
  refine PG.mono (pg_tup (n := 4) hc (pgs_cons ha (pgs_cons hb (pgs_cons h3 (pgs_cons h4 pgs_nil (by rw [asg_cons ph]; rfl)) (by rw [asg_cons pg]; rfl)) (by rw [asg_cons pf]; rfl)) (by rw [asg_cons pe]; rfl)) (by rw [asg_cons pe, asg_cons pf, asg_cons pg, asg_cons ph]; rfl) (by rw [asg_cons pe, asg_cons pf, asg_cons pg, asg_cons ph]; rfl)) fun v σ H Q ⟨G, d, sg, h, p⟩ => ?_
  rw [hK] at h
  match d, h, p with
  | .tuple [x, y, z, w], .tup q r, p =>
    obtain ⟨v1, v2, v3, v4, rfl, h1, h2, h4, h5⟩ := four_of r
    refine ⟨_, _, rfl, Same.seqT sg q, rfl, v1, [v2, v3, v4], rfl, ⟨G, x, sg, by rw [hK]; exact h1, ?_⟩⟩
    have p : match (bindTg a x).bind fun l => (bindTg b y).bind fun r => (bindTg b3 z).bind fun q => (bindTg b4 w).map fun o => l ++ (r ++ (q ++ o)) with | .ok bs => ∀ vs, Bnd c.K G bs vs → Q (setAllV σ vs) H | _ => False := p
    cases ea : bindTg a x with
    | ok l =>
      rw [ea] at p
      cases eb : bindTg b y with
      | ok r =>
        rw [eb] at p
        cases ec : bindTg b3 z with
        | ok q' =>
          rw [ec] at p
          cases ed : bindTg b4 w with
          | ok q4 =>
            rw [ed] at p
            exact fun vs bv => ⟨v2, [v3, v4], rfl, ⟨G, y, sg, by rw [hK]; exact h2, by rw [eb]; exact fun ws bw => ⟨v3, [v4], rfl, ⟨G, z, sg, by rw [hK]; exact h4, by rw [ec]; exact fun us bu => ⟨v4, [], rfl, ⟨G, w, sg, by rw [hK]; exact h5, by rw [ed]; exact fun xs bx => ⟨rfl, by rw [← setAllV_app, ← setAllV_app, ← setAllV_app]; exact p _ (bv.app (bw.app (bu.app bx)))⟩⟩⟩⟩⟩⟩⟩
          | ex e => rw [ed] at p; exact p.elim
          | no => rw [ed] at p; exact p.elim
        | ex e => rw [ec] at p; exact p.elim
        | no => rw [ec] at p; exact p.elim
      | ex e => rw [eb] at p; exact p.elim
      | no => rw [eb] at p; exact p.elim
    | ex e => rw [ea] at p; exact p.elim
    | no => rw [ea] at p; exact p.elim
end
theorem gather_nx {f : D → Rs (Option D)} : ∀ (its : List D) (e : Xn), gather f its ≠ .ex e
  | [], e, h => by cases h
  | d :: ds, e, h => by
    unfold gather at h
    cases q : f d with
    | ok o =>
      rw [q] at h
      cases r : gather f ds with
      | ok l => rw [r] at h; cases h
      | ex e' => exact gather_nx ds e' r
      | no => rw [r] at h; cases h
    | ex e' => rw [q] at h; cases h
    | no => rw [q] at h; cases h
theorem gather_app {f : D → Rs (Option D)} : ∀ (as bs : List D) (ds : List D), gather f (as ++ bs) = .ok ds → ∃ p q, gather f as = .ok p ∧ gather f bs = .ok q ∧ ds = p ++ q
  | [], bs, ds, h => ⟨[], ds, rfl, h, rfl⟩
  | a :: as, bs, ds, h => by
    rw [List.cons_append, gather_cons] at h
    cases q : f a with
    | ok o =>
      rw [q, Rs.quiet_ok, Rs.bind_ok] at h
      cases r : gather f (as ++ bs) with
      | ok l =>
        obtain ⟨p, q', e1, e2, e3⟩ := gather_app as bs l r
        rw [r] at h
        injection (show Rs.ok (o.toList ++ l) = Rs.ok ds from h) with h
        refine ⟨o.toList ++ p, q', by rw [gather_cons, q, e1]; rfl, e2, ?_⟩
        rw [← h, e3, List.append_assoc]
      | ex e' => rw [r] at h; exact nomatch (show (Rs.ex e' : Rs (List D)) = Rs.ok ds from h)
      | no => rw [r] at h; exact nomatch (show (Rs.no : Rs (List D)) = Rs.ok ds from h)
    | ex e' => rw [q] at h; exact nomatch (show (Rs.no : Rs (List D)) = Rs.ok ds from h)
    | no => rw [q] at h; exact nomatch (show (Rs.no : Rs (List D)) = Rs.ok ds from h)
theorem gather_one {f : D → Rs (Option D)} {d : D} {q : List D} (h : gather f [d] = .ok q) : ∃ o, f d = .ok o ∧ q = o.toList := by
  rw [gather_cons] at h
  cases e : f d with
  | ok o =>
    rw [e] at h
    injection (show Rs.ok (o.toList ++ []) = Rs.ok q from h) with h
    exact ⟨o, rfl, by rw [← h, List.append_nil]⟩
  | ex e' => rw [e] at h; exact nomatch (show (Rs.no : Rs (List D)) = Rs.ok q from h)
  | no => rw [e] at h; exact nomatch (show (Rs.no : Rs (List D)) = Rs.ok q from h)
theorem gather_len {f : D → Rs (Option D)} : ∀ (its ds : List D), gather f its = .ok ds → ds.length ≤ its.length
  | [], ds, h => by cases h; exact Nat.le_refl _
  | a :: as, ds, h => by
    obtain ⟨p, q, e1, e2, e3⟩ := gather_app [a] as ds h
    obtain ⟨o, _, e4⟩ := gather_one e1
    have := gather_len as q e2
    subst e3; subst e4
    rw [List.length_append, List.length_cons]
    cases o <;> simp <;> omega
end Rf
set_option Elab.async false
set_option linter.all false
set_option maxRecDepth 100000
set_option maxHeartbeats 3900000
namespace Rf
open PySem PySem.Spec PyProof.Rows L2
inductive Src where
  | lst (a : Addr) | tup (a : Addr) | txt (x : Str) (t : Tok)
def Src.val : Src → Value
  | .lst a => .ref a
  | .tup a => .ref a
  | .txt x t => .str x t
def Src.obj : Src → Obj
  | .lst a => { cls := .type "list_iterator", data := .fields #[.ref a, .int 0 0] }
  | .tup a => { cls := .type "tuple_iterator", data := .fields #[.ref a, .int 0 0] }
  | .txt x t => { cls := .type (strIterType x), data := .fields #[.str x t, .int 0 0] }
def Src.at_ : Src → Heap → Addr → Nat → Prop
  | .lst a, h, it, i => h.IsListIter it a i
  | .tup a, h, it, i => h.IsTupleIter it a i
  | .txt x t, h, it, i => h.IsStrIter it (strIterType x) x t i
def Src.cells : Src → List Addr
  | .lst a => [a]
  | .tup a => [a]
  | .txt _ _ => []
def signs (x : Str) : List V := x.cps.toList.map fun c => .str ⟨#[c]⟩
def Src.Is (K : PySem.W.Frag) (H : Hp) (vs : List V) : Src → Prop
  | .lst a => SqL K H a vs
  | .tup a => SqT K H a vs
  | .txt x _ => vs = signs x
theorem Src.at0 {S : Src} {h : Heap} {it : Addr} (e : h.get? it = some S.obj) : S.at_ h it 0 := by
  cases S with
  | lst a => exact ⟨_, e, rfl, rfl⟩
  | tup a => exact ⟨_, e, rfl, rfl⟩
  | txt x t => exact ⟨_, e, rfl, rfl⟩
theorem Src.keep {S : Src} {h h' : Heap} {it : Addr} {i : Nat} (st : S.at_ h it i) (k : ∀ o, h.get? it = some o → h'.get? it = some o) : S.at_ h' it i := by
  cases S with
  | lst a => exact Heap.IsListIter.at st k
  | tup a => exact Heap.IsTupleIter.at st k
  | txt x t => obtain ⟨o, ho, r⟩ := st; exact ⟨o, k o ho, r⟩
theorem Src.live {S : Src} {h : Heap} {it : Addr} {i : Nat} (st : S.at_ h it i) : ∃ o, h.get? it = some o ∧ ∀ v, o.data ≠ .cell v := by
  cases S with
  | lst a => obtain ⟨o, e, _, d⟩ := st; exact ⟨o, e, fun v q => by rw [d] at q; cases q⟩
  | tup a => obtain ⟨o, e, _, d⟩ := st; exact ⟨o, e, fun v q => by rw [d] at q; cases q⟩
  | txt x t => obtain ⟨o, e, _, d⟩ := st; exact ⟨o, e, fun v q => by rw [d] at q; cases q⟩
/-- what is known of a source in a state -/
structure SrcW (P : Program) (w : World) (A : Around) (h : Heap) (S : Src) (vs : List V) (Hd : Heap → Prop) : Prop where
  bg : Begins S.val S.obj Hd
  hd : Hd h
  lt : ∀ b ∈ S.cells, b < h.objs.size
  dr : ∀ it, it ∉ S.cells → Draws P w A it (it :: S.cells) vs.length (fun i v => ∃ x, vs[i]? = some x ∧ RelV x v) fun i h => S.at_ h it i ∧ Hd h
theorem drMono {P : Program} {w : World} {A : Around} {it : Addr} {fp : List Addr} {n : Nat} {P1 P2 : Nat → Value → Prop} {St : Nat → Heap → Prop} (D : Draws P w A it fp n P1 St) (h : ∀ i v, P1 i v → P2 i v) : Draws P w A it fp n P2 St :=
  ⟨D.live, D.frame, fun i s Q E hi st hQ => D.item i s Q E hi st fun x h' tk p => hQ x h' tk (h i x p), D.done⟩
/-- a source whose items are the values of a list -/
theorem seqDr {P : Program} {w : World} {A : Around} {it : Addr} {fp : List Addr} {its : List Value} {vs : List V} {St : Nat → Heap → Prop} (r : Vals vs its)
    (D : Draws P w A it fp its.toArray.size (fun i v => its.toArray[i]? = some v) St) : Draws P w A it fp vs.length (fun i v => ∃ x, vs[i]? = some x ∧ RelV x v) St := by
  have n : its.toArray.size = vs.length := List.size_toArray.trans r.length.symm
  refine drMono (n ▸ D) fun i v e => ?_
  rw [List.getElem?_toArray] at e
  have lt : i < vs.length := r.length ▸ (List.getElem?_eq_some_iff.mp e).1
  obtain ⟨u, eu, ru⟩ := r.get (List.getElem?_eq_getElem lt)
  exact ⟨_, List.getElem?_eq_getElem lt, Option.some.inj (eu.symm.trans e) ▸ ru⟩
/-- a source in a state, around whatever there is -/
theorem Src.getA {X : Cx} {pins : List (Addr × Obj)} {σ : L2.St} {G : Hp} {s0 : Shared} (I : Inv X pins σ G s0) {A : Around} (calm : A.handled = none) : ∀ {S : Src} {vs : List V}, S.Is X.K G vs → ∃ Hd, SrcW X.prog X.w A s0.heap S vs Hd
  | .lst a, vs, q => by
    obtain ⟨its, r, p, _⟩ := I.list q
    refine ⟨_, { bg := begins_list a its.toArray, hd := p.isList, lt := fun b m => List.mem_singleton.mp m ▸ p.lt, dr := fun it n => seqDr r ?_ }⟩
    exact Draws.list calm it a (fun e => n (e ▸ List.mem_cons_self)) its.toArray
  | .tup a, vs, q => by
    obtain ⟨its, r, p, _⟩ := I.tuple q
    refine ⟨_, { bg := begins_tuple a its.toArray, hd := p, lt := fun b m => ?_, dr := fun it n => seqDr r ?_ }⟩
    · obtain ⟨o, there, _⟩ := p
      exact List.mem_singleton.mp m ▸ Heap.lt_size there
    · exact Draws.tuple calm it a (fun e => n (e ▸ List.mem_cons_self)) its.toArray
  | .txt x t, vs, q => by
    cases (show vs = signs x from q)
    refine ⟨_, { bg := begins_text x t, hd := trivial, lt := nofun, dr := fun it _ => ?_ }⟩
    have n : x.cps.size = (signs x).length := by simp [signs]
    have D := n ▸ drMono (P2 := fun i v => ∃ y, (signs x)[i]? = some y ∧ RelV y v) (Draws.text (prog := X.prog) (w := X.w) calm it x t) fun i v ⟨c, u, e, ev⟩ => ⟨.str ⟨#[c]⟩, by simp [signs, e], u, ev⟩
    exact { live := fun i h st => D.live i h st.1, frame := fun i h h' st k => ⟨D.frame i h h' st.1 k, trivial⟩, item := fun i s Q E lt st f => D.item i s Q E lt st.1 fun x h' tk p q => f x h' tk p ⟨q, trivial⟩, done := fun s Q E st => D.done s Q E st.1 }
theorem Src.get {X : Cx} {pins : List (Addr × Obj)} {σ : L2.St} {G : Hp} {s0 : Shared} (I : Inv X pins σ G s0) (c : X.calm = true) {S : Src} {vs : List V} (q : S.Is X.K G vs) : ∃ Hd, SrcW X.prog X.w X.A.in1 s0.heap S vs Hd := Src.getA (A := X.A.in1) I (I.ok.hd c) q
abbrev Lv (h : Heap) (b : Addr) : Prop := ∃ o, h.get? b = some o ∧ ∀ v, o.data ≠ .cell v
theorem Lv.fld {h : Heap} {b : Addr} {c : Value} {us : Array Value} (e : h.get? b = some { cls := c, dict := none, data := .fields us, slots := #[] }) : Lv h b := ⟨_, e, nofun⟩
theorem Lv.seq {h : Heap} {b : Addr} {c : Value} {us : Array Value} (e : h.get? b = some { cls := c, data := .seq us }) : Lv h b := ⟨_, e, nofun⟩
theorem all2 {p : Addr → Prop} {a b : Addr} (h1 : p a) (h2 : p b) : ∀ x ∈ [a, b], p x := List.forall_mem_cons.mpr ⟨h1, List.forall_mem_cons.mpr ⟨h2, nofun⟩⟩
theorem all5 {p : Addr → Prop} {a b c d e : Addr} (h1 : p a) (h2 : p b) (h3 : p c) (h4 : p d) (h5 : p e) : ∀ x ∈ [a, b, c, d, e], p x :=
  List.forall_mem_cons.mpr ⟨h1, List.forall_mem_cons.mpr ⟨h2, List.forall_mem_cons.mpr ⟨h3, all2 h4 h5⟩⟩⟩
theorem all6 {p : Addr → Prop} {a b c d e f : Addr} (h1 : p a) (h2 : p b) (h3 : p c) (h4 : p d) (h5 : p e) (h6 : p f) : ∀ x ∈ [a, b, c, d, e, f], p x := List.forall_mem_cons.mpr ⟨h1, all5 h2 h3 h4 h5 h6⟩
theorem off {l : List Addr} {N j : Nat} (lt : ∀ b ∈ l, b < N) : ((N + j : Nat) : Addr) ∉ l := fun m => Nat.not_lt_of_le (Nat.le_add_right N j) (lt _ m)
theorem off2 {l : List Addr} {N i j : Nat} (lt : ∀ b ∈ l, b < N) (ne : j ≠ i) : ((N + j : Nat) : Addr) ∉ ((N + i : Nat) : Addr) :: l := fun m => (List.mem_cons.mp m).elim (fun e => ne (Nat.add_left_cancel e)) (off lt)
theorem fpNew {X : Cx} {pins : List (Addr × Obj)} {σ : L2.St} {G : Hp} {s0 : Shared} (I : Inv X pins σ G s0) {b : Addr} (h : s0.heap.objs.size ≤ b) : FpOk X pins G b := I.fpOk h (I.hok.fresh h)
/-- a new tuple, and cells of the iterator's own written: what is known behind it -/
theorem madeTup {X : Cx} {pins : List (Addr × Obj)} {σ : L2.St} {G : Hp} {s0 : Shared} (I : Inv X pins σ G s0) {fp : List Addr} (own : ∀ b ∈ fp, FpOk X pins G b) (lt : ∀ b ∈ fp, b < s0.heap.objs.size) {h : Heap} {n : Nat} {vs : List V} {us : List Value}
    (r : Vals vs us) (few : vs.length ≤ sizeLine) (there : h.get? s0.heap.objs.size = some { cls := .type "tuple", data := .seq us.toArray }) (rest : ∀ c o, c ∉ fp → s0.heap.get? c = some o → h.get? c = some o) :
    Inv X pins σ (upd G s0.heap.objs.size (.tup vs)) { s0 with heap := h, toks := n } ∧ G s0.heap.objs.size = none ∧ ∀ b ∈ fp, upd G s0.heap.objs.size (.tup vs) b = none :=
  ⟨I.turnedNew rest own (Nat.le_refl _) ⟨few, us, r, ⟨_, there, rfl, _, rfl⟩⟩, I.hok.fresh (Nat.le_refl _), fun b m => (upd_ne (Nat.ne_of_lt (lt b m))).trans (own b m).1⟩
theorem vals1 {x : V} {us : List Value} : Vals [x] us → ∃ u, us = [u] ∧ RelV x u
  | .cons r .nil => ⟨_, rfl, r⟩
theorem vals2 {x y : V} {us : List Value} : Vals [x, y] us → ∃ u u2, us = [u, u2] ∧ RelV x u ∧ RelV y u2
  | .cons r (.cons r2 .nil) => ⟨_, _, rfl, r, r2⟩
theorem vals3 {x y z : V} {us : List Value} : Vals [x, y, z] us → ∃ u u2 u3, us = [u, u2, u3] ∧ RelV x u ∧ RelV y u2 ∧ RelV z u3
  | .cons r (.cons r2 (.cons r3 .nil)) => ⟨_, _, _, rfl, r, r2, r3⟩
/-- plain arguments to one of the interpreter's own classes, and an iterator of what it makes -/
theorem pi_type {X : Cx} {T : String} {x : Str} {e : Expr} {l : List Expr} {ta : TA} {p pos : Pos} {tg : Expr} {W : List V → Hp → (L2.It → Hp → Prop) → Prop} (boot : bootBuiltins x = some (.type T)) (hg : Gl X x) (hm : X.mg x = none) (ha : PA X (e :: l) ta)
    (hs : starEach (e :: l) X.env = (false, eval e X.env) :: starEach l X.env) (hpl : (backTo pos (starEach l X.env)).any (·.1) = false) (n1 : x ≠ "__name__") (n2 : (x == ("__debug__" : Str)) = false)
    (go : ∀ {pins σ s0 G R us vs}, Inv X pins σ G s0 → Vals vs us → W vs G R → wpAny (model X.prog X.w) X.A (call (.type T) us) (fun v s1 => wpAny (model X.prog X.w) X.A (pyIter v) (PIE X pins σ tg R) X.xe s1) X.xe s0) :
    PI X tg (.Call (.Name x p) (e :: l) [] pos) fun σ G R => ta σ G fun vs G1 => W vs G1 R :=
  ⟨fun pins s0 σ G R I h => Call_ (ld_blt I hg hm boot (PyProof.Rows.callWith_type1 (thn (ha.run pos pins s0 σ G _ I h) fun _ _ ⟨_, _, J, r, q⟩ => go J r q) hs hpl) n1 n2)⟩
def ItE (K : PySem.W.Frag) (S : Src) (vs : List V) : L2.It :=
  ⟨fun i H => i < vs.length ∧ S.Is K H vs, fun i H x H' => ∃ T v, x = .ref T ∧ H T = none ∧ H' = upd H T (.tup [.int (i : Nat), v]) ∧ vs[i]? = some v, fun i H => i = vs.length ∧ S.Is K H vs⟩
theorem turn_en {P : Program} {w : World} {K : PySem.W.Frag} {elts : List Expr} {kk : Nat} {tpos : Pos} {S : Src} {vs : List V} {N : Nat} (hlt : ∀ b ∈ S.cells, b < N) :
    Turn P w K (.Tuple elts kk tpos) (ItE K S vs) [N + 1, N] (N + 1) (fun i h => (∃ old, IsEnum h (N + 1) N (i : Nat) old) ∧ S.at_ h N i) where
  mem := .head _
  obj := fun i h ⟨⟨_, en⟩, st⟩ => all2 (Lv.fld en) (Src.live st)
  keep := fun i h h' ⟨⟨old, en⟩, st⟩ k => ⟨⟨old, k _ (.head _) _ en⟩, Src.keep st (k N (.tail _ (.head _)))⟩
  item := fun X eP ew eK calm i pins s0 σ G E I own ⟨⟨old, en⟩, st⟩ ⟨lt, is⟩ => by
    cases eP; cases ew; cases eK
    obtain ⟨Hd, W⟩ := Src.get I calm is
    have nn : (N + 1 : Nat) ≠ N := Nat.succ_ne_self N
    have top := Heap.lt_size en
    refine wpAny_pyNext_enum_itemD (W.dr N (off (j := 0) hlt)) en ⟨st, W.hd⟩ lt nn (off2 (i := 0) hlt Nat.one_ne_zero) fun u h1 tk ⟨x, ex, ru⟩ out st1 there _ kept => ⟨_, rfl, wpAny_letOwnedTupleGo_enum out fun h2 en2 sb => ?_⟩
    replace sb : Heap.SameBut (N + 1) h1 h2 := sb
    obtain ⟨J, new, free⟩ := madeTup I own (all2 top (Nat.lt_trans (Nat.lt_succ_self N) top)) (vs := [.int (i : Nat), x]) (.cons ⟨_, rfl⟩ (.cons ru .nil)) (by show 2 ≤ sizeLine; decide) (sb.extBut _ _ (Nat.ne_of_gt top) there)
      fun c o nc q => sb.extBut _ _ (List.ne_of_not_mem_cons nc) (kept c o (List.ne_of_not_mem_cons nc) (List.ne_of_not_mem_cons (List.not_mem_of_not_mem_cons nc)) q)
    exact ⟨.ref _, _, J, rfl, ⟨_, x, rfl, new, rfl, ex⟩, ⟨⟨u, by rw [Int.natCast_add]; exact en2⟩, Src.keep st1.1 fun o => sb.extBut N o nn.symm⟩, free⟩
  done := fun X eP ew eK calm i pins s0 σ G E I own ⟨⟨old, en⟩, st⟩ ⟨all, is⟩ => by
    cases eP; cases ew; cases eK; cases all
    obtain ⟨Hd, W⟩ := Src.get I calm is
    exact wpAny_pyNext_enum_endD (W.dr N (off (j := 0) hlt)) en ⟨st, W.hd⟩ fun h1 ext => ⟨rfl, I.turnedL (fun c o nc => ext c o (List.ne_of_not_mem_cons (List.not_mem_of_not_mem_cons nc))) own⟩
  self := fun A i s0 Q E ⟨⟨_, en⟩, _⟩ => wpAny_pyIter_enum en
/-- what enumerate makes of an iterator -/
abbrev enumObj (u : Value) : Obj := { cls := .type "enumerate", data := .fields #[.none, .bool false, u, rawInt 0, .none, .none] }
/-- iter(v) is u, the heap then as g tells -/
structure Iters (v : Value) (J : Heap → Prop) (u : Heap → Value) (g : Heap → Heap) : Prop where
  run : ∀ {P : Program} {w : World} {A : Around} {E Q : Value → Shared → Prop} {hp : Heap} {gs : Array GenState} {dr : Drawn} {tk : Nat} {os : OsState}, J hp → Q (u hp) ⟨g hp, gs, dr, tk, os⟩ → wpAny (model P w) A (pyIter v) Q E ⟨hp, gs, dr, tk, os⟩
theorem enumNew {v : Value} {J : Heap → Prop} {u : Heap → Value} {g : Heap → Heap} (B : Iters v J u g) :
    Meets (Builtin.«enumerate.__new__» ⟨[.type "enumerate", v], []⟩) (fun _ R s0 => J s0.heap ∧ R (.ok (.ret (.ref (g s0.heap).objs.size))) { s0 with heap := (g s0.heap).push (enumObj (u s0.heap)) }) :=
  Meets.of_wp fun P w A R ⟨hp, gs, dr, tk, os⟩ ⟨j, fin⟩ => by
    have sub := sub_enumerate
    have src : ∀ {A' : Around} {E' Q' : Value → Shared → Prop}, Q' (u hp) ⟨g hp, gs, dr, tk, os⟩ → wpAny (model P w) A' (pyIter v) Q' E' ⟨hp, gs, dr, tk, os⟩ := fun q => B.run j q
    wp_walk using src
    refine wpAny_stack_any fun st => wpAny_pure ?_
    split
    · rename_i c _ _ _ _ _
      by_cases own : (c == Value.type "enumerate") = true <;> simp only [own] <;> (wp_walk using src; exact ⟨_, rfl, fin⟩)
    · wp_walk using src
      exact ⟨_, rfl, fin⟩
theorem callEnum {P : Program} {w : World} {A : Around} {E Q : Value → Shared → Prop} {s0 : Shared} {v : Value} {J : Heap → Prop} {u : Heap → Value} {g : Heap → Heap} (B : Iters v J u g) (j : J s0.heap)
    (h : Q (.ref (g s0.heap).objs.size) { s0 with heap := (g s0.heap).push (enumObj (u s0.heap)) }) : wpAny (model P w) A (call (.type "enumerate") [v]) Q E s0 :=
  callType_new F.called_enumerate (by decide) (F.typeCall_enumerate_1 _) (F.newCall_enumerate_1 _) (fun x => F.args_object_init_2 x _) F.entry_enumerate_new (enumNew B) ⟨j, ⟨_, Heap.get?_push_size _ rfl, rfl⟩, h⟩
theorem iters_new {v : Value} {o : Obj} {J : Heap → Prop} (B : Begins v o J) : Iters v J (fun h => .ref h.objs.size) (fun h => h.push o) := ⟨fun j q => B.iter _ _ _ _ _ _ j q⟩
def iEn (K : PySem.W.Frag) (ta : TA) : TI := fun σ H R => ta σ H fun vs H1 => ∃ x, vs = [x] ∧ ∀ u, RelV x u → ∃ S ws, S.val = u ∧ Src.Is K H1 ws S ∧ R (ItE K S ws) H1
theorem pi_en {X : Cx} {e : Expr} {ta : TA} {p pos tpos : Pos} {elts : List Expr} {kk : Nat} (hc : X.calm = true) (hg : Gl X "enumerate") (hm : X.mg "enumerate" = none) (ha : PA X [e] ta) (hs : starEach [e] X.env = [(false, eval e X.env)]) :
    PI X (.Tuple elts kk tpos) (.Call (.Name "enumerate" p) [e] [] pos) (iEn X.K ta) :=
  pi_type boot_enumerate hg hm ha hs rfl (by decide) (by decide) fun {pins σ s0 G R us vs} I r ⟨x, ex, q⟩ => by
    subst ex
    obtain ⟨u, rfl, ru⟩ := vals1 r
    obtain ⟨S, ws, rfl, is, q⟩ := q u ru
    obtain ⟨Hd, W⟩ := Src.get I hc is
    have n : (s0.heap.push S.obj).objs.size = s0.heap.objs.size + 1 := Heap.size_push ..
    have en : ((s0.heap.push S.obj).push (enumObj (.ref s0.heap.objs.size))).get? (s0.heap.objs.size + 1) = some (enumObj (.ref s0.heap.objs.size)) := n ▸ Heap.get?_push_size (s0.heap.push S.obj) (o := enumObj _) rfl
    have kept : ∀ c o, s0.heap.get? c = some o → ((s0.heap.push S.obj).push (enumObj (.ref s0.heap.objs.size))).get? c = some o := fun c o q => Heap.get?_push_of_some _ (Heap.get?_push_of_some _ q)
    refine callEnum (iters_new W.bg) W.hd ?_
    rw [n]
    exact wpAny_pyIter_enum en ⟨_, _, _, _, G, rfl, I.kept (t' := s0.toks) kept, turn_en W.lt, ⟨⟨.none, en⟩, Src.at0 (Heap.get?_push_of_some _ (Heap.get?_push_size _ W.bg.free))⟩, all2 (fpNew I (Nat.le_succ _)) (fpNew I (Nat.le_refl _)), q⟩
def ItZ (K : PySem.W.Frag) (S S2 : Src) (vs ws : List V) : L2.It :=
  ⟨fun i H => i < vs.length ∧ i < ws.length ∧ S.Is K H vs ∧ S2.Is K H ws, fun i H x H' => ∃ T v u, x = .ref T ∧ H T = none ∧ H' = upd H T (.tup [v, u]) ∧ vs[i]? = some v ∧ ws[i]? = some u,
    fun i H => i ≤ vs.length ∧ i ≤ ws.length ∧ (i = vs.length ∨ i = ws.length) ∧ S.Is K H vs ∧ S2.Is K H ws⟩
theorem ne5 {a b c d e x : Addr} (h : x ∉ [a, b, c, d, e]) : x ≠ a ∧ x ≠ b ∧ x ≠ c ∧ x ≠ d ∧ x ≠ e := by simpa only [List.mem_cons, List.not_mem_nil, or_false, not_or] using h
theorem ne6 {a b c d e f x : Addr} (h : x ∉ [a, b, c, d, e, f]) : x ≠ a ∧ x ≠ b ∧ x ≠ c ∧ x ≠ d ∧ x ≠ e ∧ x ≠ f := by simpa only [List.mem_cons, List.not_mem_nil, or_false, not_or] using h
theorem lt5 {N n : Nat} (h : N + 4 < n) : ∀ b ∈ [N + 4, N + 2, N + 3, N, N + 1], b < n := all5 h (by omega) (by omega) (by omega) (by omega)
theorem lt6 {N n : Nat} (h : N + 5 < n) : ∀ b ∈ [N + 5, N + 3, N + 4, N, N + 1, N + 2], b < n := all6 h (by omega) (by omega) (by omega) (by omega) (by omega)
theorem turn_z2 {P : Program} {w : World} {K : PySem.W.Frag} {elts : List Expr} {kk : Nat} {tpos : Pos} {S S2 : Src} {vs ws : List V} {N : Nat} (h1 : ∀ b ∈ S.cells, b < N) (h2 : ∀ b ∈ S2.cells, b < N) :
    Turn P w K (.Tuple elts kk tpos) (ItZ K S S2 vs ws) [N + 4, N + 2, N + 3, N, N + 1] (N + 4) (fun i h => IsZip h (N + 4) (N + 2) (N + 3) .none ∧ IsTupOf2 h (N + 2) (.ref N) (.ref (N + 1)) ∧ (∃ x y, IsTupOf2 h (N + 3) x y) ∧ S.at_ h N i ∧ S2.at_ h (N + 1) i) where
  mem := .head _
  obj := fun i h ⟨z, ti, ⟨_, _, to⟩, s1, s2⟩ => all5 (Lv.fld z) (Lv.seq ti) (Lv.seq to) (Src.live s1) (Src.live s2)
  keep := fun i h h' ⟨z, ti, ⟨x, y, to⟩, s1, s2⟩ k =>
    ⟨k _ (.head _) _ z, k _ (.tail _ (.head _)) _ ti, ⟨x, y, k _ (.tail _ (.tail _ (.head _))) _ to⟩, Src.keep s1 (k N (by simp)), Src.keep s2 (k (N + 1) (by simp))⟩
  item := fun X eP ew eK calm i pins s0 σ G E I own ⟨z, ti, ⟨a, b, to⟩, s1, s2⟩ ⟨l1, l2, is1, is2⟩ => by
    cases eP; cases ew; cases eK
    obtain ⟨Hd1, W1⟩ := Src.get I calm is1
    obtain ⟨Hd2, W2⟩ := Src.get I calm is2
    have ap := zip_sep2 h1 h2
    have top := Heap.lt_size z
    refine wpAny_pyNext_zipD2_item ap (W1.dr N (off (j := 0) h1)) (W2.dr (N + 1) (off h2)) z ti to ⟨s1, W1.hd⟩ ⟨s2, W2.hd⟩ l1 l2 fun u u2 h3 tk ⟨x, ex, ru⟩ ⟨y, ey, ru2⟩ z3 to3 t1 t2 there _ kept => ⟨_, rfl, wpAny_letOwnedTupleGo_zip z3 fun h4 z4 sb => ?_⟩
    replace sb : Heap.SameBut (N + 4) h3 h4 := sb
    obtain ⟨J, new, free⟩ := madeTup I own (lt5 top) (vs := [x, y]) (.cons ru (.cons ru2 .nil)) (by show 2 ≤ sizeLine; decide) (sb.extBut _ _ (Nat.ne_of_gt top) there)
      fun c o nc q => let ⟨n1, _, n3, n4, n5⟩ := ne5 nc; sb.extBut _ _ n1 (kept c o n1 n3 n4 n5 q)
    exact ⟨.ref _, _, J, rfl, ⟨_, x, y, rfl, new, rfl, ex, ey⟩, ⟨z4, sb.extBut _ _ ap.TIz (kept _ _ ap.TIz ap.TITO ap.TIi1 ap.TIi2 ti), ⟨u, u2, sb.extBut _ _ ap.TOz to3⟩, Src.keep t1.1 fun o => sb.extBut N o ap.zi1.symm, Src.keep t2.1 fun o => sb.extBut (N + 1) o ap.zi2.symm⟩, free⟩
  done := fun X eP ew eK calm i pins s0 σ G E I own ⟨z, ti, ⟨a, b, to⟩, s1, s2⟩ ⟨l1, l2, fin, is1, is2⟩ => by
    cases eP; cases ew; cases eK
    obtain ⟨Hd1, W1⟩ := Src.get I calm is1
    obtain ⟨Hd2, W2⟩ := Src.get I calm is2
    exact wpAny_pyNext_zipD2_end (zip_sep2 h1 h2) (W1.dr N (off (j := 0) h1)) (W2.dr (N + 1) (off h2)) z ti to ⟨s1, W1.hd⟩ ⟨s2, W2.hd⟩ l1 l2 fin fun h3 tk kept =>
      ⟨rfl, I.turnedL (fun c o nc => let ⟨n1, _, n3, n4, n5⟩ := ne5 nc; kept c o n1 n3 n4 n5) own⟩
  self := fun A i s0 Q E st => wpAny_pyIter_zip st.1
def iZ2 (K : PySem.W.Frag) (ta : TA) : TI := fun σ H R => ta σ H fun vs H1 => ∃ x y, vs = [x, y] ∧ ∀ u u2, RelV x u → RelV y u2 → ∃ S S2 ws ws2, S.val = u ∧ S2.val = u2 ∧ Src.Is K H1 ws S ∧ Src.Is K H1 ws2 S2 ∧ R (ItZ K S S2 ws ws2) H1
theorem pi_z2 {X : Cx} {e e2 : Expr} {ta : TA} {p pos tpos : Pos} {elts : List Expr} {kk : Nat} (hc : X.calm = true) (hg : Gl X "zip") (hm : X.mg "zip" = none) (ha : PA X [e, e2] ta)
    (hs : starEach [e, e2] X.env = (false, eval e X.env) :: starEach [e2] X.env) (hpl : (backTo pos (starEach [e2] X.env)).any (·.1) = false) :
    PI X (.Tuple elts kk tpos) (.Call (.Name "zip" p) [e, e2] [] pos) (iZ2 X.K ta) :=
  pi_type PyProof.Rows.boot_zip hg hm ha hs hpl (by decide) (by decide) fun {pins σ s0 G R us vs} I r ⟨x, y, ex, q⟩ => by
    subst ex
    obtain ⟨u, u2, rfl, ru, ru2⟩ := vals2 r
    obtain ⟨S, S2, ws, ws2, rfl, rfl, is1, is2, q⟩ := q u u2 ru ru2
    obtain ⟨Hd1, W1⟩ := Src.get I hc is1
    obtain ⟨Hd2, W2⟩ := Src.get I hc is2
    have f : ∀ j, FpOk X pins G (s0.heap.objs.size + j) := fun j => fpNew I (Nat.le_add_right _ j)
    exact zip_begins2 W1.bg W2.bg W1.hd W2.hd fun h3 z ti to g1 g2 _ kept => wpAny_pyIter_zip z ⟨_, _, _, _, G, rfl, I.kept (t' := s0.toks) kept, turn_z2 W1.lt W2.lt, ⟨z, ti, ⟨_, _, to⟩, Src.at0 g1, Src.at0 g2⟩, all5 (f 4) (f 2) (f 3) (f 0) (f 1), q⟩
def ItZ3 (K : PySem.W.Frag) (S S2 S3 : Src) (vs ws us : List V) : L2.It :=
  ⟨fun i H => i < vs.length ∧ i < ws.length ∧ i < us.length ∧ S.Is K H vs ∧ S2.Is K H ws ∧ S3.Is K H us, fun i H x H' => ∃ T v u t, x = .ref T ∧ H T = none ∧ H' = upd H T (.tup [v, u, t]) ∧ vs[i]? = some v ∧ ws[i]? = some u ∧ us[i]? = some t,
    fun i H => i ≤ vs.length ∧ i ≤ ws.length ∧ i ≤ us.length ∧ (i = vs.length ∨ i = ws.length ∨ i = us.length) ∧ S.Is K H vs ∧ S2.Is K H ws ∧ S3.Is K H us⟩
theorem turn_z3 {P : Program} {w : World} {K : PySem.W.Frag} {elts : List Expr} {kk : Nat} {tpos : Pos} {S S2 S3 : Src} {vs ws us : List V} {N : Nat} (h1 : ∀ b ∈ S.cells, b < N) (h2 : ∀ b ∈ S2.cells, b < N) (h3 : ∀ b ∈ S3.cells, b < N) :
    Turn P w K (.Tuple elts kk tpos) (ItZ3 K S S2 S3 vs ws us) [N + 5, N + 3, N + 4, N, N + 1, N + 2] (N + 5) (fun i h => IsZip h (N + 5) (N + 3) (N + 4) .none ∧ IsTupOf3 h (N + 3) (.ref N) (.ref (N + 1)) (.ref (N + 2)) ∧ (∃ x y z, IsTupOf3 h (N + 4) x y z) ∧ S.at_ h N i ∧ S2.at_ h (N + 1) i ∧ S3.at_ h (N + 2) i) where
  mem := .head _
  obj := fun i h ⟨z, ti, ⟨_, _, _, to⟩, s1, s2, s3⟩ => all6 (Lv.fld z) (Lv.seq ti) (Lv.seq to) (Src.live s1) (Src.live s2) (Src.live s3)
  keep := fun i h h' ⟨z, ti, ⟨x, y, t, to⟩, s1, s2, s3⟩ k =>
    ⟨k _ (.head _) _ z, k _ (.tail _ (.head _)) _ ti, ⟨x, y, t, k _ (.tail _ (.tail _ (.head _))) _ to⟩, Src.keep s1 (k N (by simp)), Src.keep s2 (k (N + 1) (by simp)), Src.keep s3 (k (N + 2) (by simp))⟩
  item := fun X eP ew eK calm i pins s0 σ G E I own ⟨z, ti, ⟨a, b, c, to⟩, s1, s2, s3⟩ ⟨l1, l2, l3, is1, is2, is3⟩ => by
    cases eP; cases ew; cases eK
    obtain ⟨Hd1, W1⟩ := Src.get I calm is1
    obtain ⟨Hd2, W2⟩ := Src.get I calm is2
    obtain ⟨Hd3, W3⟩ := Src.get I calm is3
    have ap := zip_sep3 h1 h2 h3
    have top := Heap.lt_size z
    refine wpAny_pyNext_zipD3_item ap (W1.dr N (off (j := 0) h1)) (W2.dr (N + 1) (off h2)) (W3.dr (N + 2) (off h3)) z ti to ⟨s1, W1.hd⟩ ⟨s2, W2.hd⟩ ⟨s3, W3.hd⟩ l1 l2 l3
      fun u u2 u3 h4 tk ⟨x, ex, ru⟩ ⟨y, ey, ru2⟩ ⟨v, ev, ru3⟩ z4 to4 t1 t2 t3 there _ kept => ⟨_, rfl, wpAny_letOwnedTupleGo_zip z4 fun h5 z5 sb => ?_⟩
    replace sb : Heap.SameBut (N + 5) h4 h5 := sb
    obtain ⟨J, new, free⟩ := madeTup I own (lt6 top) (vs := [x, y, v]) (.cons ru (.cons ru2 (.cons ru3 .nil))) (by show 3 ≤ sizeLine; decide) (sb.extBut _ _ (Nat.ne_of_gt top) there)
      fun c o nc q => let ⟨n1, _, n3, n4, n5, n6⟩ := ne6 nc; sb.extBut _ _ n1 (kept c o n1 n3 n4 n5 n6 q)
    exact ⟨.ref _, _, J, rfl, ⟨_, x, y, v, rfl, new, rfl, ex, ey, ev⟩, ⟨z5, sb.extBut _ _ ap.TIz (kept _ _ ap.TIz ap.TITO ap.TIi1 ap.TIi2 ap.TIi3 ti), ⟨u, u2, u3, sb.extBut _ _ ap.TOz to4⟩,
      Src.keep t1.1 fun o => sb.extBut N o ap.zi1.symm, Src.keep t2.1 fun o => sb.extBut (N + 1) o ap.zi2.symm, Src.keep t3.1 fun o => sb.extBut (N + 2) o ap.zi3.symm⟩, free⟩
  done := fun X eP ew eK calm i pins s0 σ G E I own ⟨z, ti, ⟨a, b, c, to⟩, s1, s2, s3⟩ ⟨l1, l2, l3, fin, is1, is2, is3⟩ => by
    cases eP; cases ew; cases eK
    obtain ⟨Hd1, W1⟩ := Src.get I calm is1
    obtain ⟨Hd2, W2⟩ := Src.get I calm is2
    obtain ⟨Hd3, W3⟩ := Src.get I calm is3
    exact wpAny_pyNext_zipD3_end (zip_sep3 h1 h2 h3) (W1.dr N (off (j := 0) h1)) (W2.dr (N + 1) (off h2)) (W3.dr (N + 2) (off h3)) z ti to ⟨s1, W1.hd⟩ ⟨s2, W2.hd⟩ ⟨s3, W3.hd⟩ l1 l2 l3 fin fun h4 tk kept =>
      ⟨rfl, I.turnedL (fun c o nc => let ⟨n1, _, n3, n4, n5, n6⟩ := ne6 nc; kept c o n1 n3 n4 n5 n6) own⟩
  self := fun A i s0 Q E st => wpAny_pyIter_zip st.1
def iZ3 (K : PySem.W.Frag) (ta : TA) : TI := fun σ H R => ta σ H fun vs H1 => ∃ x y z, vs = [x, y, z] ∧ ∀ u u2 u3, RelV x u → RelV y u2 → RelV z u3 → ∃ S S2 S3 ws ws2 ws3, S.val = u ∧ S2.val = u2 ∧ S3.val = u3 ∧ Src.Is K H1 ws S ∧ Src.Is K H1 ws2 S2 ∧ Src.Is K H1 ws3 S3 ∧ R (ItZ3 K S S2 S3 ws ws2 ws3) H1
theorem pi_z3 {X : Cx} {e e2 e3 : Expr} {ta : TA} {p pos tpos : Pos} {elts : List Expr} {kk : Nat} (hc : X.calm = true) (hg : Gl X "zip") (hm : X.mg "zip" = none) (ha : PA X [e, e2, e3] ta)
    (hs : starEach [e, e2, e3] X.env = (false, eval e X.env) :: starEach [e2, e3] X.env) (hpl : (backTo pos (starEach [e2, e3] X.env)).any (·.1) = false) :
    PI X (.Tuple elts kk tpos) (.Call (.Name "zip" p) [e, e2, e3] [] pos) (iZ3 X.K ta) :=
  pi_type PyProof.Rows.boot_zip hg hm ha hs hpl (by decide) (by decide) fun {pins σ s0 G R us vs} I r ⟨x, y, z, ex, q⟩ => by
    subst ex
    obtain ⟨u, u2, u3, rfl, ru, ru2, ru3⟩ := vals3 r
    obtain ⟨S, S2, S3, ws, ws2, ws3, rfl, rfl, rfl, is1, is2, is3, q⟩ := q u u2 u3 ru ru2 ru3
    obtain ⟨Hd1, W1⟩ := Src.get I hc is1
    obtain ⟨Hd2, W2⟩ := Src.get I hc is2
    obtain ⟨Hd3, W3⟩ := Src.get I hc is3
    have f : ∀ j, FpOk X pins G (s0.heap.objs.size + j) := fun j => fpNew I (Nat.le_add_right _ j)
    exact zip_begins3 W1.bg W2.bg W3.bg W1.hd W2.hd W3.hd fun h4 z ti to g1 g2 g3 _ kept => wpAny_pyIter_zip z ⟨_, _, _, _, G, rfl, I.kept (t' := s0.toks) kept, turn_z3 W1.lt W2.lt W3.lt, ⟨z, ti, ⟨_, _, _, to⟩, Src.at0 g1, Src.at0 g2, Src.at0 g3⟩, all6 (f 5) (f 3) (f 4) (f 0) (f 1) (f 2), q⟩
theorem signs_dp {K : PySem.W.Frag} {G : Hp} (x : Str) : DpAll K G (signs x) (x.cps.toList.map fun c => PyData.str ⟨#[c]⟩) := by
  unfold signs
  generalize x.cps.toList = l
  induction l with
  | nil => exact .nil
  | cons a l ih => exact .cons (.str _) ih
/-- a source of data -/
theorem srcD {K : PySem.W.Frag} {G H : Hp} {v : V} {d : D} {ds : List D} (sg : Same G H) (h : Dp K G v d) (e : itsD d = .ok ds) : ∀ u, RelV v u → ∃ S ws, S.val = u ∧ Src.Is K G ws S ∧ DpAll K G ws ds := by
  intro u r
  cases h with
  | lst q ra => cases r; injection e with e; subst e; exact ⟨.lst _, _, rfl, q, ra⟩
  | tup q ra => cases r; injection e with e; subst e; exact ⟨.tup _, _, rfl, q, ra⟩
  | str x =>
    obtain ⟨t, rfl⟩ := r
    have e : grd (few x.length) (Rs.ok (x.cps.toList.map fun c => PyData.str ⟨#[c]⟩)) = .ok ds := e
    cases g : few x.length with
    | false => rw [g] at e; cases e
    | true => rw [g] at e; injection e with e; subst e; exact ⟨.txt x t, _, rfl, rfl, signs_dp x⟩
  | non => cases e
  | dct => cases e
  | bl => cases e
  | int => cases e
theorem Src.up {K : PySem.W.Frag} {G H : Hp} {S : Src} {ws : List V} (sg : Same G H) (h : S.Is K G ws) : S.Is K H ws := by
  cases S with
  | lst a => exact sg.seq h
  | tup a => exact Same.seqT sg h
  | txt x t => exact h
theorem enumD_get : ∀ {ds : List D} {n i : Nat}, (enumD n ds)[i]? = ds[i]?.map fun d => .tuple [.int ((n + i : Nat) : Int), d]
  | [], n, i => by simp [enumD]
  | d :: ds, n, 0 => by simp [enumD]
  | d :: ds, n, i + 1 => by
    unfold enumD
    rw [List.getElem?_cons_succ, List.getElem?_cons_succ, enumD_get, show n + 1 + i = n + (i + 1) by omega]
theorem enumD_len : ∀ {ds : List D} {n : Nat}, (enumD n ds).length = ds.length
  | [], _ => rfl
  | d :: ds, n => by unfold enumD; rw [List.length_cons, List.length_cons, enumD_len]
theorem zip2_get : ∀ {ds es : List D} {i : Nat} {d e : D}, ds[i]? = some d → es[i]? = some e → (zip2 ds es)[i]? = some (.tuple [d, e])
  | [], _, i, _, _, h, _ => by simp at h
  | _ :: _, [], i, _, _, _, h => by simp at h
  | d :: ds, e :: es, 0, _, _, h, h2 => by simp at h h2; subst h h2; rfl
  | d :: ds, e :: es, i + 1, _, _, h, h2 => by unfold zip2; exact zip2_get (by simpa using h) (by simpa using h2)
theorem zip2_len : ∀ {ds es : List D}, (zip2 ds es).length = min ds.length es.length
  | [], _ => by simp [zip2]
  | _ :: _, [] => by simp [zip2]
  | d :: ds, e :: es => by unfold zip2; rw [List.length_cons, zip2_len, List.length_cons, List.length_cons]; omega
theorem zip3_get : ∀ {ds es fs : List D} {i : Nat} {d e f : D}, ds[i]? = some d → es[i]? = some e → fs[i]? = some f → (zip3 ds es fs)[i]? = some (.tuple [d, e, f])
  | [], _, _, i, _, _, _, h, _, _ => by simp at h
  | _ :: _, [], _, i, _, _, _, _, h, _ => by simp at h
  | _ :: _, _ :: _, [], i, _, _, _, _, _, h => by simp at h
  | d :: ds, e :: es, f :: fs, 0, _, _, _, h, h2, h3 => by simp at h h2 h3; subst h h2 h3; rfl
  | d :: ds, e :: es, f :: fs, i + 1, _, _, _, h, h2, h3 => by unfold zip3; exact zip3_get (by simpa using h) (by simpa using h2) (by simpa using h3)
theorem zip3_len : ∀ {ds es fs : List D}, (zip3 ds es fs).length = min (min ds.length es.length) fs.length
  | [], _, _ => by simp [zip3]
  | _ :: _, [], _ => by simp [zip3]
  | _ :: _, _ :: _, [] => by simp [zip3]
  | d :: ds, e :: es, f :: fs => by unfold zip3; rw [List.length_cons, zip3_len, List.length_cons, List.length_cons, List.length_cons]; omega
section
variable {K : PySem.W.Frag} {G : Hp} {S S2 S3 : Src} {vs ws us : List V} {ds es fs : List D}
theorem wk_en (h : S.Is K G vs) (r : DpAll K G vs ds) : WkD K G (ItE K S vs) (enumD 0 ds) := by
  have hl := DpAll_len r
  refine ⟨fun i H hi s => ?_, fun H s => ?_, fun i H x H' G1 hi s1 s2 y => ?_⟩
  · rw [enumD_len] at hi; exact ⟨by omega, Src.up s h⟩
  · rw [enumD_len]; exact ⟨hl.symm, Src.up s h⟩
  · obtain ⟨T, v, rfl, hT, rfl, hv⟩ := y
    obtain ⟨d, e, rd⟩ := DpAll_getV r hv
    have st : Stp G1 H (upd G1 T (.tup [.int (i : Nat), v])) (upd H T (.tup [.int (i : Nat), v])) := Stp.new s2 hT
    refine ⟨.tuple [.int (i : Nat), d], _, by rw [enumD_get, e]; simp, st, .tup (SqT.of upd_same) (.cons (.int _) (.cons (Dp_mono (s1.trans st.gg) rd) .nil))⟩
theorem wk_z2 (h : S.Is K G vs) (h2 : S2.Is K G ws) (r : DpAll K G vs ds) (r2 : DpAll K G ws es) : WkD K G (ItZ K S S2 vs ws) (zip2 ds es) := by
  have hl := DpAll_len r
  have hl2 := DpAll_len r2
  refine ⟨fun i H hi s => ?_, fun H s => ?_, fun i H x H' G1 hi s1 s2 y => ?_⟩
  · rw [zip2_len] at hi; exact ⟨by omega, by omega, Src.up s h, Src.up s h2⟩
  · rw [zip2_len]; exact ⟨by omega, by omega, by omega, Src.up s h, Src.up s h2⟩
  · obtain ⟨T, v, u, rfl, hT, rfl, hv, hu⟩ := y
    obtain ⟨d, e, rd⟩ := DpAll_getV r hv
    obtain ⟨d2, e2, rd2⟩ := DpAll_getV r2 hu
    have st : Stp G1 H (upd G1 T (.tup [v, u])) (upd H T (.tup [v, u])) := Stp.new s2 hT
    exact ⟨_, _, zip2_get e e2, st, .tup (SqT.of upd_same) (.cons (Dp_mono (s1.trans st.gg) rd) (.cons (Dp_mono (s1.trans st.gg) rd2) .nil))⟩
theorem wk_z3 (h : S.Is K G vs) (h2 : S2.Is K G ws) (h3 : S3.Is K G us) (r : DpAll K G vs ds) (r2 : DpAll K G ws es) (r3 : DpAll K G us fs) : WkD K G (ItZ3 K S S2 S3 vs ws us) (zip3 ds es fs) := by
  have hl := DpAll_len r
  have hl2 := DpAll_len r2
  have hl3 := DpAll_len r3
  refine ⟨fun i H hi s => ?_, fun H s => ?_, fun i H x H' G1 hi s1 s2 y => ?_⟩
  · rw [zip3_len] at hi; exact ⟨by omega, by omega, by omega, Src.up s h, Src.up s h2, Src.up s h3⟩
  · rw [zip3_len]; exact ⟨by omega, by omega, by omega, by omega, Src.up s h, Src.up s h2, Src.up s h3⟩
  · obtain ⟨T, v, u, t, rfl, hT, rfl, hv, hu, ht⟩ := y
    obtain ⟨d, e, rd⟩ := DpAll_getV r hv
    obtain ⟨d2, e2, rd2⟩ := DpAll_getV r2 hu
    obtain ⟨d3, e3, rd3⟩ := DpAll_getV r3 ht
    have st : Stp G1 H (upd G1 T (.tup [v, u, t])) (upd H T (.tup [v, u, t])) := Stp.new s2 hT
    exact ⟨_, _, zip3_get e e2 e3, st, .tup (SqT.of upd_same) (.cons (Dp_mono (s1.trans st.gg) rd) (.cons (Dp_mono (s1.trans st.gg) rd2) (.cons (Dp_mono (s1.trans st.gg) rd3) .nil)))⟩
end
section
variable {X : Cx} {c : Cw} (hK : c.K = X.K)
include hK
theorem PoG.mapQ {α β γ : Type} {R : Hp → β → γ → Prop} {σ : L2.St} {G H : Hp} {x : Rs α} {f : α → γ} {Q : β → Hp → Prop} (p : PoG R c σ G H ((x.map f).quiet) Q) : ∃ a, x = .ok a ∧ PoG R c σ G H (.ok (f a)) Q := by
  cases x with
  | ok a => exact ⟨a, rfl, p⟩
  | ex e => exact p.elim
  | no => exact p.elim
theorem pI_en {a : Expr} {r : Env → Rs (List D)} {p pos tpos : Pos} {elts : List Expr} {kk : Nat} (hc : X.calm = true) (hg : Gl X "enumerate") (hm : X.mg "enumerate" = none) (ha : PA X [a] (tL c r)) (hs : starEach [a] X.env = [(false, eval a X.env)]) (h1 : ∀ ρ ds, r ρ = .ok ds → ds.length = 1) :
    PI X (.Tuple elts kk tpos) (.Call (.Name "enumerate" p) [a] [] pos) (tI c fun ρ => (r ρ).bind fun ds => (itD .enum ds).quiet) := by
  refine PI.mono (pi_en hc hg hm ha hs) fun σ H R ⟨ρ, G, sg, e, p⟩ => ⟨ρ, G, sg, e, p.seq fun ds us G1 H1 ed st rd p1 => ?_⟩
  have hl := h1 ρ ds ed
  match ds, hl, rd, p1 with
  | [d], _, rd, p1 =>
    obtain ⟨v, rfl, h⟩ := one_of rd
    obtain ⟨xs, ex, p2⟩ := PoG.mapQ hK (x := itsD d) (f := enumD 0) p1
    refine ⟨v, rfl, fun u ru => ?_⟩
    obtain ⟨S, ws, e1, e2, e3⟩ := srcD st.gh h ex u ru
    rw [hK] at e2 e3 p2
    exact ⟨S, ws, e1, Src.up st.gh e2, p2 _ G1 H1 (Stp.refl st.gh) (wk_en e2 e3)⟩
theorem pI_z2 {a b : Expr} {r : Env → Rs (List D)} {p pos tpos : Pos} {elts : List Expr} {kk : Nat} (hc : X.calm = true) (hg : Gl X "zip") (hm : X.mg "zip" = none) (ha : PA X [a, b] (tL c r))
    (hs : starEach [a, b] X.env = (false, eval a X.env) :: starEach [b] X.env) (hpl : (backTo pos (starEach [b] X.env)).any (·.1) = false) (h1 : ∀ ρ ds, r ρ = .ok ds → ds.length = 2) :
    PI X (.Tuple elts kk tpos) (.Call (.Name "zip" p) [a, b] [] pos) (tI c fun ρ => (r ρ).bind fun ds => (itD .zip ds).quiet) := by
  refine PI.mono (pi_z2 hc hg hm ha hs hpl) fun σ H R ⟨ρ, G, sg, e, p⟩ => ⟨ρ, G, sg, e, p.seq fun ds us G1 H1 ed st rd p1 => ?_⟩
  have hl := h1 ρ ds ed
  match ds, hl, rd, p1 with
  | [d, d2], _, rd, p1 =>
    obtain ⟨v, v2, rfl, h, h2⟩ := two_of rd
    have p1 : PoG (WkD c.K) c σ G1 H1 (((itsD d).bind fun xs => (itsD d2).map fun ys => zip2 xs ys).quiet) R := p1
    cases ex : itsD d with
    | ex z => rw [ex] at p1; exact p1.elim
    | no => rw [ex] at p1; exact p1.elim
    | ok xs =>
      rw [ex] at p1
      obtain ⟨ys, ey, p2⟩ := PoG.mapQ hK (x := itsD d2) (f := fun ys => zip2 xs ys) p1
      refine ⟨v, v2, rfl, fun u u2 ru ru2 => ?_⟩
      obtain ⟨S, ws, e1, e2, e3⟩ := srcD st.gh h ex u ru
      obtain ⟨S2, ws2, f1, f2, f3⟩ := srcD st.gh h2 ey u2 ru2
      rw [hK] at e2 e3 f2 f3 p2
      exact ⟨S, S2, ws, ws2, e1, f1, Src.up st.gh e2, Src.up st.gh f2, p2 _ G1 H1 (Stp.refl st.gh) (wk_z2 e2 f2 e3 f3)⟩
theorem pI_z3 {a b g : Expr} {r : Env → Rs (List D)} {p pos tpos : Pos} {elts : List Expr} {kk : Nat} (hc : X.calm = true) (hg : Gl X "zip") (hm : X.mg "zip" = none) (ha : PA X [a, b, g] (tL c r))
    (hs : starEach [a, b, g] X.env = (false, eval a X.env) :: starEach [b, g] X.env) (hpl : (backTo pos (starEach [b, g] X.env)).any (·.1) = false) (h1 : ∀ ρ ds, r ρ = .ok ds → ds.length = 3) :
    PI X (.Tuple elts kk tpos) (.Call (.Name "zip" p) [a, b, g] [] pos) (tI c fun ρ => (r ρ).bind fun ds => (itD .zip ds).quiet) := by
  refine PI.mono (pi_z3 hc hg hm ha hs hpl) fun σ H R ⟨ρ, G, sg, e, p⟩ => ⟨ρ, G, sg, e, p.seq fun ds us G1 H1 ed st rd p1 => ?_⟩
  have hl := h1 ρ ds ed
  match ds, hl, rd, p1 with
  | [d, d2, d3], _, rd, p1 =>
    obtain ⟨v, v2, v3, rfl, h, h2, h3⟩ := three_of rd
    have p1 : PoG (WkD c.K) c σ G1 H1 (((itsD d).bind fun xs => (itsD d2).bind fun ys => (itsD d3).map fun zs => zip3 xs ys zs).quiet) R := p1
    cases ex : itsD d with
    | ex z => rw [ex] at p1; exact p1.elim
    | no => rw [ex] at p1; exact p1.elim
    | ok xs =>
      rw [ex] at p1
      cases ey : itsD d2 with
      | ex z => rw [ey] at p1; exact p1.elim
      | no => rw [ey] at p1; exact p1.elim
      | ok ys =>
        rw [ey] at p1
        obtain ⟨zs, ez, p2⟩ := PoG.mapQ hK (x := itsD d3) (f := fun zs => zip3 xs ys zs) p1
        refine ⟨v, v2, v3, rfl, fun u u2 u3 ru ru2 ru3 => ?_⟩
        obtain ⟨S, ws, e1, e2, e3⟩ := srcD st.gh h ex u ru
        obtain ⟨S2, ws2, f1, f2, f3⟩ := srcD st.gh h2 ey u2 ru2
        obtain ⟨S3, ws3, g1, g2, g3⟩ := srcD st.gh h3 ez u3 ru3
        rw [hK] at e2 e3 f2 f3 g2 g3 p2
        exact ⟨S, S2, S3, ws, ws2, ws3, e1, f1, g1, Src.up st.gh e2, Src.up st.gh f2, Src.up st.gh g2, p2 _ G1 H1 (Stp.refl st.gh) (wk_z3 e2 f2 g2 e3 f3 g3)⟩
end
end Rf
set_option Elab.async false
set_option linter.all false
set_option maxRecDepth 100000
set_option maxHeartbeats 3900000
namespace Rf
open PySem PySem.Spec PyProof.Rows L2
/-- an object of the interpreter's own whose parts go by number -/
abbrev Rcd (h : Heap) (a : Addr) (n : String) (us : Array Value) : Prop := h.get? a = some { cls := .type n, dict := none, data := .fields us, slots := #[] }
abbrev IsZipM (h : Heap) (z TI TO : Addr) (m : Value) (f : Bool) : Prop := Rcd h z "zip" #[m, .bool f, .bool false, .ref TI, .ref TO]
/-- nothing was told yet, or the tuple at some place -/
def MarkOk (m : Value) : Prop := m = .none ∨ ∃ T : Addr, m = rawInt T
section
variable {P : Program} {w : World} {A : Around} {E : Value → Shared → Prop} {hp : Heap} {gs : Array GenState} {dr : Drawn} {tk : Nat} {os : OsState} {α : Type} {Q : α → Shared → Prop}
theorem Rcd.rd {a : Addr} {n : String} {us : Array Value} {j : Nat} {x : Value} {k : Value → Sem α} (r : Rcd hp a n us) (e : us[j]? = some x) (q : wpAny (model P w) A (k x) Q E ⟨hp, gs, dr, tk, os⟩) :
    wpAny (model P w) A (field (.ref a) j >>= k) Q E ⟨hp, gs, dr, tk, os⟩ := wpAny_bind (wpAny_field r rfl e q)
theorem Rcd.wr {a : Addr} {n : String} {us : Array Value} {j : Nat} {x : Value} {k : Unit → Sem α} (r : Rcd hp a n us) (e : j < us.size) (q : ∀ h, Rcd h a n (us.setIfInBounds j x) → Heap.SameBut a hp h → wpAny (model P w) A (k ()) Q E ⟨h, gs, dr, tk, os⟩) :
    wpAny (model P w) A (setField (.ref a) j x >>= k) Q E ⟨hp, gs, dr, tk, os⟩ := wpAny_bind (wpAny_setField_rec r e q)
/-- the last of a row of writes -/
theorem Rcd.wr1 {a : Addr} {n : String} {us : Array Value} {j : Nat} {x : Value} {Q : Unit → Shared → Prop} (r : Rcd hp a n us) (e : j < us.size) (q : ∀ h, Rcd h a n (us.setIfInBounds j x) → Heap.SameBut a hp h → Q () ⟨h, gs, dr, tk, os⟩) :
    wpAny (model P w) A (setField (.ref a) j x) Q E ⟨hp, gs, dr, tk, os⟩ := wpAny_setField_rec r e q
/-- is the tuple told last free again: either answer, and the mark that says that it is not -/
theorem tupFree {z TI TO : Addr} {m : Value} {f : Bool} {k : Bool → Sem α} (hz : IsZipM hp z TI TO m f) (hm : MarkOk m) (yes : wpAny (model P w) A (k true) Q E ⟨hp, gs, dr, tk, os⟩)
    (no : ∀ h, IsZipM h z TI TO m true → Heap.SameBut z hp h → wpAny (model P w) A (k false) Q E ⟨h, gs, dr, tk, os⟩) : wpAny (model P w) A (Builtin.SmallTypes.ownedTupleIsFree (.ref z) >>= k) Q E ⟨hp, gs, dr, tk, os⟩ := by
  refine wpAny_bind ?_
  unfold Builtin.SmallTypes.ownedTupleIsFree
  obtain rfl | ⟨T, rfl⟩ := hm
  · exact hz.rd rfl (wpAny_pure yes)
  · refine hz.rd (x := .int T 0) rfl (wpAny_bind (Q := fun o s' => wpAny _ _ _ _ _ s') fun _ _ _ => ?_)
    show wpAny _ _ _ _ _ _
    cases (⟨hp, gs, dr, tk, os⟩ : Shared).heap.get? ((T : Int).toNat) with
    | none => exact wpAny_pure yes
    | some o =>
      refine hz.rd rfl ?_
      cases f
      · exact hz.wr (by simp) fun h r sb => wpAny_pure (no h r sb)
      · exact wpAny_pure (no hp hz (.refl _ _))
/-- all that a turn of zip looks at: its own record, its two iterators, the tuple it keeps -/
structure Zw (z TI TO i1 i2 : Addr) (St1 St2 : Nat → Heap → Prop) (h : Heap) (m : Value) (f : Bool) (us : Array Value) (i j : Nat) : Prop where
  me : IsZipM h z TI TO m f
  its : IsTupOf2 h TI (.ref i1) (.ref i2)
  own : h.get? TO = some { cls := .type "tuple", data := .seq us }
  one : St1 i h
  two : St2 j h
/-- of a heap, only these four cells were written -/
def Four (z TO i1 i2 : Addr) (h h' : Heap) : Prop := h'.objs.size = h.objs.size ∧ ∀ c o, c ≠ z → c ≠ TO → c ≠ i1 → c ≠ i2 → h.get? c = some o → h'.get? c = some o
variable {z TI TO i1 i2 : Addr} {fp1 fp2 : List Addr} {n1 n2 i j : Nat} {P1 P2 : Nat → Value → Prop} {St1 St2 : Nat → Heap → Prop} {us : Array Value} {m : Value} {f : Bool} {h h' h'' : Heap}
theorem Four.trans (a : Four z TO i1 i2 h h') (b : Four z TO i1 i2 h' h'') : Four z TO i1 i2 h h'' := ⟨b.1.trans a.1, fun c o q1 q2 q3 q4 e => b.2 c o q1 q2 q3 q4 (a.2 c o q1 q2 q3 q4 e)⟩
theorem Four.atz (s : Heap.SameBut z h h') : Four z TO i1 i2 h h' := ⟨s.1, fun c o q _ _ _ => s.extBut c o q⟩
theorem Four.att (s : Heap.SameBut TO h h') : Four z TO i1 i2 h h' := ⟨s.1, fun c o _ q _ _ => s.extBut c o q⟩
theorem Four.at1 (s : Heap.SameBut i1 h h') : Four z TO i1 i2 h h' := ⟨s.1, fun c o _ _ q _ => s.extBut c o q⟩
theorem Four.at2 (s : Heap.SameBut i2 h h') : Four z TO i1 i2 h h' := ⟨s.1, fun c o _ _ _ q => s.extBut c o q⟩
section moves
variable (S : ZipSep2 z TI TO i1 i2 fp1 fp2) (D1 : Draws P w A i1 fp1 n1 P1 St1) (D2 : Draws P w A i2 fp2 n2 P2 St2) (Z : Zw z TI TO i1 i2 St1 St2 h m f us i j)
include S D1 D2 Z
theorem Zw.mark {m' : Value} {f' : Bool} (s : Heap.SameBut z h h') (r : IsZipM h' z TI TO m' f') : Zw z TI TO i1 i2 St1 St2 h' m' f' us i j :=
  ⟨r, s.extBut _ _ S.TIz Z.its, s.extBut _ _ S.TOz Z.own, D1.over Z.one s S.zf1, D2.over Z.two s S.zf2⟩
theorem Zw.put {us' : Array Value} (s : Heap.SameBut TO h h') (r : h'.get? TO = some { cls := .type "tuple", data := .seq us' }) : Zw z TI TO i1 i2 St1 St2 h' m f us' i j :=
  ⟨s.extBut _ _ S.TOz.symm Z.me, s.extBut _ _ S.TITO Z.its, r, D1.over Z.one s S.Tf1, D2.over Z.two s S.Tf2⟩
theorem Zw.fst {i' : Nat} (s : Heap.SameBut i1 h h') (r : St1 i' h') : Zw z TI TO i1 i2 St1 St2 h' m f us i' j :=
  ⟨s.extBut _ _ S.zi1 Z.me, s.extBut _ _ S.TIi1 Z.its, s.extBut _ _ S.Ti1 Z.own, r, D2.over Z.two s S.sep1_2⟩
theorem Zw.snd {j' : Nat} (s : Heap.SameBut i2 h h') (r : St2 j' h') : Zw z TI TO i1 i2 St1 St2 h' m f us i j' :=
  ⟨s.extBut _ _ S.zi2 Z.me, s.extBut _ _ S.TIi2 Z.its, s.extBut _ _ S.Ti2 Z.own, D1.over Z.one s S.sep2_1, r⟩
omit S in
theorem Zw.more (o : Obj) : Zw z TI TO i1 i2 St1 St2 (h.push o) m f us i j :=
  have k : ∀ c u, h.get? c = some u → (h.push o).get? c = some u := fun _ _ => Heap.get?_push_of_some _
  ⟨k _ _ Z.me, k _ _ Z.its, k _ _ Z.own, D1.frame _ _ _ Z.one fun c _ u => k c u, D2.frame _ _ _ Z.two fun c _ u => k c u⟩
end moves
/-- one draw: the next item, or the end -/
theorem drEither {it : Addr} {fp : List Addr} {n i : Nat} {V1 : Nat → Value → Prop} {St : Nat → Heap → Prop} (D : Draws P w A it fp n V1 St) (le : i ≤ n) (st : St i hp) {Q : Value → Shared → Prop}
    (item : i < n → ∀ x h tk', V1 i x → St (i + 1) h → Heap.SameBut it hp h → Q x ⟨h, gs, dr, tk', os⟩)
    (fin : i = n → ∀ h e, Heap.ExtBut it hp h → (∃ o, h.get? e = some o ∧ o.cls = .type "StopIteration") → E (.ref e) ⟨h, gs, dr, tk, os⟩) :
    wpAny (model P w) A (Builtin.SmallTypes.nextOf (.ref it)) Q E ⟨hp, gs, dr, tk, os⟩ := by
  obtain lt | rfl := Nat.lt_or_eq_of_le le
  · exact D.item i _ _ _ lt st fun x h tk' a b c => item lt x h tk' a b c
  · exact D.done _ _ _ st fun h e a b => fin rfl h e a b
/-- a draw into the tuple that zip keeps, ahead of what follows it -/
theorem drawInto {it : Addr} {fp : List Addr} {n i : Nat} {V1 : Nat → Value → Prop} {St : Nat → Heap → Prop} (D : Draws P w A it fp n V1 St) (le : i ≤ n) (st : St i hp) {g : Value → Sem Unit} {k : Option Value → Sem α}
    (item : i < n → ∀ x h tk', V1 i x → St (i + 1) h → Heap.SameBut it hp h → wpAny (model P w) A (k (some x)) Q E ⟨h, gs, dr, tk', os⟩)
    (fin : i = n → ∀ h e, Heap.ExtBut it hp h → (∃ o, h.get? e = some o ∧ o.cls = .type "StopIteration") → wpAny (model P w) A (g (.ref e)) (fun _ s' => E (.ref e) s') E ⟨h, gs, dr, tk, os⟩) :
    wpAny (model P w) A (((Builtin.SmallTypes.nextOf (.ref it) >>= fun v => pure (some v)).onRaise g) >>= k) Q E ⟨hp, gs, dr, tk, os⟩ :=
  wpAny_bind (wpAny_onRaise (wpAny_bind (drEither D le st (fun lt x h tk' a b c => wpAny_pure (item lt x h tk' a b c)) fin)))
theorem drawHeld {it : Addr} {fp : List Addr} {n i : Nat} {V1 : Nat → Value → Prop} {St : Nat → Heap → Prop} (D : Draws P w A it fp n V1 St) (le : i ≤ n) (st : St i hp) {l : List Value} {k : Option Value → Sem α}
    (item : i < n → ∀ x h tk', V1 i x → St (i + 1) h → Heap.SameBut it hp h → wpAny (model P w) A (k (some x)) Q E ⟨h, gs, dr, tk', os⟩)
    (fin : i = n → ∀ h e, Heap.ExtBut it hp h → (∃ o, h.get? e = some o ∧ o.cls = .type "StopIteration") → E (.ref e) ⟨h, gs, dr, tk, os⟩) :
    wpAny (model P w) A (holding l (Builtin.SmallTypes.nextOf (.ref it) >>= fun v => pure (some v)) >>= k) Q E ⟨hp, gs, dr, tk, os⟩ :=
  wpAny_bind (wpAny_holding (wpAny_bind (drEither D le st (fun lt x h tk' a b c => wpAny_pure (item lt x h tk' a b c)) fin)))
/-- the item drawn is laid into the tuple -/
theorem layInto {T : Addr} {a b x : Value} {k : Nat} {l1 l2 : List Value} {cont : Unit → Sem α} (own : IsTupOf2 hp T a b)
    (go : ∀ h, h.get? T = some { cls := .type "tuple", data := .seq ((#[a, b] : Array Value).setIfInBounds k x) } → Heap.SameBut T hp h → wpAny (model P w) A (cont ()) Q E ⟨h, gs, dr, tk, os⟩) :
    wpAny (model P w) A (updateSeq T (·.setIfInBounds k x) >>= fun _ => letGo l1 l2 >>= cont) Q E ⟨hp, gs, dr, tk, os⟩ :=
  wpAny_bind (updateSeq_IsTupOf2 own fun h t s => wpAny_bind (wpAny_letGo (go h t s)))
theorem handOut {m' : Value} {T : Addr} {k : Unit → Sem α} (hz : IsZipM hp z TI TO m' f) (go : ∀ h h2, Heap.SameBut z hp h → Heap.SameBut z h h2 → IsZipM h2 z TI TO (rawInt T) false → wpAny (model P w) A (k ()) Q E ⟨h2, gs, dr, tk, os⟩) :
    wpAny (model P w) A (Builtin.SmallTypes.ownedTupleHandOut (.ref z) (.ref T) >>= k) Q E ⟨hp, gs, dr, tk, os⟩ := by
  refine wpAny_bind ?_
  unfold Builtin.SmallTypes.ownedTupleHandOut
  exact hz.wr (by simp) fun h r s1 => Rcd.wr1 (n := "zip") r (by simp) fun h2 r2 s2 => go h h2 s1 s2 r2
/-- one turn of zip: an item, or the end -/
theorem zipTurn {a1 a2 : Value} {R : Fin → Shared → Prop} (S : ZipSep2 z TI TO i1 i2 fp1 fp2) (D1 : Draws P w A i1 fp1 n1 P1 St1) (D2 : Draws P w A i2 fp2 n2 P2 St2) (Z : Zw z TI TO i1 i2 St1 St2 hp m f #[a1, a2] i i) (hm : MarkOk m) (le1 : i ≤ n1) (le2 : i ≤ n2)
    (item : i < n1 → i < n2 → ∀ x1 x2 h tk' m' f' b1 b2, P1 i x1 → P2 i x2 → MarkOk m' → Zw z TI TO i1 i2 St1 St2 h m' f' #[b1, b2] (i + 1) (i + 1) → IsTupOf2 h hp.objs.size x1 x2 → h.objs.size = hp.objs.size + 1 →
      (∀ c o, c ≠ z → c ≠ TO → c ≠ i1 → c ≠ i2 → hp.get? c = some o → h.get? c = some o) → R (.done (.ret (.ref hp.objs.size))) ⟨h, gs, dr, tk', os⟩)
    (fin : i = n1 ∨ i = n2 → ∀ h tk' e, (∀ c o, c ≠ z → c ≠ TO → c ≠ i1 → c ≠ i2 → hp.get? c = some o → h.get? c = some o) → (∃ o, h.get? e = some o ∧ o.cls = .type "StopIteration") → E (.ref e) ⟨h, gs, dr, tk', os⟩) :
    wpAny (model P w) A (Builtin.«zip.__next__» ⟨[.ref z], []⟩) R E ⟨hp, gs, dr, tk, os⟩ := by
  refine Rcd.rd (j := 2) Z.me rfl (Rcd.rd (j := 3) Z.me rfl (wpAny_bind (wpAny_seqItems Z.its rfl (tupFree Z.me hm ?_ fun h0 r0 s0 => ?_))))
  · simp only [if_true]
    refine wpAny_bind (wpAny_rule (Rcd.rd (j := 4) Z.me rfl (Rcd.wr (j := 0) Z.me (by simp) fun h0 r0 s0 => wpAny_bind ?_)))
    simp only [List.zipIdx_cons, List.zipIdx_nil, List.forIn_cons, List.forIn_nil]
    have Z0 := Z.mark S D1 D2 s0 r0
    have F0 : Four z TO i1 i2 hp h0 := .atz s0
    -- the mark is taken back where a draw ends
    have back : ∀ {h e tk'}, IsZipM h z TI TO .ellipsis f → (∀ c o, c ≠ z → c ≠ TO → c ≠ i1 → c ≠ i2 → hp.get? c = some o → h.get? c = some o) → (∃ o, h.get? e = some o ∧ o.cls = .type "StopIteration") → i = n1 ∨ i = n2 →
        wpAny (model P w) A (setField (.ref z) 0 .none) (fun _ s' => E (.ref e) s') E ⟨h, gs, dr, tk', os⟩ := fun {h e tk'} r k ⟨o, q, cl⟩ en =>
      r.wr1 (by simp) fun h' _ sb => fin en h' tk' e (fun c u q1 q2 q3 q4 x => sb.extBut c u q1 (k c u q1 q2 q3 q4 x)) ⟨o, sb.extBut _ _ (fun eq => by subst eq; rw [r] at q; cases q; simp at cl) q, cl⟩
    refine wpAny_bind (drawInto D1 le1 Z0.one (fun l1 x1 h1 tk1 p1 t1 s1 => ?_) fun en h e ext stop => ?_)
    · have Z1 := Z0.fst S D1 D2 s1 t1
      refine wpAny_bind (wpAny_seqItems Z1.own rfl (layInto Z1.own fun h2 o2 s2 => wpAny_pure ?_))
      have Z2 := Z1.put S D1 D2 (us' := #[x1, a2]) s2 o2
      have F2 := F0.trans ((Four.at1 s1).trans (.att s2))
      refine wpAny_bind (drawInto D2 le2 Z2.two (fun l2 x2 h3 tk3 p3 t3 s3 => ?_) fun en h e ext stop => ?_)
      · have Z3 := Z2.snd S D1 D2 s3 t3
        refine wpAny_bind (wpAny_seqItems Z3.own rfl (layInto (a := x1) (b := a2) Z3.own fun h4 o4 s4 => wpAny_pure (wpAny_pure ?_)))
        have Z4 := Z3.put S D1 D2 (us' := #[x1, x2]) s4 o4
        have F4 := F2.trans ((Four.at2 s3).trans (.att s4))
        refine wpAny_bind (wpAny_seqItems Z4.own rfl (wpAny_bind (wpAny_newTuple (handOut (Z4.more D1 D2 _).me fun h5 h6 s5 s6 r6 => wpAny_pure ?_))))
        have away : h4.objs.size ≠ z := Nat.ne_of_gt (Heap.lt_size Z4.me)
        have at6 : ∀ c o, c ≠ z → (h4.push { cls := .type "tuple", data := .seq #[x1, x2] }).get? c = some o → h6.get? c = some o := fun c o q e => s6.extBut c o q (s5.extBut c o q e)
        have n4 : h4.objs.size = hp.objs.size := F4.1
        have tup := at6 _ _ away (Heap.get?_push_size h4 (o := { cls := .type "tuple", data := .seq #[x1, x2] }) rfl)
        have Z6 := ((Z4.more D1 D2 _).mark S D1 D2 (s5.trans s6) r6)
        have sz : h6.objs.size = hp.objs.size + 1 := by rw [s6.1, s5.1, Heap.size_push, n4]
        show R (.done (.ret (.ref h4.objs.size))) _
        rw [n4] at tup ⊢
        exact item l1 l2 x1 x2 h6 tk3 _ _ _ _ p1 p3 (.inr ⟨_, rfl⟩) Z6 tup sz fun c o q1 q2 q3 q4 e => at6 c o q1 (Heap.get?_push_of_some _ (F4.2 c o q1 q2 q3 q4 e))
      · exact back (ext _ _ S.zi2 Z2.me) (fun c o q1 q2 q3 q4 x => ext c o q4 (F2.2 c o q1 q2 q3 q4 x)) stop (.inr en)
    · exact back (ext _ _ S.zi1 Z0.me) (fun c o q1 q2 q3 q4 x => ext c o q3 (F0.2 c o q1 q2 q3 q4 x)) stop (.inl en)
  · simp only [Bool.false_eq_true, if_false]
    refine wpAny_bind ?_
    rw [← Array.forIn_toList]
    simp only [List.forIn_cons, List.forIn_nil]
    have Z0 := Z.mark S D1 D2 s0 r0
    have F0 : Four z TO i1 i2 hp h0 := .atz s0
    refine wpAny_bind (drawHeld D1 le1 Z0.one (fun l1 x1 h1 tk1 p1 t1 s1 => wpAny_pure ?_) fun en h e ext stop => fin (.inl en) h tk e (fun c o q1 q2 q3 q4 x => ext c o q3 (F0.2 c o q1 q2 q3 q4 x)) stop)
    have Z1 := Z0.fst S D1 D2 s1 t1
    have F1 := F0.trans (.at1 s1)
    refine wpAny_bind (drawHeld D2 le2 Z1.two (fun l2 x2 h2 tk2 p2 t2 s2 => wpAny_pure (wpAny_pure ?_)) fun en h e ext stop => fin (.inr en) h tk1 e (fun c o q1 q2 q3 q4 x => ext c o q4 (F1.2 c o q1 q2 q3 q4 x)) stop)
    have Z2 := Z1.snd S D1 D2 s2 t2
    have F2 := F1.trans (.at2 s2)
    refine wpAny_bind (m := newTuple [x1, x2]) (wpAny_newTuple (wpAny_pure ?_))
    have tup := Heap.get?_push_size h2 (o := { cls := .type "tuple", data := .seq #[x1, x2] }) rfl
    have sz : (h2.push { cls := .type "tuple", data := .seq #[x1, x2] }).objs.size = hp.objs.size + 1 := by rw [Heap.size_push, F2.1]
    show R (.done (.ret (.ref h2.objs.size))) _
    rw [F2.1] at tup ⊢
    exact item l1 l2 x1 x2 _ tk2 _ _ _ _ p1 p2 hm (Z2.more D1 D2 _) tup sz fun c o q1 q2 q3 q4 e => Heap.get?_push_of_some _ (F2.2 c o q1 q2 q3 q4 e)
/-- one turn of enumerate over any iterator: R tells what that one gives, B how it ends -/
theorem enumTurn {e it : Addr} {old : Value} {k : Int} {R : Value → Heap → Nat → Prop} {B : Addr → Heap → Nat → Prop} {Q : Fin → Shared → Prop} (en : IsEnum hp e it k old)
    (inner : ∀ {Q' E' : Value → Shared → Prop}, (∀ x h t, R x h t → Q' x ⟨h, gs, dr, t, os⟩) → (∀ x h t, B x h t → E' (.ref x) ⟨h, gs, dr, t, os⟩) → wpAny (model P w) A (Builtin.SmallTypes.nextOf (.ref it)) Q' E' ⟨hp, gs, dr, tk, os⟩)
    (stay : ∀ x h t, R x h t → IsEnum h e it k old)
    (item : ∀ x h t h2, R x h t → IsEnumOut h2 e it (k + 1) x h.objs.size → h2.get? h.objs.size = some { cls := .type "tuple", data := .seq #[.int k t, x] } → h2.objs.size = h.objs.size + 1 →
      (∀ c o, c ≠ e → h.get? c = some o → h2.get? c = some o) → Q (.done (.ret (.ref h.objs.size))) ⟨h2, gs, dr, t + 1, os⟩)
    (fin : ∀ x h t, B x h t → E (.ref x) ⟨h, gs, dr, t, os⟩) : wpAny (model P w) A (Builtin.«enumerate.__next__» ⟨[.ref e], []⟩) Q E ⟨hp, gs, dr, tk, os⟩ := by
  have en0 : Rcd hp e "enumerate" #[.none, .bool false, .ref it, rawInt k, .none, old] := en
  refine Rcd.rd (j := 2) en0 rfl (wpAny_bind (inner (fun x h t r => ?_) fin))
  have en1 : Rcd h e "enumerate" #[.none, .bool false, .ref it, rawInt k, .none, old] := stay x h t r
  refine Rcd.rd (j := 3) (x := .int k 0) en1 rfl (Rcd.rd (j := 4) en1 rfl (wpAny_bind (wpAny_mkInt ?_)))
  refine Rcd.wr (j := 3) (x := rawInt (k + 1)) en1 (by simp) fun h3 r3 s3 => Rcd.wr (j := 4) (x := .none) r3 (by simp) fun h4 r4 s4 => wpAny_bind (m := newTuple [.int k t, x]) (wpAny_newTuple ?_)
  let tup : Obj := { cls := .type "tuple", data := .seq #[.int k t, x] }
  have n4 : h4.objs.size = h.objs.size := s4.1.trans s3.1
  have away : h.objs.size ≠ e := Nat.ne_of_gt (Heap.lt_size en1)
  have r5 : Rcd (h4.push tup) e "enumerate" #[.none, .bool false, .ref it, rawInt (k + 1), .none, old] := Heap.get?_push_of_some _ r4
  have there : (h4.push tup).get? h.objs.size = some tup := n4 ▸ Heap.get?_push_size h4 (o := tup) rfl
  have kept : ∀ c o, c ≠ e → h.get? c = some o → (h4.push tup).get? c = some o := fun c o q x => Heap.get?_push_of_some _ (s4.extBut c o q (s3.extBut c o q x))
  show wpAny _ _ (Builtin.SmallTypes.ownedTupleIsFree (.ref e) >>= _) _ _ ⟨h4.push tup, gs, dr, t + 1, os⟩
  have free : wpAny (model P w) A (Builtin.SmallTypes.ownedTupleIsFree (.ref e)) (fun b s' => b = true ∧ s' = ⟨h4.push tup, gs, dr, t + 1, os⟩) E ⟨h4.push tup, gs, dr, t + 1, os⟩ := by
    unfold Builtin.SmallTypes.ownedTupleIsFree
    exact r5.rd rfl (wpAny_pure ⟨rfl, rfl⟩)
  refine wpAny_bind (thn free fun b s' ⟨hb, hs⟩ => ?_)
  subst hb hs
  simp only [if_true]
  refine wpAny_bind (wpAny_rule (Rcd.rd (j := 5) r5 rfl (Rcd.wr (j := 5) (x := x) r5 (by simp) fun h6 r6 s6 => wpAny_bind ?_)))
  show wpAny _ _ (Builtin.SmallTypes.ownedTupleHandOut (.ref e) (.ref h4.objs.size)) _ _ _
  rw [n4]
  unfold Builtin.SmallTypes.ownedTupleHandOut
  refine Rcd.wr (j := 0) r6 (by simp) fun h7 r7 s7 => Rcd.wr1 (j := 1) r7 (by simp) fun h8 r8 s8 => wpAny_bind (wpAny_letGo (wpAny_pure ?_))
  have at8 : ∀ c o, c ≠ e → (h4.push tup).get? c = some o → h8.get? c = some o := fun c o q x => s8.extBut c o q (s7.extBut c o q (s6.extBut c o q x))
  exact item x h t h8 r r8 (at8 _ _ away there) (by rw [s8.1, s7.1, s6.1, Heap.size_push, n4]) fun c o q x => at8 c o q (kept c o q x)
theorem nextEnum {e it : Addr} {old : Value} {k : Int} {R : Value → Heap → Nat → Prop} {B : Addr → Heap → Nat → Prop} {Q : Option Value → Shared → Prop} (en : IsEnum hp e it k old)
    (inner : ∀ {Q' E' : Value → Shared → Prop}, (∀ x h t, R x h t → Q' x ⟨h, gs, dr, t, os⟩) → (∀ x h t, B x h t → E' (.ref x) ⟨h, gs, dr, t, os⟩) → wpAny (model P w) A.in1 (Builtin.SmallTypes.nextOf (.ref it)) Q' E' ⟨hp, gs, dr, tk, os⟩)
    (stay : ∀ x h t, R x h t → IsEnum h e it k old)
    (item : ∀ x h t h2, R x h t → IsEnumOut h2 e it (k + 1) x h.objs.size → h2.get? h.objs.size = some { cls := .type "tuple", data := .seq #[.int k t, x] } → h2.objs.size = h.objs.size + 1 →
      (∀ c o, c ≠ e → h.get? c = some o → h2.get? c = some o) → Q (some (.ref h.objs.size)) ⟨h2, gs, dr, t + 1, os⟩)
    (fin : ∀ x h t, B x h t → (∃ o, h.get? x = some o ∧ o.cls = .type "StopIteration") ∧ Q none ⟨h, gs, dr, t, os⟩) : wpAny (model P w) A (pyNext (.ref e)) Q E ⟨hp, gs, dr, tk, os⟩ := by
  have ty : (⟨hp, gs, dr, tk, os⟩ : Shared).TypeIs (.ref e) "enumerate" := ⟨_, en, rfl⟩
  unfold pyNext
  refine wpAny_bind (wpAny_attempt (wpAny_callSpecial?_slot (name := Str.ofString "__next__") ty F.slot_enumerate_next (wpAny_call_entry F.slot_enumerate_next ty F.entry_enumerate_next (enumTurn en inner stay ?_ fun x h t b => ?_) (F.args_enumerate_next_1 _))))
  · exact fun x h t h2 r q1 q2 q3 q4 => ⟨_, rfl, wpAny_pure (item x h t h2 r q1 q2 q3 q4)⟩
  · obtain ⟨⟨o, there, cl⟩, q⟩ := fin x h t b
    exact wpAny_bind (wpAny_isInstance (T := "StopIteration") (b := true) ⟨o, there, cl⟩ isSubtype_stop (wpAny_pure q))
end
def ItEZ (K : PySem.W.Frag) (S S2 : Src) (vs ws : List V) : L2.It :=
  ⟨fun i H => i < vs.length ∧ i < ws.length ∧ S.Is K H vs ∧ S2.Is K H ws, fun i H x H' => ∃ T U v u, x = .ref U ∧ H T = none ∧ H U = none ∧ U ≠ T ∧ H' = upd (upd H T (.tup [v, u])) U (.tup [.int (i : Nat), .ref T]) ∧ vs[i]? = some v ∧ ws[i]? = some u,
    fun i H => i ≤ vs.length ∧ i ≤ ws.length ∧ (i = vs.length ∨ i = ws.length) ∧ S.Is K H vs ∧ S2.Is K H ws⟩
/-- how enumerate(zip(..)) stands: N, N + 1 the sources' iterators, then zip's two tuples, zip, enumerate -/
def EzAt (S S2 : Src) (N i : Nat) (h : Heap) : Prop :=
  (∃ old, IsEnum h (N + 5) (N + 4) (i : Nat) old) ∧ ∃ m f a b, MarkOk m ∧ Zw (N + 4) (N + 2) (N + 3) N (N + 1) (fun i h => S.at_ h N i) (fun i h => S2.at_ h (N + 1) i) h m f #[a, b] i i
theorem turn_ez {P : Program} {w : World} {K : PySem.W.Frag} {elts : List Expr} {kk : Nat} {tpos : Pos} {S S2 : Src} {vs ws : List V} {N : Nat} (h1 : ∀ b ∈ S.cells, b < N) (h2 : ∀ b ∈ S2.cells, b < N) :
    Turn P w K (.Tuple elts kk tpos) (ItEZ K S S2 vs ws) [N + 5, N + 4, N + 2, N + 3, N, N + 1] (N + 5) (EzAt S S2 N) where
  mem := .head _
  obj := fun i h ⟨⟨_, en⟩, _, _, _, _, _, Z⟩ => all6 (Lv.fld en) (Lv.fld Z.me) (Lv.seq Z.its) (Lv.seq Z.own) (Src.live Z.one) (Src.live Z.two)
  keep := fun i h h' ⟨⟨old, en⟩, m, f, a, b, hm, Z⟩ k =>
    ⟨⟨old, k _ (.head _) _ en⟩, m, f, a, b, hm, k (N + 4) (by simp) _ Z.me, k (N + 2) (by simp) _ Z.its, k (N + 3) (by simp) _ Z.own, Src.keep Z.one (k N (by simp)), Src.keep Z.two (k (N + 1) (by simp))⟩
  item := fun X eP ew eK calm i pins s0 σ G E I own ⟨⟨old, en⟩, m, f, a, b, hm, Z⟩ ⟨l1, l2, is1, is2⟩ => by
    cases eP; cases ew; cases eK
    obtain ⟨Hd1, W1⟩ := Src.getA (A := X.A.in1.in1) I (I.ok.hd calm) is1
    obtain ⟨Hd2, W2⟩ := Src.getA (A := X.A.in1.in1) I (I.ok.hd calm) is2
    have ap := zip_sep2 h1 h2
    have top : N + 5 < s0.heap.objs.size := Heap.lt_size en
    have below : ∀ c ∈ [N + 5, N + 4, N + 2, N + 3, N, N + 1], c < s0.heap.objs.size := all6 top (by omega) (by omega) (by omega) (by omega) (by omega)
    have n54 : (N + 5 : Nat) ≠ N + 4 := by omega
    have n53 : (N + 5 : Nat) ≠ N + 3 := by omega
    have n52 : (N + 5 : Nat) ≠ N + 2 := by omega
    have n51 : (N + 5 : Nat) ≠ N + 1 := by omega
    have n50 : (N + 5 : Nat) ≠ N := by omega
    obtain ⟨hp, gs, dr, tk, os⟩ := s0
    refine nextEnum (B := fun _ _ _ => False) (R := fun u h t => u = .ref hp.objs.size ∧ ∃ x y u1 u2, vs[i]? = some x ∧ ws[i]? = some y ∧ RelV x u1 ∧ RelV y u2 ∧ IsTupOf2 h hp.objs.size u1 u2 ∧ h.objs.size = hp.objs.size + 1 ∧
        (∃ m f a b, MarkOk m ∧ Zw (N + 4) (N + 2) (N + 3) N (N + 1) (fun i h => S.at_ h N i) (fun i h => S2.at_ h (N + 1) i) h m f #[a, b] (i + 1) (i + 1)) ∧ ∀ c o, c ≠ N + 4 → c ≠ N + 3 → c ≠ N → c ≠ N + 1 → hp.get? c = some o → h.get? c = some o) en
      (fun {Q' E'} q _ => ?_) (fun u h t ⟨_, _, _, _, _, _, _, _, _, _, _, _, kept⟩ => kept _ _ n54 n53 n50 n51 en) (fun u h t h3 ⟨eu, x, y, u1, u2, ex, ey, ru, ru2, tup, sz, ⟨m', f', a', b', hm', Z'⟩, kept⟩ out there _ kept3 => ?_) fun _ _ _ r => r.elim
    · have ty : (⟨hp, gs, dr, tk, os⟩ : Shared).TypeIs (.ref (N + 4)) "zip" := ⟨_, Z.me, rfl⟩
      have Zd : Zw (N + 4) (N + 2) (N + 3) N (N + 1) (fun i h => S.at_ h N i ∧ Hd1 h) (fun i h => S2.at_ h (N + 1) i ∧ Hd2 h) hp m f #[a, b] i i := ⟨Z.me, Z.its, Z.own, ⟨Z.one, W1.hd⟩, ⟨Z.two, W2.hd⟩⟩
      unfold Builtin.SmallTypes.nextOf
      refine wpAny_bind (wpAny_callSpecial?_slot (name := Str.ofString "__next__") ty F.slot_zip_next (wpAny_call_entry F.slot_zip_next ty F.entry_zip_next
        (zipTurn ap (W1.dr N (off (j := 0) h1)) (W2.dr (N + 1) (off h2)) Zd hm (Nat.le_of_lt l1) (Nat.le_of_lt l2) (fun _ _ u1 u2 h t m' f' a' b' ⟨x, ex, ru⟩ ⟨y, ey, ru2⟩ hm' Z' tup sz kept => ?_) fun stop => absurd stop (by omega)) (F.args_zip_next_1 _)))
      exact ⟨_, rfl, wpAny_pure (q _ _ _ ⟨rfl, x, y, u1, u2, ex, ey, ru, ru2, tup, sz, ⟨m', f', a', b', hm', Z'.me, Z'.its, Z'.own, Z'.one.1, Z'.two.1⟩, kept⟩)⟩
    · subst eu
      refine ⟨_, rfl, wpAny_letOwnedTupleGo_enum out fun h4 en4 sb => ?_⟩
      replace sb : Heap.SameBut (N + 5) h3 h4 := sb
      obtain ⟨J, new, free⟩ := madeTup I own below (n := t) (vs := [x, y]) (.cons ru (.cons ru2 .nil)) (by show 2 ≤ sizeLine; decide) tup fun c o nc e => let ⟨_, c4, _, c3, c0, c1⟩ := ne6 nc; kept c o c4 c3 c0 c1 e
      have own2 : ∀ c ∈ [N + 5, N + 4, N + 2, N + 3, N, N + 1], FpOk X pins (upd G hp.objs.size (.tup [x, y])) c := fun c mc => ⟨free c mc, (own c mc).2⟩
      have up : ∀ c o, c ≠ N + 5 → h.get? c = some o → h4.get? c = some o := fun c o q e => sb.extBut c o q (kept3 c o q e)
      have big : hp.objs.size < h.objs.size := by rw [sz]; exact Nat.lt_succ_self _
      have far : h.objs.size ≠ N + 5 := Nat.ne_of_gt (Nat.lt_trans top big)
      obtain ⟨J2, new2, free2⟩ := madeTup J own2 (fun c mc => Nat.lt_trans (below c mc) big) (n := t + 1) (vs := [.int (i : Nat), .ref hp.objs.size]) (.cons ⟨_, rfl⟩ (.cons rfl .nil)) (by show 2 ≤ sizeLine; decide) (sb.extBut _ _ far there)
        fun c o nc e => up c o (List.ne_of_not_mem_cons nc) e
      refine ⟨.ref h.objs.size, _, J2, rfl, ⟨hp.objs.size, h.objs.size, x, y, rfl, new, ?_, Nat.ne_of_gt big, rfl, ex, ey⟩, ⟨⟨_, by rw [Int.natCast_add]; exact en4⟩, m', f', a', b', hm', up _ _ n54.symm Z'.me, up _ _ n52.symm Z'.its, up _ _ n53.symm Z'.own, Src.keep Z'.one fun o => up _ _ n50.symm, Src.keep Z'.two fun o => up _ _ n51.symm⟩, free2⟩
      exact I.hok.fresh (Nat.le_of_lt big)
  done := fun X eP ew eK calm i pins s0 σ G E I own ⟨⟨old, en⟩, m, f, a, b, hm, Z⟩ ⟨l1, l2, stop, is1, is2⟩ => by
    cases eP; cases ew; cases eK
    obtain ⟨Hd1, W1⟩ := Src.getA (A := X.A.in1.in1) I (I.ok.hd calm) is1
    obtain ⟨Hd2, W2⟩ := Src.getA (A := X.A.in1.in1) I (I.ok.hd calm) is2
    obtain ⟨hp, gs, dr, tk, os⟩ := s0
    have ap := zip_sep2 h1 h2
    have ty : (⟨hp, gs, dr, tk, os⟩ : Shared).TypeIs (.ref (N + 4)) "zip" := ⟨_, Z.me, rfl⟩
    have Zd : Zw (N + 4) (N + 2) (N + 3) N (N + 1) (fun i h => S.at_ h N i ∧ Hd1 h) (fun i h => S2.at_ h (N + 1) i ∧ Hd2 h) hp m f #[a, b] i i := ⟨Z.me, Z.its, Z.own, ⟨Z.one, W1.hd⟩, ⟨Z.two, W2.hd⟩⟩
    refine nextEnum (R := fun _ _ _ => False) (B := fun e h t => (∃ o, h.get? e = some o ∧ o.cls = .type "StopIteration") ∧ ∀ c o, c ≠ N + 4 → c ≠ N + 3 → c ≠ N → c ≠ N + 1 → hp.get? c = some o → h.get? c = some o) en
      (fun {Q' E'} _ q => ?_) (fun _ _ _ r => r.elim) (fun _ _ _ _ r => r.elim) fun e h t ⟨at_, kept⟩ => ⟨at_, rfl, I.turnedL (fun c o nc => let ⟨_, c4, _, c3, c0, c1⟩ := ne6 nc; kept c o c4 c3 c0 c1) own⟩
    unfold Builtin.SmallTypes.nextOf
    exact wpAny_bind (wpAny_callSpecial?_slot (name := Str.ofString "__next__") ty F.slot_zip_next (wpAny_call_entry F.slot_zip_next ty F.entry_zip_next
      (zipTurn ap (W1.dr N (off (j := 0) h1)) (W2.dr (N + 1) (off h2)) Zd hm l1 l2 (fun g1 g2 => absurd stop (by omega)) fun _ h t e kept at_ => q e h t ⟨at_, kept⟩) (F.args_zip_next_1 _)))
  self := fun A i s0 Q E ⟨⟨_, en⟩, _⟩ => wpAny_pyIter_enum en
theorem iters_zip {z TI TO : Addr} : Iters (.ref z) (fun h => IsZip h z TI TO .none) (fun _ => .ref z) (fun h => h) := ⟨fun j q => wpAny_pyIter_zip j q⟩
def iEZ (K : PySem.W.Frag) (ta : TA) : TI := fun σ H R => ta σ H fun vs H1 => ∃ x y, vs = [x, y] ∧ ∀ u u2, RelV x u → RelV y u2 → ∃ S S2 ws ws2, S.val = u ∧ S2.val = u2 ∧ Src.Is K H1 ws S ∧ Src.Is K H1 ws2 S2 ∧ R (ItEZ K S S2 ws ws2) H1
theorem pi_ez {X : Cx} {e e2 : Expr} {ta : TA} {p p2 pos pos2 tpos : Pos} {elts : List Expr} {kk : Nat} (hc : X.calm = true) (hg : Gl X "zip") (hm : X.mg "zip" = none) (hg2 : Gl X "enumerate") (hm2 : X.mg "enumerate" = none) (ha : PA X [e, e2] ta)
    (hs : starEach [e, e2] X.env = (false, eval e X.env) :: starEach [e2] X.env) (hpl : (backTo pos (starEach [e2] X.env)).any (·.1) = false) :
    PI X (.Tuple elts kk tpos) (.Call (.Name "enumerate" p2) [.Call (.Name "zip" p) [e, e2] [] pos] [] pos2) (iEZ X.K ta) := by
  constructor
  intro pins s0 σ H R I h
  refine Call_ (ld_blt I hg2 hm2 boot_enumerate (PyProof.Rows.callWith_type1 ?_ rfl rfl))
  show wpAny _ _ (spliced ((false, eval (.Call (.Name "zip" p) [e, e2] [] pos) X.env) :: backTo pos2 (starEach [] X.env))) _ _ s0
  refine Calls.spliced_cons ?_
  refine Call_ (ld_blt I hg hm PyProof.Rows.boot_zip (PyProof.Rows.callWith_type1 (thn (ha.run pos pins s0 σ H _ I h) fun us s1 ⟨vs, G, J, r, x, y, ex, q⟩ => ?_) hs hpl))
  subst ex
  obtain ⟨u, u2, rfl, ru, ru2⟩ := vals2 r
  obtain ⟨S, S2, ws, ws2, rfl, rfl, is1, is2, q⟩ := q u u2 ru ru2
  obtain ⟨Hd1, W1⟩ := Src.get J hc is1
  obtain ⟨Hd2, W2⟩ := Src.get J hc is2
  refine zip_begins2 W1.bg W2.bg W1.hd W2.hd fun h3 z ti to g1 g2 n kept => Calls.spliced_nil (callEnum iters_zip z ?_)
  have en := Heap.get?_push_size h3 (o := enumObj (.ref (s1.heap.objs.size + 4))) rfl
  have k3 : ∀ c o, h3.get? c = some o → (h3.push (enumObj (.ref (s1.heap.objs.size + 4)))).get? c = some o := fun _ _ => Heap.get?_push_of_some _
  have f : ∀ j, FpOk X pins G (s1.heap.objs.size + j) := fun j => fpNew J (Nat.le_add_right _ j)
  show wpAny _ _ (pyIter (.ref h3.objs.size)) _ _ _
  rw [n] at en ⊢
  exact wpAny_pyIter_enum en ⟨_, _, _, _, G, rfl, J.kept (t' := s1.toks) fun c o x => k3 c o (kept c o x), turn_ez W1.lt W2.lt, ⟨⟨_, en⟩, _, _, _, _, .inl rfl, k3 _ _ z, k3 _ _ ti, k3 _ _ to, Src.at0 (k3 _ _ g1), Src.at0 (k3 _ _ g2)⟩, all6 (f 5) (f 4) (f 2) (f 3) (f 0) (f 1), q⟩
theorem wk_ez {K : PySem.W.Frag} {G : Hp} {S S2 : Src} {vs ws : List V} {ds es : List D} (h : S.Is K G vs) (h2 : S2.Is K G ws) (r : DpAll K G vs ds) (r2 : DpAll K G ws es) : WkD K G (ItEZ K S S2 vs ws) (enumD 0 (zip2 ds es)) := by
  have hl := DpAll_len r
  have hl2 := DpAll_len r2
  refine ⟨fun i H hi s => ?_, fun H s => ?_, fun i H x H' G1 hi s1 s2 y => ?_⟩
  · rw [enumD_len, zip2_len] at hi; exact ⟨by omega, by omega, Src.up s h, Src.up s h2⟩
  · rw [enumD_len, zip2_len]; exact ⟨by omega, by omega, by omega, Src.up s h, Src.up s h2⟩
  · obtain ⟨T, U, v, u, rfl, hT, hU, hne, rfl, hv, hu⟩ := y
    obtain ⟨d, e, rd⟩ := DpAll_getV r hv
    obtain ⟨d2, e2, rd2⟩ := DpAll_getV r2 hu
    have st1 : Stp G1 H (upd G1 T (.tup [v, u])) (upd H T (.tup [v, u])) := Stp.new s2 hT
    have st2 : Stp (upd G1 T (.tup [v, u])) (upd H T (.tup [v, u])) (upd (upd G1 T (.tup [v, u])) U (.tup [.int (i : Nat), .ref T])) (upd (upd H T (.tup [v, u])) U (.tup [.int (i : Nat), .ref T])) := Stp.new st1.gh (by rw [upd_ne hne]; exact hU)
    have st := st1.trans st2
    refine ⟨.tuple [.int (i : Nat), .tuple [d, d2]], _, by rw [enumD_get, zip2_get e e2]; simp, st, .tup (SqT.of upd_same) (.cons (.int _) (.cons (.tup (SqT.of (xs := [v, u]) ?_) (.cons (Dp_mono (s1.trans st.gg) rd) (.cons (Dp_mono (s1.trans st.gg) rd2) .nil))) .nil))⟩
    rw [upd_ne (Ne.symm hne)]
    exact upd_same
theorem pI_ez {X : Cx} {c : Cw} (hK : c.K = X.K) {a b : Expr} {r : Env → Rs (List D)} {p p2 pos pos2 tpos : Pos} {elts : List Expr} {kk : Nat} (hc : X.calm = true) (hg : Gl X "zip") (hm : X.mg "zip" = none) (hg2 : Gl X "enumerate") (hm2 : X.mg "enumerate" = none) (ha : PA X [a, b] (tL c r))
    (hs : starEach [a, b] X.env = (false, eval a X.env) :: starEach [b] X.env) (hpl : (backTo pos (starEach [b] X.env)).any (·.1) = false) (h1 : ∀ ρ ds, r ρ = .ok ds → ds.length = 2) :
    PI X (.Tuple elts kk tpos) (.Call (.Name "enumerate" p2) [.Call (.Name "zip" p) [a, b] [] pos] [] pos2) (tI c fun ρ => (r ρ).bind fun ds => (itD .ez ds).quiet) := by
  refine PI.mono (pi_ez hc hg hm hg2 hm2 ha hs hpl) fun σ H R ⟨ρ, G, sg, e, p⟩ => ⟨ρ, G, sg, e, p.seq fun ds us G1 H1 ed st rd p1 => ?_⟩
  have hl := h1 ρ ds ed
  match ds, hl, rd, p1 with
  | [d, d2], _, rd, p1 =>
    obtain ⟨v, v2, rfl, h, h2⟩ := two_of rd
    have p1 : PoG (WkD c.K) c σ G1 H1 (((itsD d).bind fun xs => (itsD d2).map fun ys => enumD 0 (zip2 xs ys)).quiet) R := p1
    cases ex : itsD d with
    | ex z => rw [ex] at p1; exact p1.elim
    | no => rw [ex] at p1; exact p1.elim
    | ok xs =>
      rw [ex] at p1
      obtain ⟨ys, ey, p2⟩ := PoG.mapQ hK (x := itsD d2) (f := fun ys => enumD 0 (zip2 xs ys)) p1
      refine ⟨v, v2, rfl, fun u u2 ru ru2 => ?_⟩
      obtain ⟨S, ws, e1, e2, e3⟩ := srcD st.gh h ex u ru
      obtain ⟨S2, ws2, f1, f2, f3⟩ := srcD st.gh h2 ey u2 ru2
      rw [hK] at e2 e3 f2 f3 p2
      exact ⟨S, S2, ws, ws2, e1, f1, Src.up st.gh e2, Src.up st.gh f2, p2 _ G1 H1 (Stp.refl st.gh) (wk_ez e2 f2 e3 f3)⟩
end Rf
set_option Elab.async false
set_option linter.all false
set_option maxRecDepth 100000
set_option maxHeartbeats 2000000
namespace Rf
open PySem PySem.Spec PyProof.Rows L2
/-- nothing is let out -/
def Cw.calm (c : Cw) : Cw := { c with W := fun _ _ _ _ => False }
theorem wipe_set (σ : L2.St) (i : Nat) (v : Option V) : ∀ vs : List Nat, i ∈ vs → wipe (σ.set i v) vs = wipe σ vs
  | [], h => by cases h
  | w :: vs, h => by
    unfold wipe
    by_cases e : i ∈ vs
    · rw [wipe_set σ i v vs e]
    · have e2 : i = w := by
        rcases List.mem_cons.mp h with q | q
        · exact q
        · exact absurd q e
      subst e2
      have z : ∀ (us : List Nat), i ∉ us → wipe (σ.set i v) us = (wipe σ us).set i v := by
        intro us
        induction us with
        | nil => intro _; rfl
        | cons u us ih =>
          intro hu
          simp only [List.mem_cons, not_or] at hu
          unfold wipe
          rw [ih hu.2, List.set_comm _ _ hu.1]
      rw [z vs e, List.set_set]
theorem wipe_setAll {K : PySem.W.Frag} {G : Hp} (own : List Nat) : ∀ {bs : List (Nat × D)} {vs : List (Nat × V)} (σ : L2.St), Bnd K G bs vs → (∀ b ∈ bs, b.1 ∈ own) → wipe (setAllV σ vs) own = wipe σ own
  | _, _, σ, .nil, _ => rfl
  | (i, d) :: bs, (_, v) :: vs, σ, .cons a b, h => by
    show wipe (setAllV (σ.set i (some v)) vs) own = wipe σ own
    rw [wipe_setAll own (σ.set i (some v)) b fun x hx => h x (List.mem_cons_of_mem _ hx), wipe_set σ i _ own (h (i, d) List.mem_cons_self)]
theorem wipe_twice (σ : L2.St) (own : List Nat) : wipe (wipe σ own) own = wipe σ own := by
  have : ∀ us : List Nat, (∀ u ∈ us, u ∈ own) → wipe (wipe σ us) own = wipe σ own := by
    intro us
    induction us with
    | nil => intro _; rfl
    | cons u us ih =>
      intro h
      show wipe ((wipe σ us).set u none) own = wipe σ own
      rw [wipe_set _ _ _ own (h u List.mem_cons_self)]
      exact ih fun x hx => h x (List.mem_cons_of_mem _ hx)
  exact this own fun _ h => h
theorem bind_slots : ∀ (t : Tg) (d : D) (bs : List (Nat × D)), bindTg t d = .ok bs → ∀ b ∈ bs, b.1 ∈ t.slots
  | .nm i, d, bs, h, b, hb => by
    injection h with h
    subst h
    rw [List.mem_singleton.mp hb]
    exact List.mem_singleton.mpr rfl
  | .t2 x y, d, bs, h, b, hb => by
    match d, h with
    | .tuple [u, v], h =>
      have h : (bindTg x u).bind (fun l => (bindTg y v).map fun r => l ++ r) = .ok bs := h
      cases e1 : bindTg x u with
      | ok l =>
        cases e2 : bindTg y v with
        | ok r =>
          rw [e1, e2] at h
          injection (show Rs.ok (l ++ r) = Rs.ok bs from h) with h
          subst h
          rcases List.mem_append.mp hb with q | q
          · exact List.mem_append_left _ (bind_slots x u l e1 b q)
          · exact List.mem_append_right _ (bind_slots y v r e2 b q)
        | ex e' => rw [e1, e2] at h; exact nomatch (show (Rs.ex e' : Rs (List (Nat × D))) = Rs.ok bs from h)
        | no => rw [e1, e2] at h; exact nomatch (show (Rs.no : Rs (List (Nat × D))) = Rs.ok bs from h)
      | ex e' => rw [e1] at h; exact nomatch (show (Rs.ex e' : Rs (List (Nat × D))) = Rs.ok bs from h)
      | no => rw [e1] at h; exact nomatch (show (Rs.no : Rs (List (Nat × D))) = Rs.ok bs from h)
  | .t3 x y z, d, bs, h, b, hb => by
    match d, h with
    | .tuple [u, v, w'], h =>
      have h : (bindTg x u).bind (fun l => (bindTg y v).bind fun r => (bindTg z w').map fun q => l ++ (r ++ q)) = .ok bs := h
      cases e1 : bindTg x u with
      | ok l =>
        cases e2 : bindTg y v with
        | ok r =>
          cases e3 : bindTg z w' with
          | ok q' =>
            rw [e1, e2, e3] at h
            injection (show Rs.ok (l ++ (r ++ q')) = Rs.ok bs from h) with h
            subst h
            rcases List.mem_append.mp hb with q | q
            · exact List.mem_append_left _ (bind_slots x u l e1 b q)
            · rcases List.mem_append.mp q with q | q
              · exact List.mem_append_right _ (List.mem_append_left _ (bind_slots y v r e2 b q))
              · exact List.mem_append_right _ (List.mem_append_right _ (bind_slots z w' q' e3 b q))
          | ex e' => rw [e1, e2, e3] at h; exact nomatch (show (Rs.ex e' : Rs (List (Nat × D))) = Rs.ok bs from h)
          | no => rw [e1, e2, e3] at h; exact nomatch (show (Rs.no : Rs (List (Nat × D))) = Rs.ok bs from h)
        | ex e' => rw [e1, e2] at h; exact nomatch (show (Rs.ex e' : Rs (List (Nat × D))) = Rs.ok bs from h)
        | no => rw [e1, e2] at h; exact nomatch (show (Rs.no : Rs (List (Nat × D))) = Rs.ok bs from h)
      | ex e' => rw [e1] at h; exact nomatch (show (Rs.ex e' : Rs (List (Nat × D))) = Rs.ok bs from h)
      | no => rw [e1] at h; exact nomatch (show (Rs.no : Rs (List (Nat × D))) = Rs.ok bs from h)
  | .t4 x y z z4, d, bs, h, b, hb => by
    match d, h with
    | .tuple [u, v, w', w4], h =>
      have h : (bindTg x u).bind (fun l => (bindTg y v).bind fun r => (bindTg z w').bind fun q => (bindTg z4 w4).map fun o => l ++ (r ++ (q ++ o))) = .ok bs := h
      cases e1 : bindTg x u with
      | ok l =>
        rw [e1] at h
        cases e2 : bindTg y v with
        | ok r =>
          rw [e2] at h
          cases e3 : bindTg z w' with
          | ok q' =>
            rw [e3] at h
            cases e4 : bindTg z4 w4 with
            | ok q4 =>
              rw [e4] at h
              injection (show Rs.ok (l ++ (r ++ (q' ++ q4))) = Rs.ok bs from h) with h
              subst h
              rcases List.mem_append.mp hb with q | q
              · exact List.mem_append_left _ (bind_slots x u l e1 b q)
              · rcases List.mem_append.mp q with q | q
                · exact List.mem_append_right _ (List.mem_append_left _ (bind_slots y v r e2 b q))
                · rcases List.mem_append.mp q with q | q
                  · exact List.mem_append_right _ (List.mem_append_right _ (List.mem_append_left _ (bind_slots z w' q' e3 b q)))
                  · exact List.mem_append_right _ (List.mem_append_right _ (List.mem_append_right _ (bind_slots z4 w4 q4 e4 b q)))
            | ex e' => rw [e4] at h; exact nomatch (show (Rs.ex e' : Rs (List (Nat × D))) = Rs.ok bs from h)
            | no => rw [e4] at h; exact nomatch (show (Rs.no : Rs (List (Nat × D))) = Rs.ok bs from h)
          | ex e' => rw [e3] at h; exact nomatch (show (Rs.ex e' : Rs (List (Nat × D))) = Rs.ok bs from h)
          | no => rw [e3] at h; exact nomatch (show (Rs.no : Rs (List (Nat × D))) = Rs.ok bs from h)
        | ex e' => rw [e2] at h; exact nomatch (show (Rs.ex e' : Rs (List (Nat × D))) = Rs.ok bs from h)
        | no => rw [e2] at h; exact nomatch (show (Rs.no : Rs (List (Nat × D))) = Rs.ok bs from h)
      | ex e' => rw [e1] at h; exact nomatch (show (Rs.ex e' : Rs (List (Nat × D))) = Rs.ok bs from h)
      | no => rw [e1] at h; exact nomatch (show (Rs.no : Rs (List (Nat × D))) = Rs.ok bs from h)
theorem bind_okI {α β : Type} {x : Rs α} {f : α → Rs β} {b : β} (h : x.bind f = .ok b) : ∃ a, x = .ok a ∧ f a = .ok b := by
  cases x with
  | ok a => exact ⟨a, rfl, h⟩
  | ex e => cases h
  | no => cases h
theorem map_okI {α β : Type} {x : Rs α} {f : α → β} {b : β} (h : x.map f = .ok b) : ∃ a, x = .ok a ∧ f a = b := by
  obtain ⟨a, e, h⟩ := bind_okI h
  injection h with h
  exact ⟨a, e, h⟩
abbrev tBo (c : Cw) (r : Env → Rs Bool) : TT := tG (fun _ b b' => b' = b) c r
section
variable {X : Cx} {c : Cw}
theorem lcRead (hK : c.K = X.K) {own : List (Str × Nat)} {t : Tg} {ri : Env → Rs (List D)} {rt : Env → Rs Bool} {re : Env → Rs D} (ht : ∀ i ∈ t.slots, i ∈ own.map (·.2)) :
    ∀ σ H Q, tE c (fun ρ => (ri ρ).bind fun its => grd (few its.length) ((gather (turnD t rt re (own.map (·.2)) ρ) its).map .list)) σ H Q → tLc (tI c ri) (tT c.calm t) (tBo c.calm rt) (tE c.calm re) (own.map (·.2)) σ H Q := by
  intro σ H Q ⟨ρ, G, sg, e, p⟩
  refine tG.first sg e p fun its J G1 H1 s1 e1 st wk p1 => ?_
  intro Da hD
  generalize hw : own.map (·.2) = vs at *
  generalize hf : turnD t rt re vs ρ = f at *
  by_cases g : few its.length = true
  · rw [g] at p1
    cases q : gather f its with
    | ex x => exact absurd q (gather_nx its x)
    | no => rw [q] at p1; exact p1.elim
    | ok ds =>
      rw [q] at p1
      have p2 : ∀ u G' H', Stp G1 H1 G' H' → Dp c.K G' u (.list ds) → Q u H' := p1
      refine ⟨fun i m H => m = its.length - i ∧ i ≤ its.length ∧ ∃ G' acc pre, Stp G1 H1 G' H ∧ G' Da = none ∧ H Da = some (.lst acc) ∧ DpAll c.K G' acc pre ∧ gather f (its.take i) = .ok pre,
        ⟨its.length, by simp, Nat.zero_le _, G1, [], [], Stp.beside s1 hD, s1.free hD, upd_same, .nil, rfl⟩, fun i m H2 hW => ?_⟩
      obtain ⟨hm, hi2, G', acc, pre, st2, hG, hA, hda, hpre⟩ := hW
      by_cases hlt : i < its.length
      · refine .inr ⟨wk.go i H2 hlt (st2.gg.trans st2.gh), fun H' => ∃ G' acc pre, Stp G1 H1 G' H' ∧ G' Da = none ∧ H' Da = some (.lst acc) ∧ DpAll c.K G' acc pre ∧ gather f (its.take (i + 1)) = .ok pre, fun H' hN' => ⟨its.length - (i + 1), by omega, rfl, by omega, hN'⟩, fun x H3 hy => ?_⟩
        obtain ⟨d, G3, ed, st3, hx⟩ := wk.yld i H2 x H3 G' hlt st2.gg st2.gh hy
        have hsplit : its = its.take i ++ ([d] ++ its.drop (i + 1)) := by
          have h1 : its[i] = d := by
            have := List.getElem?_eq_getElem hlt
            rw [this] at ed
            exact Option.some.inj ed
          rw [← h1, List.singleton_append, List.getElem_cons_drop, List.take_append_drop]
        obtain ⟨pa, qa, ea, eb, ec⟩ := gather_app (f := f) (its.take i) ([d] ++ its.drop (i + 1)) ds (by rw [← hsplit]; exact q)
        obtain ⟨pb, qb, ea2, eb2, ec2⟩ := gather_app (f := f) [d] (its.drop (i + 1)) qa eb
        obtain ⟨o, eo, eo2⟩ := gather_one ea2
        have hpa : pa = pre := by
          rw [hpre] at ea
          injection ea with ea
          exact ea.symm
        subst hpa
        have hnext : gather f (its.take (i + 1)) = .ok (pa ++ o.toList) := by
          have h1 : its.take (i + 1) = its.take i ++ [d] := by
            rw [List.take_add_one, ed]; rfl
          rw [h1]
          have : ∀ (as : List D) (l : List D), gather f as = .ok l → gather f (as ++ [d]) = .ok (l ++ o.toList) := by
            intro as
            induction as with
            | nil => intro l hl; cases hl; rw [List.nil_append, gather_cons, eo]; simp [Rs.map, gather]
            | cons a as ih =>
              intro l hl
              rw [List.cons_append, gather_cons]
              rw [gather_cons] at hl
              obtain ⟨o', h1, h2⟩ := bind_okI hl
              obtain ⟨l', h3, h4⟩ := map_okI h2
              rw [h1, Rs.bind_ok, ih l' h3]
              show Rs.ok (o'.toList ++ (l' ++ o.toList)) = _
              rw [← h4, List.append_assoc]
          exact this _ _ hpre
        have hd3 : H3 Da = some (.lst acc) := st3.hh Da _ hA
        have hG3 : G3 Da = none := by
          cases z : G3 Da with
          | none => rfl
          | some o' =>
            have := st3.nw Da o' z hG
            rw [hA] at this; cases this
        have st13 := st2.trans st3
        -- the turn
        have eo := eo
        rw [← hf] at eo
        unfold turnD at eo
        obtain ⟨ρ1, h1, h2⟩ := bind_okI eo
        obtain ⟨bs, h3, h4⟩ := map_okI h1
        obtain ⟨b, h5, h6⟩ := bind_okI h2
        have E3 : EnvR c.kx G3 H3 (wipeE ρ vs) (wipe σ vs) := (e1.step st13).wipe vs
        refine ⟨G3, d, st3.gh, hx, ?_⟩
        rw [h3]
        intro us hb
        have E4 : EnvR c.kx G3 H3 ρ1 (setAllV (wipe σ vs) us) := by
          rw [← h4]; exact E3.all hb
        refine ⟨by rw [wipe_setAll vs _ hb fun z hz => ht z.1 (bind_slots t d bs h3 z hz), wipe_twice], ⟨ρ1, G3, st3.gh, E4, ?_⟩⟩
        rw [h5]
        intro b' G4 H4 st4 eb'
        subst eb'
        have hd4 : H4 Da = some (.lst acc) := st4.hh Da _ hd3
        have hG4 : G4 Da = none := by
          cases z : G4 Da with
          | none => rfl
          | some o' =>
            have := st4.nw Da o' z hG3
            rw [hd3] at this; cases this
        cases b with
        | false =>
          rw [if_neg Bool.false_ne_true]
          rw [if_neg Bool.false_ne_true] at h6
          injection h6 with h6
          refine ⟨G4, acc, pa, st13.trans st4, hG4, hd4, DpAll_mono (st3.gg.trans st4.gg) hda, ?_⟩
          rw [hnext, ← h6]; simp
        | true =>
          rw [if_pos rfl]
          rw [if_pos rfl] at h6
          obtain ⟨y, h7, h8⟩ := map_okI h6
          refine ⟨ρ1, G4, st4.gh, E4.step st4, ?_⟩
          rw [h7]
          intro u G5 H5 st5 hu
          have hd5 : H5 Da = some (.lst acc) := st5.hh Da _ hd4
          have hG5 : G5 Da = none := by
            cases z : G5 Da with
            | none => rfl
            | some o' =>
              have := st5.nw Da o' z hG4
              rw [hd4] at this; cases this
          have st15 := (st13.trans st4).trans st5
          refine ⟨acc, hd5, ?_, ?_⟩
          · have := gather_len (its.take i) pa hpre
            rw [List.length_take] at this
            have hl := DpAll_len hda
            have := few_lt g
            omega
          · have sG : Same G5 (upd H5 Da (.lst (acc ++ [u]))) := fun a o' z => by
              have ne : a ≠ Da := fun e => by rw [e, hG5] at z; cases z
              rw [upd_ne ne]
              exact st15.gh a o' z
            refine ⟨G5, acc ++ [u], pa ++ [y], ⟨fun a o' z => ?_, st15.gg, sG, st15.nw⟩, hG5, upd_same, DpAll_app (DpAll_mono ((st3.gg.trans st4.gg).trans st5.gg) hda) (.cons hu .nil), ?_⟩
            · have ne : a ≠ Da := fun e => by rw [e, hD] at z; cases z
              rw [upd_ne ne]
              exact st15.hh a o' z
            · rw [hnext, ← h8]; rfl
      · have ei : i = its.length := by omega
        subst ei
        refine .inl ⟨wk.stop H2 (st2.gg.trans st2.gh), ?_⟩
        rw [List.take_length, q] at hpre
        injection hpre with hpre
        subst hpre
        refine p2 (.ref Da) (upd G' Da (.lst acc)) H2 ⟨st2.hh, st2.gg.trans (Same.upd hG), fun a o' z => ?_, fun a o' z n => ?_⟩ (.lst (SqL.of upd_same) (DpAll_mono (Same.upd hG) hda))
        · by_cases ne : a = Da
          · subst ne; rw [upd_same] at z; rw [← z]; exact hA
          · rw [upd_ne ne] at z; exact st2.gh a o' z
        · by_cases ne : a = Da
          · subst ne; exact hD
          · rw [upd_ne ne] at z; exact st2.nw a o' z n
  · rw [Bool.eq_false_iff.mpr g] at p1; exact p1.elim
theorem gath2_nx {f : D → Rs (List D)} : ∀ (its : List D) (e : Xn), gath2 f its ≠ .ex e
  | [], e, h => by cases h
  | d :: ds, e, h => by
    rw [gath2_cons] at h
    cases q : f d with
    | ok o =>
      rw [q] at h
      cases r : gath2 f ds with
      | ok l => rw [r] at h; cases h
      | ex e' => exact gath2_nx ds e' r
      | no => rw [r] at h; cases h
    | ex e' => rw [q] at h; cases h
    | no => rw [q] at h; cases h
theorem quiet_okE {α : Type} {x : Rs α} {a : α} (h : x.quiet = .ok a) : x = .ok a := by
  cases x with
  | ok b => exact h
  | ex e => cases h
  | no => cases h
theorem gath2_app {f : D → Rs (List D)} : ∀ (as bs : List D) (ds : List D), gath2 f (as ++ bs) = .ok ds → ∃ p q, gath2 f as = .ok p ∧ gath2 f bs = .ok q ∧ ds = p ++ q
  | [], bs, ds, h => ⟨[], ds, rfl, h, rfl⟩
  | a :: as, bs, ds, h => by
    rw [List.cons_append, gath2_cons] at h
    obtain ⟨l, h1, h2⟩ := bind_okI h
    obtain ⟨r, h3, h4⟩ := map_okI h2
    obtain ⟨p, q, e1, e2, e3⟩ := gath2_app as bs r h3
    refine ⟨l ++ p, q, by rw [gath2_cons, h1, e1]; rfl, e2, ?_⟩
    rw [← h4, e3, List.append_assoc]
theorem gath2_snoc {f : D → Rs (List D)} {d : D} {l : List D} (e : f d = .ok l) : ∀ (as p : List D), gath2 f as = .ok p → gath2 f (as ++ [d]) = .ok (p ++ l)
  | [], p, h => by cases h; rw [List.nil_append, gath2_cons, e]; simp [Rs.map, gath2]
  | a :: as, p, h => by
    rw [gath2_cons] at h
    obtain ⟨o, h1, h2⟩ := bind_okI h
    obtain ⟨r, h3, h4⟩ := map_okI h2
    rw [List.cons_append, gath2_cons, h1, Rs.bind_ok, gath2_snoc e as r h3]
    show Rs.ok (o ++ (r ++ l)) = _
    rw [← h4, List.append_assoc]
theorem gather_snoc {f : D → Rs (Option D)} {d : D} {o : Option D} (e : f d = .ok o) : ∀ (as p : List D), gather f as = .ok p → gather f (as ++ [d]) = .ok (p ++ o.toList)
  | [], p, h => by cases h; rw [List.nil_append, gather_cons, e]; simp [Rs.map, gather]
  | a :: as, p, h => by
    rw [gather_cons] at h
    obtain ⟨o', h1, h2⟩ := bind_okI h
    obtain ⟨r, h3, h4⟩ := map_okI h2
    rw [List.cons_append, gather_cons, h1, Rs.bind_ok, gather_snoc e as r h3]
    show Rs.ok (o'.toList ++ (r ++ o.toList)) = _
    rw [← h4, List.append_assoc]
theorem take_split {its : List D} {i : Nat} {d : D} (h : its[i]? = some d) : its = its.take i ++ ([d] ++ its.drop (i + 1)) ∧ its.take (i + 1) = its.take i ++ [d] := by
  obtain ⟨hl, e⟩ := List.getElem?_eq_some_iff.mp h
  refine ⟨?_, by rw [List.take_add_one, h]; rfl⟩
  rw [← e, List.singleton_append, List.getElem_cons_drop, List.take_append_drop]
/-- the list that grows beside what is frozen -/
structure Grow (K : PySem.W.Frag) (G1 H1 : Hp) (Da : Addr) (ds : List D) (G' H' : Hp) : Prop where
  st : Stp G1 H1 G' H'
  g : G' Da = none
  h : ∃ acc, H' Da = some (.lst acc) ∧ DpAll K G' acc ds
theorem Grow.step {K : PySem.W.Frag} {G1 H1 : Hp} {Da : Addr} {ds : List D} {G2 H2 G3 H3 : Hp} (w : Grow K G1 H1 Da ds G2 H2) (s : Stp G2 H2 G3 H3) : Grow K G1 H1 Da ds G3 H3 := by
  obtain ⟨acc, hA, hd⟩ := w.h
  refine ⟨w.st.trans s, ?_, acc, s.hh Da _ hA, DpAll_mono s.gg hd⟩
  cases z : G3 Da with
  | none => rfl
  | some o' =>
    have := s.nw Da o' z w.g
    rw [hA] at this; cases this
theorem Grow.push {K : PySem.W.Frag} {G1 H1 : Hp} {Da : Addr} {ds : List D} {G2 H2 : Hp} {u : V} {d : D} (w : Grow K G1 H1 Da ds G2 H2) (hD : H1 Da = none) (hu : Dp K G2 u d) {acc : List V} (hA : H2 Da = some (.lst acc)) : Grow K G1 H1 Da (ds ++ [d]) G2 (upd H2 Da (.lst (acc ++ [u]))) := by
  obtain ⟨acc', hA', hd⟩ := w.h
  rw [hA] at hA'
  injection hA' with e
  injection e with e
  subst e
  have ng : ∀ a o', G2 a = some o' → a ≠ Da := fun a o' z e => by rw [e, w.g] at z; cases z
  refine ⟨⟨fun a o' z => ?_, w.st.gg, fun a o' z => by rw [upd_ne (ng a o' z)]; exact w.st.gh a o' z, w.st.nw⟩, w.g, acc ++ [u], upd_same, DpAll_app hd (.cons hu .nil)⟩
  have ne : a ≠ Da := fun e => by rw [e, hD] at z; cases z
  rw [upd_ne ne]
  exact w.st.hh a o' z
theorem Bnd_mono {K : PySem.W.Frag} {G H : Hp} (s : Same G H) : ∀ {bs : List (Nat × D)} {vs : List (Nat × V)}, Bnd K G bs vs → Bnd K H bs vs
  | _, _, .nil => .nil
  | _, _, .cons a b => .cons (Dp_mono s a) (Bnd_mono s b)
theorem lcRead2 (hK : c.K = X.K) {own : List (Str × Nat)} {own1 : List Nat} {t t1 : Tg} {ri ri1 : Env → Rs (List D)} {re : Env → Rs D} (ht : ∀ i ∈ t.slots, i ∈ own.map (·.2)) (ht1 : ∀ i ∈ t1.slots, i ∈ own1) :
    ∀ σ H Q, tE c (fun ρ => (ri ρ).bind fun its => (gath2 (turn2 t ri1 t1 re (own.map (·.2)) own1 ρ) its).bind fun r => grd (few r.length) (.ok (.list r))) σ H Q →
      tLc2 (tI c ri) (tT c.calm t) (tBo c.calm fun _ => .ok true) (tI c.calm ri1) (tT c.calm t1) (tBo c.calm fun _ => .ok true) (tE c.calm re) (own.map (·.2)) own1 σ H Q := by
  intro σ H Q ⟨ρ, G, sg, e, p⟩
  refine tG.first sg e p fun its J G1 H1 s1 e1 st wk p1 => ?_
  intro Da hD
  generalize hw : own.map (·.2) = vs at *
  generalize hf : turn2 t ri1 t1 re vs own1 ρ = f at *
  cases q : gath2 f its with
  | ex x => exact absurd q (gath2_nx its x)
  | no => rw [q] at p1; exact p1.elim
  | ok ds =>
    rw [q] at p1
    have p1 : PoG (Dp c.K) c σ G1 H1 (grd (few ds.length) (.ok (.list ds))) Q := p1
    by_cases g : few ds.length = true
    · rw [g] at p1
      have p2 : ∀ u G' H', Stp G1 H1 G' H' → Dp c.K G' u (.list ds) → Q u H' := p1
      have hl := few_lt g
      refine ⟨fun i m H => m = its.length - i ∧ i ≤ its.length ∧ ∃ G' pre, gath2 f (its.take i) = .ok pre ∧ Grow c.K G1 H1 Da pre G' H,
        ⟨its.length, by simp, Nat.zero_le _, G1, [], rfl, Stp.beside s1 hD, s1.free hD, [], upd_same, .nil⟩, fun i m H2 hW => ?_⟩
      obtain ⟨hm, hi2, G', pre, hpre, gw⟩ := hW
      by_cases hlt : i < its.length
      · refine .inr ⟨wk.go i H2 hlt (gw.st.gg.trans gw.st.gh), fun H' => ∃ G' pre, gath2 f (its.take (i + 1)) = .ok pre ∧ Grow c.K G1 H1 Da pre G' H', fun H' hN' => ⟨its.length - (i + 1), by omega, rfl, by omega, hN'⟩, fun x H3 hy => ?_⟩
        obtain ⟨d, G3, ed, st3, hx⟩ := wk.yld i H2 x H3 G' hlt gw.st.gg gw.st.gh hy
        obtain ⟨sp1, sp2⟩ := take_split ed
        obtain ⟨pa, qa, ea, eb, ec⟩ := gath2_app (f := f) (its.take i) ([d] ++ its.drop (i + 1)) ds (by rw [← sp1]; exact q)
        obtain ⟨pb, qb, ea2, eb2, ec2⟩ := gath2_app (f := f) [d] (its.drop (i + 1)) qa eb
        rw [gath2_cons] at ea2
        obtain ⟨l, fl, ea3⟩ := bind_okI ea2
        have fl := quiet_okE fl
        obtain ⟨l2, ea4, ea5⟩ := map_okI ea3
        have ea4 : Rs.ok [] = .ok l2 := ea4
        injection ea4 with ea4
        subst ea4
        rw [List.append_nil] at ea5
        subst ea5
        rw [hpre] at ea
        injection ea with ea
        subst ea
        have hnext : gath2 f (its.take (i + 1)) = .ok (pre ++ l) := by rw [sp2]; exact gath2_snoc fl _ _ hpre
        have gw3 := gw.step st3
        have fl2 := fl
        rw [← hf] at fl2
        unfold turn2 at fl2
        obtain ⟨ρ1, h1, h2⟩ := bind_okI fl2
        obtain ⟨bs, h3, h4⟩ := map_okI h1
        obtain ⟨its1, h5, h6⟩ := bind_okI h2
        generalize hf1 : turnD t1 (fun _ => Rs.ok true) re own1 ρ1 = f1 at h6
        have E3 : EnvR c.kx G3 H3 (wipeE ρ vs) (wipe σ vs) := (e1.step gw3.st).wipe vs
        refine ⟨G3, d, st3.gh, hx, ?_⟩
        rw [h3]
        intro us hb
        have E4 : EnvR c.kx G3 H3 ρ1 (setAllV (wipe σ vs) us) := by
          rw [← h4]; exact E3.all hb
        refine ⟨by rw [wipe_setAll vs _ hb fun z hz => ht z.1 (bind_slots t d bs h3 z hz), wipe_twice], ⟨ρ1, G3, st3.gh, E4, ?_⟩⟩
        intro b' G4 H4 st4 eb'
        subst eb'
        rw [if_pos rfl]
        refine ⟨ρ1, G4, st4.gh, E4.step st4, ?_⟩
        rw [h5]
        intro J1 G5 H5 st5 wk1
        have gw5 := (gw3.step st4).step st5
        have E5 := (E4.step st4).step st5
        refine ⟨fun j k H => k = its1.length - j ∧ j ≤ its1.length ∧ ∃ G' pre1, gather f1 (its1.take j) = .ok pre1 ∧ Same G5 G' ∧ Grow c.K G1 H1 Da (pre ++ pre1) G' H, ⟨its1.length, by simp, Nat.zero_le _, G5, [], rfl, Same.refl _, by rw [List.append_nil]; exact gw5⟩, fun j k H6 hW1 => ?_⟩
        obtain ⟨hk, hj, G', pre1, hp1, sG, gw6⟩ := hW1
        by_cases hlt1 : j < its1.length
        · refine .inr ⟨wk1.go j H6 hlt1 (sG.trans gw6.st.gh), fun H' => ∃ G' pre1, gather f1 (its1.take (j + 1)) = .ok pre1 ∧ Same G5 G' ∧ Grow c.K G1 H1 Da (pre ++ pre1) G' H', fun H' hN => ⟨its1.length - (j + 1), by omega, rfl, by omega, hN⟩, fun x H7 hy1 => ?_⟩
          obtain ⟨d1, G7, ed1, st7, hx1⟩ := wk1.yld j H6 x H7 G' hlt1 sG gw6.st.gh hy1
          obtain ⟨tp1, tp2⟩ := take_split ed1
          obtain ⟨pa1, qa1, fa, fb, fc⟩ := gather_app (f := f1) (its1.take j) ([d1] ++ its1.drop (j + 1)) l (by rw [← tp1]; exact h6)
          obtain ⟨pb1, qb1, fa2, fb2, fc2⟩ := gather_app (f := f1) [d1] (its1.drop (j + 1)) qa1 fb
          obtain ⟨o, eo, eo2⟩ := gather_one fa2
          rw [hp1] at fa
          injection fa with fa
          subst fa
          have hn1 : gather f1 (its1.take (j + 1)) = .ok (pre1 ++ o.toList) := by rw [tp2]; exact gather_snoc eo _ _ hp1
          rw [← hf1] at eo
          unfold turnD at eo
          obtain ⟨ρ2, h7, h10⟩ := bind_okI eo
          obtain ⟨bs1, h8, h9⟩ := map_okI h7
          have h10 : (re ρ2).map some = .ok o := h10
          obtain ⟨y, h11, h12⟩ := map_okI h10
          subst h12
          have gw7 := gw6.step st7
          have sG7 : Same G3 G7 := (st4.gg.trans st5.gg).trans (sG.trans st7.gg)
          have E7 : EnvR c.kx G7 H7 ρ1 (setAllV (wipe σ vs) us) := by
            rw [← h4]
            exact ((e1.step gw7.st).wipe vs).all (Bnd_mono sG7 hb)
          refine ⟨G7, d1, st7.gh, hx1, ?_⟩
          rw [h8]
          intro us1 hb1
          have E9 : EnvR c.kx G7 H7 ρ2 (setAllV (wipe (setAllV (wipe σ vs) us) own1) us1) := by
            rw [← h9]
            exact (E7.wipe own1).all hb1
          refine ⟨by rw [wipe_setAll own1 _ hb1 fun z hz => ht1 z.1 (bind_slots t1 d1 bs1 h8 z hz), wipe_twice], ⟨ρ2, G7, st7.gh, E9, ?_⟩⟩
          intro b' G8 H8 st8 eb'
          subst eb'
          rw [if_pos rfl]
          refine ⟨ρ2, G8, st8.gh, E9.step st8, ?_⟩
          rw [h11]
          intro u G9 H9 st9 hu
          have gw9 := (gw7.step st8).step st9
          obtain ⟨acc, hA, hda⟩ := gw9.h
          refine ⟨acc, hA, ?_, G9, pre1 ++ [y], hn1, sG.trans ((st7.gg.trans st8.gg).trans st9.gg), by rw [← List.append_assoc]; exact gw9.push hD hu hA⟩
          have hlen := DpAll_len hda
          have : ds.length = pre.length + (pre1.length + (1 + qb1.length) + qb.length) := by
            rw [ec, ec2, fc, fc2, eo2]
            simp only [List.length_append, Option.toList, List.length_cons, List.length_nil]
          rw [List.length_append] at hlen
          omega
        · have ej : j = its1.length := by omega
          subst ej
          refine .inl ⟨wk1.stop H6 (sG.trans gw6.st.gh), G', pre ++ l, hnext, ?_⟩
          rw [List.take_length, h6] at hp1
          injection hp1 with hp1
          subst hp1
          exact gw6
      · have ei : i = its.length := by omega
        subst ei
        refine .inl ⟨wk.stop H2 (gw.st.gg.trans gw.st.gh), ?_⟩
        rw [List.take_length, q] at hpre
        injection hpre with hpre
        subst hpre
        obtain ⟨acc, hA, hda⟩ := gw.h
        have hG := gw.g
        refine p2 (.ref Da) (upd G' Da (.lst acc)) H2 ⟨gw.st.hh, gw.st.gg.trans (Same.upd hG), fun a o' z => ?_, fun a o' z n => ?_⟩ (.lst (SqL.of upd_same) (DpAll_mono (Same.upd hG) hda))
        · by_cases ne : a = Da
          · subst ne; rw [upd_same] at z; rw [← z]; exact hA
          · rw [upd_ne ne] at z; exact gw.st.gh a o' z
        · by_cases ne : a = Da
          · subst ne; exact hD
          · rw [upd_ne ne] at z; exact gw.st.nw a o' z n
    · rw [Bool.eq_false_iff.mpr g] at p1; exact p1.elim
end
end Rf
set_option Elab.async false
set_option linter.all false
set_option maxRecDepth 100000
set_option maxHeartbeats 3900000
namespace Rf
open PySem PySem.Spec PyProof.Rows L2 PySem.HandSPX
/-- an exception that the function's own frame has noted -/
def XL (X : Cx) (W : WX) (L : Addr) (u : Value) (s' : Shared) : Prop :=
  ∃ a B sI pins σ H cls d, u = .ref a ∧ Inv X pins σ H sI ∧ (∀ (b : Addr) (o : Obj), sI.heap.get? b = some o → b ∉ frs X.stack → B.get? b = some o) ∧ sI.heap.UpToSlots s'.heap ∧ HeldZ B X.stack a (Zc cls d) L s'.heap ∧ H a = none ∧ s'.os = sI.os ∧ AllBare s'.gens ∧ W cls d σ H
structure Pas (X : Cx) (W : WX) : Prop where
  fr : ∃ fe o L, X.stack = fe :: o ∧ fe.frame = some L ∧ X.env.frame = some L
  tl : ∀ L, X.env.frame = some L → ∀ u s', XL X W L u s' → X.xe u s'
theorem Pas.never {X : Cx} (fr : ∃ fe o L, X.stack = fe :: o ∧ fe.frame = some L ∧ X.env.frame = some L) : Pas X fun _ _ _ _ => False :=
  ⟨fr, fun L h u s' ⟨_, _, _, _, _, _, _, _, _, _, _, _, _, _, _, _, f⟩ => f.elim⟩
theorem Pas.top {X : Cx} {W : WX} (tk : Takes X W) (hs : X.stack = X.env :: X.outer) (hf : X.env.frame = some X.env.locals) : Pas X W :=
  ⟨⟨_, _, _, hs, hf, hf⟩, fun L h u s' ⟨a, B, sI, pins, σ, H, cls, d, e1, I, nb, up, hz, na, os, ag, w⟩ => by
    rw [hf] at h
    cases h
    exact tk u s' ⟨a, B, sI, pins, σ, H, cls, d, e1, I, nb, up, .inr (.inr hz), na, os, ag, w⟩⟩
/-- noted or not, by whom ever -/
def SkyA (B : Heap) (l : List PySem.Env) (a : Addr) (Z : Obj → Prop) (h : Heap) : Prop := B.StaysIn h ∧ B.get? a = none ∧ h.FunFrames B l ∧ ((∃ oe vs, h.get? a = some oe ∧ Z oe ∧ oe.data = .fields vs ∧ vs[1]? = some .none) ∨ ∃ fl, TracedZ h B a Z fl)
theorem SkyA.of_sky {B : Heap} {l : List PySem.Env} {a L : Addr} {Z : Obj → Prop} {h : Heap} (s : Sky B l a Z L h) : SkyA B l a Z h := by
  rcases s with ⟨h1, h2, h3, h4⟩ | ⟨h1, h2, h3, h4⟩ | ⟨h1, h2, h3, h4⟩
  · exact ⟨h1, h2, h3, .inl h4⟩
  · exact ⟨h1, h2, h3, .inr ⟨_, h4⟩⟩
  · exact ⟨h1, h2, h3, .inr ⟨_, h4⟩⟩
theorem note_any {M : Model} {A : Around} {E : Value → Shared → Prop} {s : Shared} {Z : Obj → Prop} {B : Heap} {env : PySem.Env} {outer : List PySem.Env} {L e : Addr} {Q : Unit → Shared → Prop} (hZ : Steady Z) (hfr : A.frames = some (env :: outer)) (hf : env.frame = some L) (k : SkyA B (env :: outer) e Z s.heap)
    (hQ : ∀ h', HeldZ B (env :: outer) e Z L h' → s.heap.UpToSlots h' → Q () { s with heap := h' }) : wpAny M A (noteFrame (.ref e) env) Q E s := by
  obtain ⟨hkb, hen, hl, k | ⟨fl, tr⟩⟩ := k
  · obtain ⟨oe, vs, he, hz, hd, h1⟩ := k
    exact look_newZ hZ hfr hl hf he hkb hen hd h1 hz hQ
  · by_cases q : fl = rawInt L
    · subst q
      exact againZ hf tr (hQ s.heap ⟨hkb, hen, hl, tr⟩ (Heap.UpToSlots.refl _))
    · -- another frame has noted it: that mark goes, ours is set
      obtain ⟨oe, us, T, oT, ts, at_, z, fields, tb, newT, apart, atT, fieldsT, mark⟩ := tr
      have else_ : ∀ b, b ≠ T → (s.heap.update T (Obj.mapFields fun x => x.setIfInBounds 3 .none)).get? b = s.heap.get? b := fun b ne => Heap.get?_update_other _ _ ne.symm
      have plain : ∀ b o, s.heap.get? b = some o → (∀ us, o.data ≠ .fields us) → (s.heap.update T (Obj.mapFields fun x => x.setIfInBounds 3 .none)).get? b = some o := fun b o there not =>
        (else_ b fun eq => not ts (by subst eq; cases atT.symm.trans there; exact fieldsT)).trans there
      have ground : B.StaysIn (s.heap.update T (Obj.mapFields fun x => x.setIfInBounds 3 .none)) := fun b o there => (else_ b fun eq => by subst eq; rw [newT] at there; cases there).trans (hkb b o there)
      have frames : (s.heap.update T (Obj.mapFields fun x => x.setIfInBounds 3 .none)).FunFrames B (env :: outer) := hl.of_keeps fun b o there not => ⟨o, plain b o there not, rfl⟩
      simp only [noteFrame, hf]
      refine wpAny_bind (wpAny_field at_ fields tb (wpAny_ite_true (by simp) (wpAny_bind (wpAny_field atT fieldsT mark (wpAny_ite_false (by simpa using q) (wpAny_bind (wpAny_setField atT fieldsT (Array.getElem?_eq_some_iff.mp mark).1 ?_)))))))
      exact wpAny_entryZ hZ hfr frames hf ((else_ e apart.symm).trans at_) ground hen fields (Array.getElem?_eq_some_iff.mp tb).1 z fun h1 ⟨k1, k2, k3, k4⟩ => hQ h1 ⟨k1, hen, k2, k3⟩ fun b o there not => k4 b o (plain b o there not) not
/-- another heap, where one place is bare -/
theorem heap_drop (B : Heap) (C : Addr) : ∃ B' : Heap, (∀ b, b ≠ C → B'.get? b = B.get? b) ∧ B'.get? C = none := by
  refine ⟨B.update C fun _ => ⟨.none, none, .freed, #[]⟩, fun b hb => Heap.get?_update_other B _ (Ne.symm hb), ?_⟩
  obtain ⟨objs, l⟩ := B
  show (match (objs.modify C fun _ => (⟨.none, none, .freed, #[]⟩ : Obj))[C]? with | some { cls := cls, dict := dict, data := Data.freed, slots := slots } => none | o => o) = none
  rw [Array.getElem?_modify, if_pos rfl]
  cases objs[C]? <;> rfl
theorem ff_drop {h1 h2 B B' : Heap} {C : Addr} {oC : Obj} (eC : B.get? C = some oC) (hB : ∀ b, b ≠ C → B'.get? b = B.get? b) (hh : ∀ b, b ≠ C → h2.get? b = h1.get? b) : ∀ l : List PySem.Env, h1.FunFrames B l → h2.FunFrames B' l
  | [], _ => trivial
  | e :: l, ⟨k, ⟨L, o, hf, hn, ho, hd⟩, r⟩ => by
    have ne : L ≠ C := fun q => by rw [q, eC] at hn; cases hn
    exact ⟨k, ⟨L, o, hf, (hB L ne).trans hn, (hh L ne).trans ho, hd⟩, ff_drop eC hB hh l r⟩
abbrev xbk (X : Cx) (s : Shared) (H : Hp) (scope : Scope) (C : Addr) (cl : List (Str × Addr)) (fp : List Addr) (xe : Value → Shared → Prop) : Cx := (X.blk s H scope (compEnvC scope cl C X.env) fp).tr [] xe
theorem clo_nil {cells : List (Str × Addr)} : ∀ {l : List (Str × NameKind)} (acc : List (Str × Addr)), (∀ x ∈ l, x.2 ≠ .free) → cloFrom cells l acc = acc
  | [], acc, _ => rfl
  | (n, k) :: l, acc, h => by
    show (if (k == NameKind.free) = true then cloFrom cells l _ else cloFrom cells l acc) = acc
    rw [if_neg (by simpa using h (n, k) (by simp))]
    exact clo_nil acc fun x hx => h x (by simp [hx])
theorem relabel_id {scope : Scope} {env : PySem.Env} (h : ∀ x ∈ scope.names, x.2 ≠ .free) : relabel scope env = scope := by
  unfold relabel
  obtain ⟨k, names, a, b, c⟩ := scope
  have : names.map (fun x => match x with | (n, k) => if (k == NameKind.free && env.scope.kind == ScopeKind.function && env.kindOf n == some NameKind.cell) = true then (n, NameKind.cell) else (n, k)) = names := by
    have : ∀ l : List (Str × NameKind), (∀ x ∈ l, x.2 ≠ .free) → l.map (fun x => match x with | (n, k) => if (k == NameKind.free && env.scope.kind == ScopeKind.function && env.kindOf n == some NameKind.cell) = true then (n, NameKind.cell) else (n, k)) = l := by
      intro l
      induction l with
      | nil => intro _; rfl
      | cons x l ih =>
        intro hl
        obtain ⟨n, k⟩ := x
        have hk := hl (n, k) (by simp)
        rw [List.map_cons, ih fun x hx => hl x (by simp [hx])]
        have : (k == NameKind.free) = false := by simpa using hk
        simp [this]
    exact this names h
  rw [this]
section
variable {X : Cx}
theorem err_pass {W : WX} (P : Pas X W) {pins : List (Addr × Obj)} {σ : L2.St} {Hc He : Hp} {sc sI s' : Shared} {scope : Scope} {C : Addr} {cl : List (Str × Addr)} {fp : List Addr} {xe : Value → Shared → Prop} {pins' : List (Addr × Obj)} {σ' : L2.St} {a : Addr} {B : Heap} {cls : Value} {d : Option Addr}
    (Ic : Inv X pins σ Hc sc) (hC : sc.heap.objs.size ≤ C) (fc : ∀ b ∈ fp, FpOk X pins Hc b) (I : Inv (xbk X sc Hc scope C cl fp xe) pins' σ' He sI) (nb : ∀ (b : Addr) (o : Obj), sI.heap.get? b = some o → b ∉ frs X.stack → B.get? b = some o) (up : sI.heap.UpToSlots s'.heap) (sky : SkyA B X.stack a (Zc cls d) s'.heap) (na : He a = none) (os : s'.os = sI.os) (ag : AllBare s'.gens) (w : W cls d σ He)
    {M : Shared → Prop} (hM : ∀ s2, (∃ m, s2.heap.Ns C m ∧ ∀ h', Heap.SameBut C s2.heap h' → ∀ (ce : PySem.Env) (Q' : Value → Shared → Prop), ce.frame = X.env.frame → wpAny (model X.prog X.w) X.A (PySem.passOn "comprehension.variables-let-go" (.ref a) ce) Q' X.xe { s2 with heap := h' }) → M s2)
    {E₁ : Value → Shared → Prop} : wpAny (model X.prog X.w) X.A (noteFrame (.ref a) (compEnvC scope cl C X.env)) (fun _ s2 => M s2) E₁ s' := by
  obtain ⟨fe, o, L, hs, hfe, hf⟩ := P.fr
  have Ig : Inv X pins σ He sI := Ic.call' (ch := fp) I.os I.base I.hok I.bare fun b hb => ⟨(fc b hb).2.2.2.1, (fc b hb).2.1, (fc b hb).2.2.2.2.1, (fc b hb).2.2.2.2.2⟩
  have nC : He C = none := I.free
  have f : FpOk X pins He C := Ic.fpOk hC nC
  obtain ⟨m, hn, _⟩ := I.loc
  have hn : sI.heap.Ns C m := hn
  have e1 : noteFrame (.ref a) (compEnvC scope cl C X.env) = noteFrame (.ref a) fe := by
    have : (compEnvC scope cl C X.env).frame = fe.frame := by rw [hfe]; exact hf
    unfold noteFrame PySem.frameOf
    rw [this]
  rw [e1]
  rw [hs] at sky
  refine note_any Zc.steady (by rw [Ic.ok.frames, hs]) hfe sky fun h1 hz up1 => hM _ ?_
  rw [← hs] at hz
  have hn1 : h1.Ns C m := up1.ns (up.ns hn)
  refine ⟨m, hn1, fun h2 sb ce Q' hce => ?_⟩
  obtain ⟨hkb, hen, hl, oe, vs, T, oT, ts, he, hz1, hd, hv, hnT, hTe, hT, hdT, h3⟩ := hz
  obtain ⟨oC, es, ep, hoC, hdC, _⟩ := hn1
  have aC : a ≠ C := fun q => by rw [q, hoC] at he; cases he; rw [hdC] at hd; cases hd
  have tC : T ≠ C := fun q => by rw [q, hoC] at hT; cases hT; rw [hdC] at hdT; cases hdT
  have sb2 : ∀ b, b ≠ C → h2.get? b = h1.get? b := sb.2
  obtain ⟨B2, hB2, hB2C⟩ := heap_drop B C
  obtain ⟨hI2, hI, hIC⟩ := heap_drop sI.heap C
  have inB : ∃ o, B.get? C = some o := by
    obtain ⟨o2, _, _, ho2, _⟩ := hn
    refine ⟨o2, nb C o2 ho2 fun hm => ?_⟩
    rcases List.mem_cons.mp (Ig.stkSub C hm) with q | q
    · exact f.2.1 q
    · exact f.2.2.1 q
  obtain ⟨oB, eB⟩ := inB
  unfold PySem.passOn
  refine wpAny_bind (wpAny_field ((sb2 a aC).trans he) hd hv ?_)
  rw [if_neg (by simp)]
  rw [hce, hf]
  refine wpAny_bind (setFlight_onZ (base := B2) (l := X.stack) (L := L) (Z := Zc cls d) ⟨fun b o hb => ?_, (hB2 a aC).trans hen, ff_drop eB hB2 sb2 _ hl, oe, vs, T, oT, ts, (sb2 a aC).trans he, hz1, hd, hv, (hB2 T tC).trans hnT, hTe, (sb2 T tC).trans hT, hdT, h3⟩ fun h4 hz4 up4 => wpAny_throw (P.tl L hf _ _ ⟨a, B2, { sI with heap := hI2 }, pins, σ, He, cls, d, rfl, Ig.turned (t' := sI.toks) (it := C) (fun b o hb e => (hI b hb).trans e) f.1 f.2.1 f.2.2.2.1 f.2.2.2.2.1 f.2.2.2.2.2, fun b o hb hs2 => ?_, fun b o hb hnf => ?_, hz4, na, os, ag, w⟩))
  · have ne : b ≠ C := fun q => by rw [q, hB2C] at hb; cases hb
    exact (sb2 b ne).trans (hkb b o ((hB2 b ne).symm.trans hb))
  · have ne : b ≠ C := fun q => by
      have hb : hI2.get? b = some o := hb
      rw [q, hIC] at hb; cases hb
    exact (hB2 b ne).trans (nb b o ((hI b ne).symm.trans hb) hs2)
  · have ne : b ≠ C := fun q => by
      have hb : hI2.get? b = some o := hb
      rw [q, hIC] at hb; cases hb
    obtain ⟨sl, e2⟩ := (up.trans up1) b o ((hI b ne).symm.trans hb) hnf
    exact up4 b { cls := o.cls, dict := o.dict, data := o.data, slots := sl } ((sb2 b ne).trans e2) hnf
def NoFree (scope : Scope) : Prop := ∀ x ∈ scope.names, x.2 ≠ NameKind.free
theorem lcE_body {W : WX} (P : Pas X W) {pins : List (Addr × Obj)} {s : Shared} {σ : L2.St} {H : Hp} {Q : VK} {elt tg iter : Expr} {ifs : List Expr} {scope : Scope} {own : List (Str × Nat)} {pos : Pos} {wi : TI} {g : TG} {tt : L2.St → TT} {te : L2.St → TE}
    (calm : X.calm = true) (nd : X.N.Nodup) (I : Inv X pins σ H s) (pi : PI X tg iter wi) (ok : BlkOk X.N X.env.scope scope own) (nf : NoFree scope)
    (pgg : ∀ (s : Shared) (H : Hp) (C : Addr) (cl : List (Str × Addr)) (fp : List Addr) (xe : Value → Shared → Prop), PG (xbk X s H scope C cl fp xe) tg g)
    (ptt : ∀ (σ : L2.St) (s : Shared) (H : Hp) (C : Addr) (cl : List (Str × Addr)) (fp : List Addr) (xe : Value → Shared → Prop), Takes (xbk X s H scope C cl fp xe) (fun k d _ => W k d σ) → Pas (xbk X s H scope C cl fp xe) (fun k d _ => W k d σ) → PTs (xbk X s H scope C cl fp xe) ifs (tt σ))
    (pee : ∀ (σ : L2.St) (s : Shared) (H : Hp) (C : Addr) (cl : List (Str × Addr)) (fp : List Addr) (xe : Value → Shared → Prop), Takes (xbk X s H scope C cl fp xe) (fun k d _ => W k d σ) → Pas (xbk X s H scope C cl fp xe) (fun k d _ => W k d σ) → PE (xbk X s H scope C cl fp xe) elt (te σ))
    (h : tLc wi g (tt σ) (te σ) (own.map (·.2)) σ H Q) (Rp : Value → PySem.Env → Result → Shared → Prop)
    (hok : ∀ D (ce : PySem.Env) s' m H', ce.frame = X.env.frame → Inv X pins σ H' s' → Q (.ref D) H' → s'.heap.Ns ce.locals m → FpOk X pins H' ce.locals → Rp (.ref D) ce (.ok .next) s')
    (herr : ∀ acc (ce : PySem.Env) x s2, ce.frame = X.env.frame → (∃ m, s2.heap.Ns ce.locals m ∧ ∀ h', Heap.SameBut ce.locals s2.heap h' → ∀ (ce : PySem.Env) (Q' : Value → Shared → Prop), ce.frame = X.env.frame → wpAny (model X.prog X.w) X.A (PySem.passOn "comprehension.variables-let-go" x ce) Q' X.xe { s2 with heap := h' }) → Rp acc ce (.error x) s2) :
    wpAny (model X.prog X.w) X.A (eval iter X.env) (fun x s1 => wpAny (model X.prog X.w) X.A (pyIter x) (fun it s2 => wpAny (model X.prog X.w) X.A (newList []) (fun acc s3 => wpAny (model X.prog X.w) X.A (newFunctionEnv scope X.env.globals [] [] X.env.qual none .none (some X.env) X.env.builtins) (fun cenv s4 => codeAny (model X.prog X.w) X.A (.compStart (.ListComp elt [⟨tg, iter, ifs, 0⟩] scope pos) 0 it acc ⟨scope, cenv.locals, cenv.globals, cenv.cells, cenv.qual, cenv.func, cenv.code, cenv.frame, cenv.builtins⟩) (Rp acc cenv) s4) X.xe s3) X.xe s2) X.xe s1) X.xe s := by
  refine thn (pi.run pins s σ H _ I h) fun xv sa hx => thn hx fun itv sb hb => ?_
  obtain ⟨it, fp, tn, J, Hb, e1, Ib, T, stb, fb, q⟩ := hb
  subst e1
  refine wpAny_newObj_type (newEnv_comp ?_)
  generalize eB : sb.heap.objs.size = B
  have nB : Hb B = none := Ib.hok.fresh (Nat.le_of_eq eB)
  obtain ⟨Wt, ⟨m0, w0⟩, turn⟩ := q B nB
  generalize esc : ({ sb with heap := sb.heap.push { cls := .type "list", dict := none, data := .seq ([] : List Value).toArray } } : Shared) = sc
  have hsc : sc.heap = sb.heap.push { cls := .type "list", dict := none, data := .seq ([] : List Value).toArray } := by rw [← esc]
  have Ic : Inv X pins σ (L2.upd Hb B (.lst [])) sc := by
    rw [← esc]
    refine Ib.laid (t' := sb.toks) (fun b o e => Heap.get?_push_of_some _ e) (Nat.le_of_eq eB) ?_
    rw [← eB]
    exact ⟨Nat.zero_le _, [], 0, .nil, Heap.get?_push_size _ rfl⟩
  have small : ∀ b ∈ fp, b < sb.heap.objs.size := fun b hb => by
    obtain ⟨o, eo, _⟩ := T.obj _ _ stb b hb
    exact Heap.lt_size eo
  have fc : ∀ b ∈ fp, FpOk X pins (L2.upd Hb B (.lst [])) b ∧ b < sc.heap.objs.size := fun b hb => by
    have lt := small b hb
    refine ⟨⟨?_, (fb b hb).2⟩, by rw [hsc, Heap.size_push]; exact Nat.lt_succ_of_lt lt⟩
    rw [upd_ne (by rw [← eB]; exact Nat.ne_of_lt lt)]
    exact (fb b hb).1
  have stc : tn 0 sc.heap := T.keep _ _ _ stb fun b _ o eo => by rw [hsc]; exact Heap.get?_push_of_some _ eo
  have Id := block_start Ic ok nd fc
  generalize eHc : L2.upd Hb B (.lst []) = Hc at *
  generalize eC : sc.heap.objs.size = C at *
  rw [clo_nil [] nf] at Id
  generalize ecl : cellsFrom (C + 1) scope.names [] = cl at *
  have hce : (⟨scope, C, X.env.globals, cl, X.env.qual, none, X.env.code, X.env.frame, X.env.builtins⟩ : PySem.Env) = compEnvC scope cl C X.env := by
    unfold compEnvC
    rw [relabel_id nf]
  show codeAny _ _ (.compStart (.ListComp elt [⟨tg, iter, ifs, 0⟩] scope pos) 0 (.ref it) (.ref B) ⟨scope, C, X.env.globals, cl, X.env.qual, none, X.env.code, X.env.frame, X.env.builtins⟩) (Rp (.ref B) ⟨scope, C, X.env.globals, cl, X.env.qual, none, X.env.code, X.env.frame, X.env.builtins⟩) { sc with heap := pushCells (sc.heap.push { cls := .type "dict", data := .dict #[] }) scope.names }
  rw [hce]
  have clear : ∀ b ∈ fp, Hc b = none := fun b hb => (fc b hb).1.1
  obtain ⟨xe, hxe⟩ : ∃ xe : Value → Shared → Prop, xe = notedBy (model X.prog X.w) X.A (compEnvC scope cl C X.env) (fun e s' => Rp (.ref B) (compEnvC scope cl C X.env) (.error e) s') := ⟨_, rfl⟩
  have hC : sc.heap.objs.size ≤ C := Nat.le_of_eq eC
  have tkb : Takes (xbk X sc Hc scope C cl fp xe) (fun k d _ => W k d σ) := fun u s' ⟨a, B2, sI, pins2, σ2, He, cls, d, e1, I2, nb, up, sky, na, os, ag, w⟩ => by
    subst e1
    show xe _ _
    rw [hxe]
    exact err_pass P Ic hC (fun b hb => (fc b hb).1) I2 nb up (SkyA.of_sky sky) na os ag w (M := fun s2 => Rp (.ref B) (compEnvC scope cl C X.env) (.error (.ref a)) s2) fun s2 hs2 => herr _ _ _ s2 rfl hs2
  have pas : Pas (xbk X sc Hc scope C cl fp xe) (fun k d _ => W k d σ) := ⟨P.fr, fun L hL u s' ⟨a, B2, sI, pins2, σ2, He, cls, d, e1, I2, nb, up, hz, na, os, ag, w⟩ => by
    subst e1
    show xe _ _
    rw [hxe]
    obtain ⟨z1, z2, z3, z4⟩ := hz
    exact err_pass P Ic hC (fun b hb => (fc b hb).1) I2 nb up ⟨z1, z2, z3, .inr ⟨_, z4⟩⟩ na os ag w (M := fun s2 => Rp (.ref B) (compEnvC scope cl C X.env) (.error (.ref a)) s2) fun s2 hs2 => herr _ _ _ s2 rfl hs2⟩
  have pg := pgg sc Hc C cl fp xe
  have pt := ptt σ sc Hc C cl fp xe tkb pas
  have pe := pee σ sc Hc C cl fp xe tkb pas
  have Id := Id.toTry xe
  have Id : Inv (xbk X sc Hc scope C cl fp xe) [] (L2.wipe σ (own.map (·.2))) Hc { sc with heap := pushCells (sc.heap.push { cls := .type "dict", data := .dict #[] }) scope.names } := Id
  generalize esd : ({ sc with heap := pushCells (sc.heap.push { cls := .type "dict", data := .dict #[] }) scope.names } : Shared) = sd at Id ⊢
  have std : tn 0 sd.heap := T.keep _ _ _ stc fun b _ o eo => by rw [← esd]; exact pushCells_keeps _ _ _ _ (Heap.get?_push_of_some _ eo)
  have still : ∀ {σz : L2.St} {Hz : Hp} {sz : Shared}, Inv (xbk X sc Hc scope C cl fp xe) [] σz Hz sz → (∀ b ∈ fp, Hz b = none) → ∀ b ∈ fp, FpOk (xbk X sc Hc scope C cl fp xe) [] Hz b := fun {σz Hz sz} Iz hz b hb =>
    ⟨hz b hb, (Iz.ok.exf b hb).1, Iz.ok.exfs b hb, .inl hb, fun x c eo => (Iz.ok.exf b hb).2 x c eo, fun pp hpp => absurd (show pp ∈ ([] : List (Addr × Obj)) ++ [] from hpp) (by simp)⟩
  have loop : codeAny (model X.prog X.w) X.A (.compLoop (.ListComp elt [⟨tg, iter, ifs, 0⟩] scope pos) 0 (.ref it) (.ref B) (compEnvC scope cl C X.env)) (Rp (.ref B) (compEnvC scope cl C X.env)) sd := by
    refine compLoop_any (fun n sz => ∃ i Hz, Inv (xbk X sc Hc scope C cl fp xe) [] (L2.wipe σ (own.map (·.2))) Hz sz ∧ tn i sz.heap ∧ (∀ b ∈ fp, Hz b = none) ∧ Wt i n Hz) ?_ m0 ⟨0, Hc, Id, std, clear, w0⟩
    rintro n se ⟨i, He, Ie, ste, ne, we⟩
    rw [← hxe]
    rcases turn i n He we with ⟨stop, fin⟩ | ⟨go, Go, hGo, step⟩
    · refine thn (T.done (xbk X sc Hc scope C cl fp xe) rfl rfl rfl calm i [] se _ He xe Ie (still Ie ne) ste stop) fun r sf ⟨hr, If⟩ => ?_
      subst hr
      have Ig : Inv X pins σ He sf := Ic.call' (ch := fp) If.os If.base If.hok If.bare fun b hb => ⟨(fc b hb).1.2.2.2.1, (fc b hb).1.2.1, (fc b hb).1.2.2.2.2.1, (fc b hb).1.2.2.2.2.2⟩
      have nC : He C = none := If.free
      obtain ⟨m, hn, _⟩ := If.loc
      exact hok B (compEnvC scope cl C X.env) sf m He rfl Ig fin hn (Ic.fpOk hC nC)
    · refine thn (T.item (xbk X sc Hc scope C cl fp xe) rfl rfl rfl calm i [] se _ He xe Ie (still Ie ne) ste go) fun r sf ⟨u, hr, hf⟩ => ?_
      subst hr
      refine thn hf fun _ sg ⟨x, Hg, Ig, rg, yg, stg, ng⟩ => ?_
      have Ip := Ig.pinned (still Ig ng) (T.obj _ _ stg)
      refine thn (pg.run _ sg _ Hg x u _ Ip rg (step x Hg yg)) fun _ sh ⟨σh, Hh, Ih, hwh, qh⟩ => ?_
      refine thn (pt.run _ sh σh Hh _ Ih qh) fun b si ⟨Hi, Ii, qi⟩ => ?_
      have fin : ∀ {sz : Shared} {Hz : Hp}, Inv (xbk X sc Hc scope C cl fp xe) ([] ++ pinsAt fp sg.heap) σh Hz sz → Go Hz → ∃ m, m < n ∧ ∃ i Hz, Inv (xbk X sc Hc scope C cl fp xe) [] (L2.wipe σ (own.map (·.2))) Hz sz ∧ tn i sz.heap ∧ (∀ b ∈ fp, Hz b = none) ∧ Wt i m Hz := fun {sz Hz} Iz gz => by
        obtain ⟨m2, hm, w2⟩ := hGo Hz gz
        have held : ∀ b ∈ fp, ∀ o, sg.heap.get? b = some o → sz.heap.get? b = some o ∧ Hz b = none := fun b hb o eo =>
          have z := Iz.pin (b, o) (List.mem_append_right _ (List.mem_append_right _ (mem_pinsAt hb eo)))
          ⟨z.1, z.2.1⟩
        have len : (L2.wipe σ (own.map (·.2))).length = σh.length := by rw [← hwh, wipe_length]
        refine ⟨m2, hm, i + 1, Hz, (Iz.unpinned (pins := [])).weak len (fun j v ev => ?_), T.keep _ _ _ stg fun b hb o eo => (held b hb o eo).1, fun b hb => ?_, w2⟩
        · rw [← hwh] at ev
          exact (wipe_some ev).1
        · obtain ⟨o, eo, _⟩ := T.obj _ _ stg b hb
          exact (held b hb o eo).2
      cases b with
      | false =>
        simp only [Bool.false_eq_true, if_false] at qi ⊢
        exact fin Ii qi
      | true =>
        simp only [if_true] at qi ⊢
        refine thn (pe.run _ si σh Hi _ Ii qi) fun z sj ⟨yv, Hj, Ij, rj, acc, hB, room, gg⟩ => ?_
        exact app_ok (X := xbk X sc Hc scope C cl fp xe) Ij hB room rj fun sk Ik => fin Ik gg
  exact codeAny_compStart_list loop (T.self X.A 0 _ _ _ std loop)
theorem lcE_core {W : WX} (P : Pas X W) {pins : List (Addr × Obj)} {s : Shared} {σ : L2.St} {H : Hp} {Q : VK} {pos2 : Pos} {use : Option (Value → Sem Unit)} {Qf : Value → Shared → Prop} {elt tg iter : Expr} {ifs : List Expr} {scope : Scope} {own : List (Str × Nat)} {pos : Pos} {wi : TI} {g : TG} {tt : L2.St → TT} {te : L2.St → TE}
    (calm : X.calm = true) (nd : X.N.Nodup) (I : Inv X pins σ H s) (pi : PI X tg iter wi) (ok : BlkOk X.N X.env.scope scope own) (nf : NoFree scope)
    (pgg : ∀ (s : Shared) (H : Hp) (C : Addr) (cl : List (Str × Addr)) (fp : List Addr) (xe : Value → Shared → Prop), PG (xbk X s H scope C cl fp xe) tg g)
    (ptt : ∀ (σ : L2.St) (s : Shared) (H : Hp) (C : Addr) (cl : List (Str × Addr)) (fp : List Addr) (xe : Value → Shared → Prop), Takes (xbk X s H scope C cl fp xe) (fun k d _ => W k d σ) → Pas (xbk X s H scope C cl fp xe) (fun k d _ => W k d σ) → PTs (xbk X s H scope C cl fp xe) ifs (tt σ))
    (pee : ∀ (σ : L2.St) (s : Shared) (H : Hp) (C : Addr) (cl : List (Str × Addr)) (fp : List Addr) (xe : Value → Shared → Prop), Takes (xbk X s H scope C cl fp xe) (fun k d _ => W k d σ) → Pas (xbk X s H scope C cl fp xe) (fun k d _ => W k d σ) → PE (xbk X s H scope C cl fp xe) elt (te σ)) (hset : ∀ x, foldedSetIterable iter X.env x = pure x)
    (h : tLc wi g (tt σ) (te σ) (own.map (·.2)) σ H Q)
    (post : ∀ D C s' m H', Inv X pins σ H' s' → Q (.ref D) H' → s'.heap.Ns C m → FpOk X pins H' C → compPost (model X.prog X.w) X.A X.xe use Qf (.ref D) C (.ok .next) s') :
    wpAny (model X.prog X.w) X.A (comprehension (.ListComp elt [⟨tg, iter, ifs, 0⟩] scope pos) scope X.env pos2 (newList []) false (eval iter X.env) use) Qf X.xe s := by
  cases use with
  | none =>
    refine wpAny_comprehension rfl hset nf ok.kind (fun y hy ey => by rw [ok.uniq y hy, ey]) ?_
    refine lcE_body P calm nd I pi ok nf pgg ptt pee h (fun acc cenv r s' => ∃ m, s'.heap.Ns cenv.locals m ∧ ∀ h', Heap.SameBut cenv.locals s'.heap h' → match r with | .ok a => Qf acc { s' with heap := h' } | .error x => wpAny (model X.prog X.w) X.A (PySem.passOn "comprehension.variables-let-go" x ⟨scope, cenv.locals, cenv.globals, cenv.cells, cenv.qual, cenv.func, cenv.code, cenv.frame, cenv.builtins⟩) Qf X.xe { s' with heap := h' }) ?_ ?_
    · intro D ce s' m H' _ I2 q hn f
      exact post D ce.locals s' m H' I2 q hn f
    · intro acc ce x s2 hce ⟨m, hn, k⟩
      exact ⟨m, hn, fun h' sb => k h' sb _ Qf hce⟩
  | some u =>
    refine wpAny_comprehension_use rfl hset nf ok.kind (fun y hy ey => by rw [ok.uniq y hy, ey]) ?_
    refine lcE_body P calm nd I pi ok nf pgg ptt pee h (fun acc cenv r s' => match r with | .ok a => wpAny (model X.prog X.w) X.A (u acc) (fun _ s'' => ∃ m, s''.heap.Ns cenv.locals m ∧ ∀ h', Heap.SameBut cenv.locals s''.heap h' → Qf .none { s'' with heap := h' }) X.xe s' | .error x => ∃ m, s'.heap.Ns cenv.locals m ∧ ∀ h', Heap.SameBut cenv.locals s'.heap h' → wpAny (model X.prog X.w) X.A (PySem.passOn "comprehension.variables-let-go" x ⟨scope, cenv.locals, cenv.globals, cenv.cells, cenv.qual, cenv.func, cenv.code, cenv.frame, cenv.builtins⟩) Qf X.xe { s' with heap := h' }) ?_ ?_
    · intro D ce s' m H' _ I2 q hn f
      exact post D ce.locals s' m H' I2 q hn f
    · intro acc ce x s2 hce ⟨m, hn, k⟩
      exact ⟨m, hn, fun h' sb => k h' sb _ Qf hce⟩
theorem pe_lcE {W : WX} (P : Pas X W) {elt tg iter : Expr} {ifs : List Expr} {scope : Scope} {own : List (Str × Nat)} {pos : Pos} {wi : TI} {g : TG} {tt : L2.St → TT} {te : L2.St → TE}
    (calm : X.calm = true) (nd : X.N.Nodup) (pi : PI X tg iter wi) (ok : BlkOk X.N X.env.scope scope own) (nf : NoFree scope)
    (pgg : ∀ (s : Shared) (H : Hp) (C : Addr) (cl : List (Str × Addr)) (fp : List Addr) (xe : Value → Shared → Prop), PG (xbk X s H scope C cl fp xe) tg g)
    (ptt : ∀ (σ : L2.St) (s : Shared) (H : Hp) (C : Addr) (cl : List (Str × Addr)) (fp : List Addr) (xe : Value → Shared → Prop), Takes (xbk X s H scope C cl fp xe) (fun k d _ => W k d σ) → Pas (xbk X s H scope C cl fp xe) (fun k d _ => W k d σ) → PTs (xbk X s H scope C cl fp xe) ifs (tt σ))
    (pee : ∀ (σ : L2.St) (s : Shared) (H : Hp) (C : Addr) (cl : List (Str × Addr)) (fp : List Addr) (xe : Value → Shared → Prop), Takes (xbk X s H scope C cl fp xe) (fun k d _ => W k d σ) → Pas (xbk X s H scope C cl fp xe) (fun k d _ => W k d σ) → PE (xbk X s H scope C cl fp xe) elt (te σ)) (hset : ∀ x, foldedSetIterable iter X.env x = pure x) :
    PE X (.ListComp elt [⟨tg, iter, ifs, 0⟩] scope pos) (fun σ H Q => tLc wi g (tt σ) (te σ) (own.map (·.2)) σ H Q) := by
  constructor
  intro pins s σ H Q I h
  rw [eval_ListComp]
  refine lcE_core P calm nd I pi ok nf pgg ptt pee hset h fun D C sz m Hz Iz q hn f => ⟨m, hn, fun hh sb => ?_⟩
  obtain ⟨z0, z1, z2, z3, z4, z5⟩ := f
  exact ⟨.ref D, Hz, Iz.turned (t' := sz.toks) (fun b o hb e => (sb.2 b hb).trans e) z0 z1 z3 z4 z5, rfl, q⟩
theorem ps_setLcE {W : WX} (P : Pas X W) {i : Nat} {y : Str} {py spos : Pos} {elt tg iter : Expr} {ifs : List Expr} {scope : Scope} {own : List (Str × Nat)} {pos : Pos} {wi : TI} {g : TG} {tt : L2.St → TT} {te : L2.St → TE}
    (calm : X.calm = true) (nd : X.N.Nodup) (pi : PI X tg iter wi) (ok : BlkOk X.N X.env.scope scope own) (nf : NoFree scope)
    (pgg : ∀ (s : Shared) (H : Hp) (C : Addr) (cl : List (Str × Addr)) (fp : List Addr) (xe : Value → Shared → Prop), PG (xbk X s H scope C cl fp xe) tg g)
    (ptt : ∀ (σ : L2.St) (s : Shared) (H : Hp) (C : Addr) (cl : List (Str × Addr)) (fp : List Addr) (xe : Value → Shared → Prop), Takes (xbk X s H scope C cl fp xe) (fun k d _ => W k d σ) → Pas (xbk X s H scope C cl fp xe) (fun k d _ => W k d σ) → PTs (xbk X s H scope C cl fp xe) ifs (tt σ))
    (pee : ∀ (σ : L2.St) (s : Shared) (H : Hp) (C : Addr) (cl : List (Str × Addr)) (fp : List Addr) (xe : Value → Shared → Prop), Takes (xbk X s H scope C cl fp xe) (fun k d _ => W k d σ) → Pas (xbk X s H scope C cl fp xe) (fun k d _ => W k d σ) → PE (xbk X s H scope C cl fp xe) elt (te σ)) (hset : ∀ x, foldedSetIterable iter X.env x = pure x)
    (hy : X.N[i]? = some y) (hyl : X.env.scope.names.lookup y = some .local) (hsw : swapsWith (.ListComp elt [⟨tg, iter, ifs, 0⟩] scope pos) (some (.Name y py)) spos.line X.env = pure true) :
    PS X (.Assign [.Name y py] (.ListComp elt [⟨tg, iter, ifs, 0⟩] scope pos) spos) (tAsg (fun σ H Q => tLc wi g (tt σ) (te σ) (own.map (·.2)) σ H Q) (gName i)) := by
  constructor
  intro pins s σ H D I h
  unfold tAsg at h
  have run := lcE_core (pos := pos) P calm nd I pi ok nf pgg ptt pee hset h (pos2 := firstIterPos [⟨tg, iter, ifs, 0⟩] pos) (use := some (assign (.Name y py) X.env)) (Qf := fun _ s' => SP X pins D .next s') fun L C s1 m G J q at_ own =>
    wpAny_assign_Name (store_ok2 (v := V.ref L) J nd hy (.inl hyl) rfl (fun s2 J2 ⟨a, same, which⟩ => ⟨m, at_.sameBut same (which.elim (fun e => e ▸ own.2.1) fun e q => own.2.2.2.2.1 y a e q.symm), fun h3 same3 =>
      ⟨σ.set i (some (.ref L)), G, J2.turned (fun b o ne e => same3.extBut b o ne e) own.1 own.2.1 own.2.2.2.1 own.2.2.2.2.1 own.2.2.2.2.2, q⟩⟩) (.inr hyl))
  rw [exec_Assign_Name_used y py _ spos hsw]
  exact wpAny_bind (wpAny_standAt (wpAny_bind (wpAny_bind (thn run fun x s' q => wpAny_pure (wpAny_pure q)))))
end
end Rf
set_option Elab.async false
set_option linter.all false
set_option maxRecDepth 100000
set_option maxHeartbeats 4000000
namespace Rf
open PySem PySem.Spec PyProof.Rows L2
def spF (K : PySem.W.Frag) (ca : Nat → Addr) (f : Fn) : Sp := fun vs H Q E => ∃ ds G, ds.length = f.ar ∧ Same G H ∧ DpAll K G vs ds ∧ PoG (Dp K) ⟨K, ca, fun cls d _ H => E cls d H, none, fun _ => 0⟩ [] G H (f.m ds) Q
structure Wd where
  P : Program
  w : World
  K : PySem.W.Frag
  mg : Str → Option Value
  base : Heap
  ca : Nat → Addr
/-- the def stands and keeps its promise -/
def Fok (Z : Wd) (k : Nat) (f : Fn) : Prop := ∃ fa fd ps, FnOk Z.P Z.w Z.K Z.mg Z.base (L2.CX Z.P Z.w) k fa fd ps (spF Z.K Z.ca f) ∧ ps.length = f.ar ∧ Z.mg f.name = some (.ref fa) ∧ PySem.W.keepIn Z.K (.ref fa) = true ∧ L2.Binds Z.K fd ps []
/-- a call with keywords -/
def Sok (Z : Wd) (k : Nat) (f : Fn) (s : Nat × Nat × List Str × (List D → List D → List D)) : Prop := ∃ fa fd ps g gV, FnOk Z.P Z.w Z.K Z.mg Z.base (L2.CX Z.P Z.w) k fa fd ps (spF Z.K Z.ca f) ∧ ps.length = f.ar ∧ Z.mg f.name = some (.ref fa) ∧ PySem.W.keepIn Z.K (.ref fa) = true ∧
  KBn Z.K fd ps s.2.1 s.2.2.1 g gV ∧ ∀ G vs ds zs es, DpAll Z.K G vs ds → DpAll Z.K G zs es → ds.length = s.2.1 → es.length = s.2.2.1.length → DpAll Z.K G (gV vs zs) (s.2.2.2 ds es) ∧ (s.2.2.2 ds es).length = f.ar
/-- a heap without one address -/
def delH (H : Hp) (a : Addr) : Hp := fun b => if b = a then none else H b
/-- what a def keeps that writes its first argument, a dict -/
def spB (K : PySem.W.Frag) (f : Fn) : Sp := fun vs H Q _ => ∃ (a : Addr) (ws : List V) (xs : List (Key × V)) (ps : List (D × D)) (ds : List D) (G : Hp), vs = .ref a :: ws ∧ ds.length + 1 = f.ar ∧ Same G H ∧ G a = none ∧ H a = some (.dK xs) ∧ DpKv K G xs ps ∧ DpAll K G ws ds ∧
  ∃ d ps', f.m (.dict ps :: ds) = .ok (.tuple [d, .dict ps']) ∧ ∀ u xs' G' H', Stp G (delH H a) G' H' → Dp K G' u d → H' a = some (.dK xs') → G' a = none → DpKv K G' xs' ps' → Q u H'
def Mok (Z : Wd) (k : Nat) (f : Fn) : Prop := ∃ fa fd ps, FnOk Z.P Z.w Z.K Z.mg Z.base (L2.CX Z.P Z.w) k fa fd ps (spB Z.K f) ∧ ps.length = f.ar ∧ Z.mg f.name = some (.ref fa) ∧ PySem.W.keepIn Z.K (.ref fa) = true ∧ L2.Binds Z.K fd ps []
def bnames : List Str := ["len", "sum", "all", "any", "abs", "max", "min", "tuple", "list", "int", "bool", "str", "isinstance", "range", "enumerate", "zip", "sorted", "set", "dict", "ValueError"]
/-- a class of refusals of the program's own, below ValueError -/
structure Xok (Z : Wd) (C : Addr) (x : Str) : Prop where
  mg : Z.mg x = some (.ref C)
  xi : x ≠ ("NoRoom" : Str) → PySem.W.excIn Z.K C [.type "ValueError", .type "Exception", .type "BaseException", .type "object"] "ValueError.__new__" = true
  kp : PySem.W.keepIn Z.K (.ref C) = true
  sb : PySem.W.subIn Z.K (.ref C) (.type "BaseException") = some true
  ty : PySem.W.typeIn Z.K (.ref C) = some (.type "type")
  ve : PySem.W.kitOne Z.K (.ref C) (.type "ValueError") = some true
  ec : ExcC Z.K C
structure Tok (T : Tb) (Z : Wd) (k : Nat) : Prop where
  cls : ∀ (i : Nat) x, T.cls[i]? = some x → Xok Z (Z.ca i) x
  isa : ∀ i j, i < T.cls.length → j < T.cls.length → PySem.W.kitOne Z.K (.ref (Z.ca i)) (.ref (Z.ca j)) = some (T.isa i j) ∧ PySem.W.exmOne Z.K (.ref (Z.ca i)) (.ref (Z.ca j)) = some (T.isa i j)
  fns : ∀ (i : Nat) f, T.fns[i]? = some f → f.pl = true → Fok Z k f
  shs : ∀ (i : Nat) s f, T.shs[i]? = some s → T.fns[s.1]? = some f → Sok Z k f s
  gls : ∀ (i : Nat) p, T.gls[i]? = some p → ∃ v u, Z.mg p.1 = some u ∧ RelV v u ∧ ∀ G, Dp Z.K G v p.2
  blt : ∀ f ∈ bnames, Z.mg f = none
  mus : ∀ i, T.mus.contains i = true → ∃ f, T.fns[i]? = some f ∧ Mok Z k f
theorem Fok.mono {Z : Wd} {j k : Nat} {f : Fn} (h : Fok Z j f) (hk : j ≤ k) : Fok Z k f := by
  obtain ⟨fa, fd, ps, F, r⟩ := h
  exact ⟨fa, fd, ps, F.mono hk, r⟩
theorem Mok.mono {Z : Wd} {j k : Nat} {f : Fn} (h : Mok Z j f) (hk : j ≤ k) : Mok Z k f := by
  obtain ⟨fa, fd, ps, F, r⟩ := h
  exact ⟨fa, fd, ps, F.mono hk, r⟩
theorem Sok.mono {Z : Wd} {j k : Nat} {f : Fn} {s} (h : Sok Z j f s) (hk : j ≤ k) : Sok Z k f s := by
  obtain ⟨fa, fd, ps, g, gV, F, r⟩ := h
  exact ⟨fa, fd, ps, g, gV, F.mono hk, r⟩
abbrev zOf (c : Cw) (X : Cx) : Wd := ⟨X.prog, X.w, X.K, X.mg, X.base, c.ca⟩
structure Okx (T : Tb) (c : Cw) (k : Nat) (hot : Bool) (X : Cx) : Prop where
  hK : c.K = X.K
  nd : X.N.Nodup
  tk : Takes X c.W
  rm : hot = false → Room k X.A
  cm : hot = false → X.calm = true
  hu : X.A.units + 65 < cLine
  isE : ∀ a e, c.xa = some (a, e) → hot = true → e.1 < T.cls.length → CallR X (.builtin "isinstance") (rIsE X.K (c.ca e.1) a)
  tb : Tok T (zOf c X) k
  ps : Pas X c.W
def ndb (x : Str) : Bool := !(x == ("__debug__" : Str)) && !(x == ("__classdict__" : Str))
def visB (sc : Scope) (x : Str) : Bool := match sc.names.lookup x with | some .local => true | some .cell => true | some .free => true | _ => false
def locB (sc : Scope) (x : Str) : Bool := match sc.names.lookup x with | some .local => true | _ => false
def glB (sc : Scope) (x : Str) : Bool := match sc.names.lookup x with | some .globalImplicit => true | _ => false
def plE : Expr → Bool
  | .Starred .. => false
  | .Set .. => false
  | .Slice .. => false
  | _ => true
def abE : Expr → Bool
  | .Call (.Name _ _) [] [] _ => false
  | _ => true
def cstB : D → Const → Bool
  | .none, .none => true
  | .bool b, .bool c => decide (b = c)
  | .int i, .int j => decide (i = j)
  | .str x, .str y => decide (x = y)
  | _, _ => false
def opB : Operator → Operator → Bool
  | .Add, .Add => true | .Sub, .Sub => true | .Mult, .Mult => true | .FloorDiv, .FloorDiv => true | .Mod, .Mod => true | .Pow, .Pow => true
  | _, _ => false
def coB : CmpOp → CmpOp → Bool
  | .Eq, .Eq => true | .NotEq, .NotEq => true | .Lt, .Lt => true | .LtE, .LtE => true | .Gt, .Gt => true | .GtE, .GtE => true
  | .Is, .Is => true | .IsNot, .IsNot => true | .In, .In => true | .NotIn, .NotIn => true
  | _, _ => false
theorem opB_eq {a b : Operator} (h : opB a b = true) : a = b := by cases a <;> cases b <;> first | rfl | cases h
theorem coB_eq {a b : CmpOp} (h : coB a b = true) : a = b := by cases a <;> cases b <;> first | rfl | cases h
def tupB : Expr → Bool
  | .Tuple .. => true
  | _ => false
def lcB (sc : Scope) (fn : Str → Bool) (x : Str) : Bool := match sc.names.lookup x with | some .local => true | some .cell => fn x | _ => false
def Tg.chk (N : List Str) (sc : Scope) (fn : Str → Bool) : Tg → Expr → Bool
  | .nm i, x => match x with | .Name x _ => decide (N[i]? = some x) && lcB sc fn x | _ => false
  | .t2 a b, x => match x with | .Tuple [e, f] _ _ => plT e && plT f && a.chk N sc fn e && b.chk N sc fn f | _ => false
  | .t3 a b c, x => match x with | .Tuple [e, f, g] _ _ => plT e && plT f && plT g && a.chk N sc fn e && b.chk N sc fn f && c.chk N sc fn g | _ => false
  | .t4 a b c d, x => match x with | .Tuple [e, f, g, h] _ _ => plT e && plT f && plT g && plT h && a.chk N sc fn e && b.chk N sc fn f && c.chk N sc fn g && d.chk N sc fn h | _ => false
def ownP (N : List Str) (own : List Nat) : List (Str × Nat) := own.map fun i => (N.getD i default, i)
def Es.len : Es → Nat
  | .nil => 0
  | .cons _ es => es.len + 1
def keyS : Option Expr → Option Str
  | some (.Constant (.str k) _ _) => some k
  | _ => none
def tyB (t : String) : Bool := ["int", "bool", "str", "list", "tuple"].contains t
def coolB : Bf → Bool
  | .len => true | .abs => true | .tuple => true | .list => true | .int => true
  | _ => false
/-- what a loop walks, by its form: the parts that are asked -/
def itForm (k : It) (tg : Expr) (sc : Scope) (iter : Expr) : Option (List Expr) := match k with
  | .seq => some [iter]
  | .rng => (match iter with | .Call (.Name y _) (l :: ls) [] _ => if (decide (y = ("range" : Str)) && glB sc y && decide ((l :: ls).length ≤ 3)) = true then some (l :: ls) else none | _ => none)
  | .enum => (match iter with | .Call (.Name y _) [l] [] _ => if (decide (y = ("enumerate" : Str)) && glB sc y && tupB tg) = true then some [l] else none | _ => none)
  | .zip => (match iter with | .Call (.Name y _) (l :: ls) [] _ => if (decide (y = ("zip" : Str)) && glB sc y && tupB tg && decide (2 ≤ (l :: ls).length ∧ (l :: ls).length ≤ 3)) = true then some (l :: ls) else none | _ => none)
  | .str => none
  | .ez => (match iter with | .Call (.Name y _) [.Call (.Name z _) [a, b] [] _] [] _ => if (decide (y = ("enumerate" : Str)) && glB sc y && decide (z = ("zip" : Str)) && glB sc z && tupB tg) = true then some [a, b] else none | _ => none)
mutual
def E.chk (T : Tb) (hot : Bool) : E → List Str → Scope → Expr → Bool
  | .var i, N, sc, x => match x with | .Name x _ => decide (N[i]? = some x) && visB sc x && ndb x | _ => false
  | .cst d, _, _, x => match x with | .Constant c _ _ => cstB d c | _ => false
  | .glb i, _, sc, x => match x with | .Name x _ => glB sc x && ndb x && decide (T.gls[i]?.map (·.1) = some x) | _ => false
  | .bin o a b, N, sc, x => match x with | .BinOp l p r _ => opB o p && a.chk T hot N sc l && b.chk T hot N sc r | _ => false
  | .neg a, N, sc, x => match x with | .UnaryOp .USub l _ => a.chk T hot N sc l | _ => false
  | .nt a, N, sc, x => match x with | .UnaryOp .Not l _ => a.chk T hot N sc l | _ => false
  | .and a b, N, sc, x => match x with | .BoolOp .And (l :: r :: rs) pos => a.chk T hot N sc l && b.chk T hot N sc (match rs with | [] => r | _ => .BoolOp .And (r :: rs) pos) | _ => false
  | .or a b, N, sc, x => match x with | .BoolOp .Or (l :: r :: rs) pos => a.chk T hot N sc l && b.chk T hot N sc (match rs with | [] => r | _ => .BoolOp .Or (r :: rs) pos) | _ => false
  | .cmp o a b, N, sc, x => match x with | .Compare l [p] [r] _ => coB o p && plE r && a.chk T hot N sc l && b.chk T hot N sc r | _ => false
  | .chn o o2 a b c, N, sc, x => match x with | .Compare l [p, p2] [r, r2] _ => coB o p && coB o2 p2 && plE r2 && a.chk T hot N sc l && b.chk T hot N sc r && c.chk T hot N sc r2 | _ => false
  | .ite c a b, N, sc, x => match x with | .IfExp t l r _ => c.chk T hot N sc t && a.chk T hot N sc l && b.chk T hot N sc r | _ => false
  | .tup es, N, sc, x => match x with | .Tuple l _ _ => es.chk T hot N sc l && decide (es.len ≤ 1000) | _ => false
  | .lst es, N, sc, x => match x with | .List l _ => es.chk T hot N sc l && decide (es.len ≤ 1000) | _ => false
  | .idx a i, N, sc, x => match x with | .Subscript l r _ => plE r && a.chk T hot N sc l && i.chk T hot N sc r | _ => false
  | .vdx v i, N, sc, x => match x with | .Subscript (.Name x _) r _ => plE r && decide (N[v]? = some x) && visB sc x && ndb x && i.chk T hot N sc r | _ => false
  | .vln v, N, sc, x => match x with | .Call (.Name f _) [.Name x _] [] _ => decide (f = ("len" : Str)) && glB sc f && decide (N[v]? = some x) && visB sc x && ndb x | _ => false
  | .sl01 a h, N, sc, x => match x with | .Subscript l (.Slice none (some y) none _) _ => a.chk T hot N sc l && h.chk T hot N sc y | _ => false
  | .sl10 a h, N, sc, x => match x with | .Subscript l (.Slice (some y) none none _) _ => a.chk T hot N sc l && h.chk T hot N sc y | _ => false
  | .sl11 a h i, N, sc, x => match x with | .Subscript l (.Slice (some y) (some z) none _) _ => a.chk T hot N sc l && h.chk T hot N sc y && i.chk T hot N sc z | _ => false
  | .rev a, N, sc, x => match x with | .Subscript l (.Slice none none (some (.UnaryOp .USub (.Constant (.int 1) _ _) _)) _) _ => a.chk T hot N sc l | _ => false
  | .lrg1 tp a, N, sc, x => match x with | .Call (.Name y _) [.Call (.Name z _) [l] [] _] [] _ => !hot && decide (y = (if tp = true then ("tuple" : Str) else "list")) && glB sc y && decide (z = ("range" : Str)) && glB sc z && plE l && a.chk T hot N sc l | _ => false
  | .lrg2 tp a b, N, sc, x => match x with | .Call (.Name y _) [.Call (.Name z _) [l, r] [] _] [] _ => !hot && decide (y = (if tp = true then ("tuple" : Str) else "list")) && glB sc y && decide (z = ("range" : Str)) && glB sc z && plE l && plE r && a.chk T hot N sc l && b.chk T hot N sc r | _ => false
  | .bcl f es, N, sc, x => match x with | .Call (.Name y _) (l :: ls) [] _ => (!hot || coolB f) && decide (y = Str.ofString f.nm) && glB sc y && es.chk T hot N sc (l :: ls) | _ => false
  | .fcl i es, N, sc, x => match x with | .Call (.Name y _) (l :: ls) [] _ => !hot && decide (T.fns[i]?.map (fun f => (f.name, f.ar, f.pl)) = some (y, es.len, true)) && glB sc y && ndb y && es.chk T hot N sc (l :: ls) | _ => false
  | .kcl i sh es ks, N, sc, x => match x with | .Call (.Name y _) (l :: ls) kw _ => !hot && decide (T.fns[i]?.map (·.name) = some y) && decide (T.shs[sh]?.map (fun s => (s.1, s.2.1, s.2.2.1)) = some (i, es.len, kw.filterMap (·.arg))) && kw.all (fun q => q.arg.isSome) && decide (ks.len = (kw.filterMap (·.arg)).length) && glB sc y && ndb y && es.chk T hot N sc (l :: ls) && ks.chk T hot N sc (kw.map (·.value)) | _ => false
  | .met m a es, N, sc, x => match x with | .Call (.Attribute l y ap) (r :: rs) [] cp => decide (y = Str.ofString m.nm) && (ap.endLine == cp.line) && abE l && decide (es.len < 20) && a.chk T hot N sc l && es.chk T hot N sc (r :: rs) | _ => false
  | .isi a t, N, sc, x => match x with | .Call (.Name y _) [l, .Name z _] [] _ => decide (y = ("isinstance" : Str)) && glB sc y && decide (z = Str.ofString t) && glB sc z && tyB t && plE l && a.chk T hot N sc l | _ => false
  | .isx v cl, N, sc, x => match x with | .Call (.Name y _) [.Name e _, .Name z _] [] _ => hot && decide (y = ("isinstance" : Str)) && glB sc y && decide (N[v]? = some e) && visB sc e && ndb e && decide (T.cls[cl]? = some z) && glB sc z && ndb z | _ => false
  | .isv v, N, sc, x => match x with | .Call (.Name y _) [.Name e _, .Name z _] [] _ => hot && decide (y = ("isinstance" : Str)) && glB sc y && decide (N[v]? = some e) && visB sc e && ndb e && decide (z = ("ValueError" : Str)) && glB sc z | _ => false
  | .cmpr e t k is c own, N, sc, x => match x with
    | .ListComp elt [⟨tg, iter, ifs, 0⟩] scope _ => !hot && blkC N sc scope (ownP N own) && t.slots.all (own.contains ·) && t.chk N (relS scope sc) (fun x => scope.names.lookup x == some .cell) tg && plE iter &&
      (match itForm k tg sc iter with | some l => is.chk T hot N sc l | none => false) && c.chk T hot N (relS scope sc) ifs && decide (c.len ≤ 1) && e.chk T hot N (relS scope sc) elt
    | _ => false
  | .cme e t k is own, N, sc, x => match x with
    | .ListComp elt [⟨tg, iter, [], 0⟩] scope _ => !hot && blkC N sc scope (ownP N own) && t.slots.all (own.contains ·) && t.chk N (relS scope sc) (fun x => scope.names.lookup x == some .cell) tg && plE iter &&
      (match itForm k tg sc iter with | some l => is.chk T hot N sc l | none => false) && scope.names.all (fun x => x.2 != .free) && e.chk T hot N (relS scope sc) elt
    | _ => false
  | .dsp ks es, N, sc, x => match x with | .Dict keys vals _ => decide (keys.map keyS = ks.map some) && (decide (es.len = ks.length) && (decide (ks.length ≤ 15) && (!ks.isEmpty && es.chk T hot N sc vals))) | _ => false
  | .sst e, N, sc, x => match x with | .Call (.Name y _) [.Call (.Name z _) [l] [] _] [] _ => !hot && decide (y = ("sorted" : Str)) && glB sc y && decide (z = ("set" : Str)) && glB sc z && plE l && e.chk T hot N sc l | _ => false
  | .ssc ln e t k is own, N, sc, x => match x with
    | .Call (.Name y _) [.SetComp elt [⟨tg, iter, [], 0⟩] scope _] [] _ => !hot && decide (y = (if ln = true then ("len" : Str) else "sorted")) && glB sc y && blkC N sc scope (ownP N own) && t.slots.all (own.contains ·) && t.chk N (relS scope sc) (fun x => scope.names.lookup x == some .cell) tg && plE iter &&
      (match itForm k tg sc iter with | some l => is.chk T hot N sc l | none => false) && e.chk T hot N (relS scope sc) elt
    | _ => false
  | .cm2 e t k is t1 k1 is1 own own1, N, sc, x => match x with
    | .ListComp elt [⟨tg, iter, [], 0⟩, ⟨tg1, iter1, [], 0⟩] scope _ => !hot && blkC N sc scope (ownP N own) && t.slots.all (own.contains ·) && t1.slots.all (own1.contains ·) && own1.all (own.contains ·) && t.chk N (relS scope sc) (fun x => scope.names.lookup x == some .cell) tg && plE iter &&
      (match itForm k tg sc iter with | some l => is.chk T hot N sc l | none => false) && t1.chk N (relS scope sc) (fun x => scope.names.lookup x == some .cell) tg1 && plE iter1 &&
      (match itForm k1 tg1 (relS scope sc) iter1 with | some l => is1.chk T hot N (relS scope sc) l | none => false) && e.chk T hot N (relS scope sc) elt
    | _ => false
def Es.chk (T : Tb) (hot : Bool) : Es → List Str → Scope → List Expr → Bool
  | .nil, _, _, x => match x with | [] => true | _ => false
  | .cons e es, N, sc, x => match x with | y :: ys => plE y && e.chk T hot N sc y && es.chk T hot N sc ys | _ => false
end
end Rf
set_option Elab.async false
set_option linter.all false
set_option maxRecDepth 100000
set_option maxHeartbeats 4000000
namespace Rf
open PySem PySem.Spec PyProof.Rows L2
section
variable {X : Cx} {c : Cw}
theorem starB {e : Expr} {es : List Expr} {env : PySem.Env} (h : plE e = true) : starEach (e :: es) env = (false, eval e env) :: starEach es env := by
  cases e <;> first | rfl | cases h
theorem plIx {e : Expr} (h : plE e = true) : PlainIx e := by
  cases e <;> first | (intro _ _; rfl) | cases h
theorem nomB {e : Expr} (o : CmpOp) (h : plE e = true) : behindInMarks o e = false := by
  cases e <;> first | rfl | cases h
theorem nomL {e f : Expr} (o p : CmpOp) (h : plE f = true) : lastMarks [o, p] [e, f] = false := by
  show lastMarks [p] [f] = false
  show behindInMarks p f = false
  exact nomB p h
theorem setI {e : Expr} {env : PySem.Env} (h : plE e = true) : ∀ x, foldedSetIterable e env x = pure x := by
  intro x
  cases e <;> first | rfl | cases h
theorem abB {e : Expr} {a : Str} {env : PySem.Env} (h : abE e = true) : attributeBase e a env (eval e env) = eval e env := by
  unfold attributeBase
  cases e with
  | Call f as ks pos =>
    cases f with
    | Name x p =>
      cases as with
      | nil =>
        cases ks with
        | nil => cases h
        | cons => rfl
      | cons => rfl
    | _ => rfl
  | _ => rfl
theorem ndb1 {x : Str} (h : ndb x = true) : (x == ("__debug__" : Str)) = false ∧ (x == ("__classdict__" : Str)) = false := by
  unfold ndb at h
  rw [Bool.and_eq_true, Bool.not_eq_true', Bool.not_eq_true'] at h
  exact h
theorem visV {sc : Scope} {x : Str} (h : visB sc x = true) : Vis sc x := by
  unfold visB at h
  split at h
  · exact .inl (by assumption)
  · exact .inr (.inl (by assumption))
  · exact .inr (.inr (by assumption))
  · cases h
theorem glG {X : Cx} {x : Str} (h : glB X.env.scope x = true) : Gl X x := by
  unfold glB at h
  split at h
  · assumption
  · cases h
theorem pE_var {i : Nat} {x : Str} {pos : Pos} (hi : X.N[i]? = some x) (hv : Vis X.env.scope x) (hd : ndb x = true) : PE X (.Name x pos) (tE c fun ρ => varD ρ[i]?) := by
  refine PE.mono (pe_var hi hv (ndb1 hd).1 (ndb1 hd).2) fun σ H Q ⟨ρ, G, sg, e, p⟩ => ?_
  try dsimp only at p
  cases q : ρ[i]? with
  | none => rw [q] at p; exact p.elim
  | some s =>
    rw [q] at p
    obtain ⟨v, ev, r⟩ := e.get q
    cases s with
    | fz d =>
      obtain ⟨u, e1, rd⟩ := r
      subst e1
      exact ⟨u, ev, p u G H (Stp.refl sg) rd⟩
    | un => exact (show False from p).elim
    | ow ds => exact (show False from p).elim
    | nw => exact (show False from p).elim
    | xn y => exact (show False from p).elim
    | pt y => exact (show False from p).elim
    | od m y => exact (show False from p).elim
/-- a slot, an owned list too, for a look -/
theorem lookV {i : Nat} {x : Str} (hi : X.N[i]? = some x) (hv : Vis X.env.scope x) (hd : ndb x = true) {σ : L2.St} {H G : Hp} {ρ : Env} {d : D} (sg : Same G H) (e : EnvR c.kx G H ρ σ) (hl : lookD ρ[i]? = .ok d) {Q : VK}
    (q : ∀ u, (∃ v, u = v ∧ (Dp c.K G u d ∨ (∃ a vs ds, u = .ref a ∧ d = .list ds ∧ H a = some (.lst vs) ∧ G a = none ∧ DpAll c.K G vs ds) ∨ ∃ a xs ps, u = .ref a ∧ d = .dict ps ∧ H a = some (.dK xs) ∧ DpKv c.K G xs ps)) → Q u H) : tVar i σ H Q := by
  cases z : ρ[i]? with
  | none => rw [z] at hl; cases hl
  | some s =>
    rw [z] at hl
    obtain ⟨v, ev, r⟩ := e.get z
    cases s with
    | fz d' =>
      obtain ⟨u, e1, rd⟩ := r
      subst e1
      injection hl with hl
      subst hl
      exact ⟨u, ev, q u ⟨u, rfl, .inl rd⟩⟩
    | ow ds =>
      obtain ⟨a, vs, e1, hA, gA, rd⟩ := r
      subst e1
      injection hl with hl
      subst hl
      exact ⟨.ref a, ev, q _ ⟨_, rfl, .inr (.inl ⟨a, vs, ds, rfl, rfl, hA, gA, rd⟩)⟩⟩
    | od m ps =>
      obtain ⟨a, xs, e1, hA, gA, rd, _⟩ := r
      subst e1
      injection hl with hl
      subst hl
      exact ⟨.ref a, ev, q _ ⟨_, rfl, .inr (.inr ⟨a, xs, ps, rfl, rfl, hA, rd⟩)⟩⟩
    | un => cases hl
    | nw => cases hl
    | xn y => cases hl
    | pt y => cases hl
theorem pE_bin (hK : c.K = X.K) {a b : Expr} {ra rb : Env → Rs D} {o : Operator} {pos : Pos} (ha : PE X a (tE c ra)) (hb : PE X b (tE c rb)) : PE X (.BinOp a o b pos) (tE c fun ρ => (ra ρ).bind fun x => (rb ρ).bind fun y => (binD o x y).quiet) := by
  refine PE.mono (pe_op (oBin o) ha hb) fun σ H Q ⟨ρ, G, sg, e, p⟩ => ?_
  try dsimp only at p
  refine tG.first sg e p fun d u G1 H1 s1 e1 st rd p1 => ?_
  refine tG.first s1 e1 p1 fun d2 u2 G2 H2 s2 e2 st2 rd2 p2 => ?_
  rw [hK] at rd rd2
  exact ⟨d, d2, G2, s2, Dp_mono st2.gg rd, rd2, by rw [← hK]; exact PoG.q p2⟩
theorem pE_neg (hK : c.K = X.K) {a : Expr} {ra : Env → Rs D} {pos : Pos} (ha : PE X a (tE c ra)) : PE X (.UnaryOp .USub a pos) (tE c fun ρ => (ra ρ).bind fun x => (negD x).quiet) := by
  refine PE.mono (pe_un oNeg ha) fun σ H Q ⟨ρ, G, sg, e, p⟩ => ?_
  try dsimp only at p
  refine tG.first sg e p fun d u G1 H1 s1 e1 st rd p1 => ?_
  rw [hK] at rd
  exact ⟨d, G1, s1, rd, by rw [← hK]; exact PoG.q p1⟩
/-- a value that is a truth -/
theorem PoG.asB {α β : Type} {R : Hp → β → α → Prop} {σ : L2.St} {G H : Hp} {d : D} {f : Bool → Rs α} {Q : β → Hp → Prop} (p : PoG R c σ G H ((asB d).bind f) Q) : ∃ b, d = .bool b ∧ PoG R c σ G H (f b) Q := by
  cases d with
  | bool b => exact ⟨b, rfl, p⟩
  | _ => exact p.elim
theorem dp_bool {K : PySem.W.Frag} {G : Hp} {u : V} {b : Bool} (h : Dp K G u (.bool b)) : u = .bl b := by cases h; rfl
theorem PT.of_v {e : Expr} {r : Env → Rs D} (h : PT X e (L2.tB (tE c r))) : PT X e (tTs c r) := by
  refine PT.mono h fun σ H Q ⟨ρ, G, sg, e, p⟩ => ?_
  try dsimp only at p
  refine tG.first sg e p fun d u G1 H1 s1 e1 st rd p1 => ?_
  have p1 : PoG (fun _ b b' => b' = b) c σ G1 H1 ((asB d).bind Rs.ok) Q := by cases d <;> exact p1
  obtain ⟨b, rfl, p2⟩ := PoG.asB p1
  exact ⟨b, dp_bool rd, p2 b G1 H1 (Stp.refl s1) rfl⟩
theorem pE_nt {a : Expr} {ra : Env → Rs D} {pos : Pos} (ha : PE X a (tE c ra)) (ht : PT X a (tTs c ra)) : PE X (.UnaryOp .Not a pos) (tE c fun ρ => (ra ρ).bind fun x => (asB x).map fun b => .bool (!b)) ∧
    PT X (.UnaryOp .Not a pos) (tTs c fun ρ => (ra ρ).bind fun x => (asB x).map fun b => .bool (!b)) := by
  refine ⟨PE.mono (pe_not ha) fun σ H Q ⟨ρ, G, sg, e, p⟩ => ?_, PT.mono (pt_not ht) fun σ H Q ⟨ρ, G, sg, e, p⟩ => ?_⟩
  · try dsimp only at p
    refine tG.first sg e p fun d u G1 H1 s1 e1 st rd p1 => ?_
    obtain ⟨b, rfl, p2⟩ := PoG.asB p1
    exact ⟨b, dp_bool rd, p2 _ G1 H1 (Stp.refl s1) (.bl _)⟩
  · try dsimp only at p
    have p : PoG (fun _ b b' => b' = b) c σ G H (((ra ρ).bind asB).bind fun b => .ok (!b)) Q := by
      cases q : ra ρ with
      | ok d => rw [q] at p; cases d <;> exact p
      | ex y => rw [q] at p; exact p
      | no => rw [q] at p; exact p
    refine tG.first (r := fun ρ => (ra ρ).bind asB) sg e p fun b u G1 H1 s1 e1 st rd p1 => ?_
    subst rd
    exact p1 _ G1 H1 (Stp.refl s1) rfl
theorem pE_and {a b : Expr} {rest : List Expr} {ra rb : Env → Rs D} {pos : Pos} (ha : PE X a (tE c ra)) (hb : PE X (.BoolOp .And (b :: rest) pos) (tE c rb)) :
    PE X (.BoolOp .And (a :: b :: rest) pos) (tE c fun ρ => (ra ρ).bind fun x => (asB x).bind fun k => if k = true then rb ρ else .ok (.bool false)) := by
  refine PE.mono (pe_and ha hb) fun σ H Q ⟨ρ, G, sg, e, p⟩ => ?_
  try dsimp only at p
  refine tG.first sg e p fun d u G1 H1 s1 e1 st rd p1 => ?_
  obtain ⟨k, rfl, p2⟩ := PoG.asB p1
  refine ⟨k, dp_bool rd, ?_⟩
  cases k with
  | true => rw [if_pos rfl] at p2 ⊢; exact ⟨ρ, G1, s1, e1, p2⟩
  | false => rw [if_neg Bool.false_ne_true] at p2 ⊢; exact p2 _ G1 H1 (Stp.refl s1) (.bl _)
theorem pE_or {a b : Expr} {rest : List Expr} {ra rb : Env → Rs D} {pos : Pos} (ha : PE X a (tE c ra)) (hb : PE X (.BoolOp .Or (b :: rest) pos) (tE c rb)) :
    PE X (.BoolOp .Or (a :: b :: rest) pos) (tE c fun ρ => (ra ρ).bind fun x => (asB x).bind fun k => if k = true then .ok (.bool true) else rb ρ) := by
  refine PE.mono (pe_or ha hb) fun σ H Q ⟨ρ, G, sg, e, p⟩ => ?_
  try dsimp only at p
  refine tG.first sg e p fun d u G1 H1 s1 e1 st rd p1 => ?_
  obtain ⟨k, rfl, p2⟩ := PoG.asB p1
  refine ⟨k, dp_bool rd, ?_⟩
  cases k with
  | true => rw [if_pos rfl] at p2 ⊢; exact p2 _ G1 H1 (Stp.refl s1) (.bl _)
  | false => rw [if_neg Bool.false_ne_true] at p2 ⊢; exact ⟨ρ, G1, s1, e1, p2⟩
theorem tst_and {ra rb : Rs D} : ((ra.bind fun x => (asB x).bind fun k => if k = true then rb else .ok (.bool false)).bind asB) = (ra.bind asB).bind fun k => if k = true then rb.bind asB else .ok false := by
  cases ra with
  | ok d =>
    cases d with
    | bool b => cases b <;> rfl
    | _ => rfl
  | ex e => rfl
  | no => rfl
theorem tst_or {ra rb : Rs D} : ((ra.bind fun x => (asB x).bind fun k => if k = true then .ok (.bool true) else rb).bind asB) = (ra.bind asB).bind fun k => if k = true then .ok true else rb.bind asB := by
  cases ra with
  | ok d =>
    cases d with
    | bool b => cases b <;> rfl
    | _ => rfl
  | ex e => rfl
  | no => rfl
theorem pW_and {a b : Expr} {rest : List Expr} {ra rb : Env → Rs D} {pos : Pos} (ha : PT X a (tTs c ra)) (hb : PW X (.BoolOp .And (b :: rest) pos) (tTs c rb)) :
    PW X (.BoolOp .And (a :: b :: rest) pos) (tTs c fun ρ => (ra ρ).bind fun x => (asB x).bind fun k => if k = true then rb ρ else .ok (.bool false)) := by
  refine PW.mono (pw_and ha hb) fun σ H Q ⟨ρ, G, sg, e, p⟩ => ?_
  try dsimp only at p
  rw [tst_and] at p
  refine tG.first (r := fun ρ => (ra ρ).bind asB) sg e p fun k u G1 H1 s1 e1 st rd p1 => ?_
  subst rd
  cases k with
  | true => rw [if_pos rfl] at p1 ⊢; exact ⟨ρ, G1, s1, e1, p1⟩
  | false => rw [if_neg Bool.false_ne_true] at p1 ⊢; exact p1 _ G1 H1 (Stp.refl s1) rfl
theorem pW_or {a b : Expr} {rest : List Expr} {ra rb : Env → Rs D} {pos : Pos} (ha : PT X a (tTs c ra)) (hb : PW X (.BoolOp .Or (b :: rest) pos) (tTs c rb)) :
    PW X (.BoolOp .Or (a :: b :: rest) pos) (tTs c fun ρ => (ra ρ).bind fun x => (asB x).bind fun k => if k = true then .ok (.bool true) else rb ρ) := by
  refine PW.mono (pw_or ha hb) fun σ H Q ⟨ρ, G, sg, e, p⟩ => ?_
  try dsimp only at p
  rw [tst_or] at p
  refine tG.first (r := fun ρ => (ra ρ).bind asB) sg e p fun k u G1 H1 s1 e1 st rd p1 => ?_
  subst rd
  cases k with
  | true => rw [if_pos rfl] at p1 ⊢; exact p1 _ G1 H1 (Stp.refl s1) rfl
  | false => rw [if_neg Bool.false_ne_true] at p1 ⊢; exact ⟨ρ, G1, s1, e1, p1⟩
theorem tst_map {x : Rs Bool} : ((x.map PyData.bool).quiet.bind asB) = x.quiet := by cases x <;> rfl
theorem pE_cmp (hK : c.K = X.K) (hu : X.A.units + 65 < cLine) {a b : Expr} {ra rb : Env → Rs D} {o : CmpOp} {pos : Pos} (ha : PE X a (tE c ra)) (hb : PE X b (tE c rb)) (hp : plE b = true) :
    PE X (.Compare a [o] [b] pos) (tE c fun ρ => (ra ρ).bind fun x => (rb ρ).bind fun y => (cmpD o x y).quiet) ∧ PT X (.Compare a [o] [b] pos) (tTs c fun ρ => (ra ρ).bind fun x => (rb ρ).bind fun y => (cmpD o x y).quiet) := by
  refine ⟨PE.mono (pe_cmpR (oCmp hu o) ha hb (nomB o hp)) fun σ H Q ⟨ρ, G, sg, e, p⟩ => ?_, PT.mono (pt_cmpR (oCmp hu o) ha hb (nomB o hp)) fun σ H Q ⟨ρ, G, sg, e, p⟩ => ?_⟩
  · try dsimp only at p
    refine tG.first sg e p fun d u G1 H1 s1 e1 st rd p1 => ?_
    refine tG.first s1 e1 p1 fun d2 u2 G2 H2 s2 e2 st2 rd2 p2 => ?_
    rw [hK] at rd rd2
    exact ⟨d, d2, G2, s2, Dp_mono st2.gg rd, rd2, by rw [← hK]; exact PoG.q p2⟩
  · try dsimp only at p
    rw [Rs.bind_assoc] at p
    refine tG.first sg e p fun d u G1 H1 s1 e1 st rd p1 => ?_
    rw [Rs.bind_assoc] at p1
    refine tG.first s1 e1 p1 fun d2 u2 G2 H2 s2 e2 st2 rd2 p2 => ?_
    rw [hK] at rd rd2
    refine ⟨d, d2, G2, s2, Dp_mono st2.gg rd, rd2, ?_⟩
    unfold cmpD at p2 ⊢
    rw [tst_map] at p2
    cases q : cmpB o d d2 with
    | ok k =>
      rw [q] at p2
      intro u' G' H' st' rd'
      exact ⟨k, dp_bool rd', p2 _ G' H' st' rfl⟩
    | ex y => rw [q] at p2; exact p2.elim
    | no => rw [q] at p2; exact p2.elim
theorem pE_chn (hK : c.K = X.K) (hu : X.A.units + 65 < cLine) {a b d : Expr} {ra rb rd : Env → Rs D} {o o2 : CmpOp} {pos : Pos} (ha : PE X a (tE c ra)) (hb : PE X b (tE c rb)) (hd : PE X d (tE c rd)) (hp : plE d = true) :
    PE X (.Compare a [o, o2] [b, d] pos) (tE c fun ρ => (ra ρ).bind fun x => (rb ρ).bind fun y => (cmpB o x y).quiet.bind fun k => if k = true then (rd ρ).bind fun z => (cmpD o2 y z).quiet else .ok (.bool false)) ∧
    PT X (.Compare a [o, o2] [b, d] pos) (tTs c fun ρ => (ra ρ).bind fun x => (rb ρ).bind fun y => (cmpB o x y).quiet.bind fun k => if k = true then (rd ρ).bind fun z => (cmpD o2 y z).quiet else .ok (.bool false)) := by
  refine ⟨PE.mono (pe_chain (oCmp hu o) (oCmp hu o2) ha hb hd (nomL o o2 hp)) fun σ H Q ⟨ρ, G, sg, e, p⟩ => ?_, PT.mono (pt_chain (oCmp hu o) (oCmp hu o2) ha hb hd (nomL o o2 hp)) fun σ H Q ⟨ρ, G, sg, e, p⟩ => ?_⟩
  · try dsimp only at p
    refine tG.first sg e p fun x u G1 H1 s1 e1 st r1 p1 => ?_
    refine tG.first s1 e1 p1 fun y u2 G2 H2 s2 e2 st2 r2 p2 => ?_
    rw [hK] at r1 r2
    refine ⟨x, y, G2, s2, Dp_mono st2.gg r1, r2, ?_⟩
    unfold cmpD
    cases q : cmpB o x y with
    | ok k =>
      rw [q] at p2
      intro u' G' H' st' rd'
      refine ⟨k, dp_bool rd', ?_⟩
      have p2 : PoG (Dp c.K) c σ G2 H2 (if k = true then (rd ρ).bind fun z => (cmpD o2 y z).quiet else .ok (.bool false)) Q := p2
      have p3 := PoG.mono st' p2
      cases k with
      | true =>
        rw [if_pos rfl] at p3 ⊢
        refine tG.first st'.gh (e2.step st') p3 fun z u3 G3 H3 s3 e3 st3 r3 p4 => ?_
        rw [hK] at r3
        exact ⟨y, z, G3, s3, Dp_mono (st'.gg.trans st3.gg) r2, r3, by rw [← hK]; exact PoG.q p4⟩
      | false =>
        rw [if_neg Bool.false_ne_true] at p3 ⊢
        exact p3 _ G' H' (Stp.refl st'.gh) (.bl _)
    | ex z => rw [q] at p2; exact p2.elim
    | no => rw [q] at p2; exact p2.elim
  · try dsimp only at p
    rw [Rs.bind_assoc] at p
    refine tG.first sg e p fun x u G1 H1 s1 e1 st r1 p1 => ?_
    rw [Rs.bind_assoc] at p1
    refine tG.first s1 e1 p1 fun y u2 G2 H2 s2 e2 st2 r2 p2 => ?_
    rw [hK] at r1 r2
    refine ⟨x, y, G2, s2, Dp_mono st2.gg r1, r2, ?_⟩
    unfold cmpD
    cases q : cmpB o x y with
    | ok k =>
      rw [q] at p2
      intro u' G' H' st' rd'
      refine ⟨k, dp_bool rd', ?_⟩
      have p2 : PoG (fun _ b b' => b' = b) c σ G2 H2 ((if k = true then (rd ρ).bind fun z => (cmpD o2 y z).quiet else .ok (.bool false)).bind asB) Q := p2
      have p3 := PoG.mono st' p2
      cases k with
      | true =>
        rw [if_pos rfl] at p3 ⊢
        rw [Rs.bind_assoc] at p3
        refine tG.first st'.gh (e2.step st') p3 fun z u3 G3 H3 s3 e3 st3 r3 p4 => ?_
        rw [hK] at r3
        refine ⟨y, z, G3, s3, Dp_mono (st'.gg.trans st3.gg) r2, r3, ?_⟩
        unfold cmpD at p4
        rw [tst_map] at p4
        cases q2 : cmpB o2 y z with
        | ok k2 =>
          rw [q2] at p4
          show PoQ X.K G3 H3 ((cmpB o2 y z).map .bool) _
          rw [q2]
          intro u4 G4 H4 st4 rd4
          exact ⟨k2, dp_bool rd4, p4 _ G4 H4 st4 rfl⟩
        | ex w' => rw [q2] at p4; exact p4.elim
        | no => rw [q2] at p4; exact p4.elim
      | false =>
        rw [if_neg Bool.false_ne_true] at p3 ⊢
        exact ⟨false, rfl, p3 _ G' H' (Stp.refl st'.gh) rfl⟩
    | ex z => rw [q] at p2; exact p2.elim
    | no => rw [q] at p2; exact p2.elim
theorem pE_ite {t a b : Expr} {rt ra rb : Env → Rs D} {pos : Pos} (ht : PT X t (tTs c rt)) (ha : PE X a (tE c ra)) (hb : PE X b (tE c rb)) : PE X (.IfExp t a b pos) (tE c fun ρ => (rt ρ).bind fun x => (asB x).bind fun k => if k = true then ra ρ else rb ρ) := by
  refine PE.mono (pe_ifExp ht ha hb) fun σ H Q ⟨ρ, G, sg, e, p⟩ => ?_
  try dsimp only at p
  rw [← Rs.bind_assoc] at p
  refine tG.first (r := fun ρ => (rt ρ).bind asB) sg e p fun k u G1 H1 s1 e1 st rd p1 => ?_
  subst rd
  cases k with
  | true => rw [if_pos rfl] at p1 ⊢; exact ⟨ρ, G1, s1, e1, p1⟩
  | false => rw [if_neg Bool.false_ne_true] at p1 ⊢; exact ⟨ρ, G1, s1, e1, p1⟩
theorem pA_nil : PA X [] (tL c fun _ => .ok []) := PA.mono pa_nil fun σ H Q ⟨ρ, G, sg, e, p⟩ => p [] G H (Stp.refl sg) .nil
theorem pA_cons {e : Expr} {es : List Expr} {r : Env → Rs D} {rs : Env → Rs (List D)} (he : PE X e (tE c r)) (hs : PA X es (tL c rs)) (hp : plE e = true) : PA X (e :: es) (tL c fun ρ => (r ρ).bind fun x => (rs ρ).map fun r => x :: r) := by
  refine PA.mono (pa_cons he hs (starB hp)) fun σ H Q ⟨ρ, G, sg, e, p⟩ => ?_
  try dsimp only at p
  refine tG.first sg e p fun d u G1 H1 s1 e1 st rd p1 => ?_
  refine tG.first s1 e1 p1 fun ds us G2 H2 s2 e2 st2 rd2 p2 => ?_
  exact p2 _ G2 H2 (Stp.refl s2) (.cons (Dp_mono st2.gg rd) rd2)
theorem pE_tup (hK : c.K = X.K) {es : List Expr} {rs : Env → Rs (List D)} {k : Nat} {pos : Pos} (n : Nat) (hn : n ≤ 1000) (hl : ∀ ρ ds, rs ρ = .ok ds → ds.length = n) (hs : PA X es (tL c rs)) : PE X (.Tuple es k pos) (tE c fun ρ => (rs ρ).map .tuple) := by
  refine PE.mono (pe_tup hs) fun σ H Q ⟨ρ, G, sg, e, p⟩ => ⟨ρ, G, sg, e, p.seq fun ds us G1 H1 ed st rd p1 => ⟨?_, fun q hq => ?_⟩⟩
  · rw [DpAll_len rd, hl ρ ds ed]; exact Nat.le_trans hn (by decide)
  · exact p1 _ _ _ (Stp.new st.gh hq) (.tup (SqT.of upd_same) (DpAll_mono (Same.upd (st.gh.free hq)) rd))
theorem pE_lst (hK : c.K = X.K) {es : List Expr} {rs : Env → Rs (List D)} {pos : Pos} (n : Nat) (hn : n ≤ 1000) (hl : ∀ ρ ds, rs ρ = .ok ds → ds.length = n) (hs : PA X es (tL c rs)) : PE X (.List es pos) (tE c fun ρ => (rs ρ).map .list) := by
  refine PE.mono (pe_lst hs) fun σ H Q ⟨ρ, G, sg, e, p⟩ => ⟨ρ, G, sg, e, p.seq fun ds us G1 H1 ed st rd p1 => ⟨?_, fun q hq => ?_⟩⟩
  · rw [DpAll_len rd, hl ρ ds ed]; exact Nat.le_trans hn (by decide)
  · exact p1 _ _ _ (Stp.new st.gh hq) (.lst (SqL.of upd_same) (DpAll_mono (Same.upd (st.gh.free hq)) rd))
theorem pE_idx (hK : c.K = X.K) {a b : Expr} {ra rb : Env → Rs D} {pos : Pos} (ha : PE X a (tE c ra)) (hb : PE X b (tE c rb)) (hp : plE b = true) : PE X (.Subscript a b pos) (tE c fun ρ => (ra ρ).bind fun x => (rb ρ).bind fun y => (idxD x y).quiet) := by
  refine PE.mono (pe_ix iIdx ha hb (plIx hp)) fun σ H Q ⟨ρ, G, sg, e, p⟩ => ?_
  try dsimp only at p
  refine tG.first sg e p fun d u G1 H1 s1 e1 st rd p1 => ?_
  refine tG.first s1 e1 p1 fun d2 u2 G2 H2 s2 e2 st2 rd2 p2 => ?_
  rw [hK] at rd rd2
  exact ⟨d, d2, G2, s2, Dp_mono st2.gg rd, rd2, by rw [← hK]; exact PoG.q p2⟩
theorem PoG.asI {α β : Type} {R : Hp → β → α → Prop} {σ : L2.St} {G H : Hp} {d : D} {f : Int → Rs α} {Q : β → Hp → Prop} (p : PoG R c σ G H ((asI d).bind f) Q) : ∃ b, d = .int b ∧ PoG R c σ G H (f b) Q := by
  cases d with
  | int b => exact ⟨b, rfl, p⟩
  | _ => exact p.elim
theorem dp_int {K : PySem.W.Frag} {G : Hp} {u : V} {b : Int} (h : Dp K G u (.int b)) : u = .int b := by cases h; rfl
theorem pE_sl01 (hK : c.K = X.K) {a b : Expr} {ra rb : Env → Rs D} {pos p2 : Pos} (ha : PE X a (tE c ra)) (hb : PE X b (tE c rb)) : PE X (.Subscript a (.Slice none (some b) none p2) pos) (tE c fun ρ => (ra ρ).bind fun x => (rb ρ).bind fun y => (asI y).bind fun k => (sliD x none (some k)).quiet) := by
  refine PE.mono (pe_slice sSli ha po_none (po_some hb)) fun σ H Q ⟨ρ, G, sg, e, p⟩ => ?_
  try dsimp only at p
  refine tG.first sg e p fun d u G1 H1 s1 e1 st rd p1 => ?_
  refine tG.first s1 e1 p1 fun d2 u2 G2 H2 s2 e2 st2 rd2 p2 => ?_
  obtain ⟨k, rfl, p3⟩ := PoG.asI p2
  rw [hK] at rd
  exact ⟨k, dp_int rd2, d, G2, s2, Dp_mono st2.gg rd, by rw [← hK]; exact PoG.q p3⟩
theorem pE_sl10 (hK : c.K = X.K) {a b : Expr} {ra rb : Env → Rs D} {pos p2 : Pos} (ha : PE X a (tE c ra)) (hb : PE X b (tE c rb)) : PE X (.Subscript a (.Slice (some b) none none p2) pos) (tE c fun ρ => (ra ρ).bind fun x => (rb ρ).bind fun y => (asI y).bind fun k => (sliD x (some k) none).quiet) := by
  refine PE.mono (pe_slice sSli ha (po_some hb) po_none) fun σ H Q ⟨ρ, G, sg, e, p⟩ => ?_
  try dsimp only at p
  refine tG.first sg e p fun d u G1 H1 s1 e1 st rd p1 => ?_
  refine tG.first s1 e1 p1 fun d2 u2 G2 H2 s2 e2 st2 rd2 p2 => ?_
  obtain ⟨k, rfl, p3⟩ := PoG.asI p2
  rw [hK] at rd
  exact ⟨k, dp_int rd2, d, G2, s2, Dp_mono st2.gg rd, by rw [← hK]; exact PoG.q p3⟩
theorem pE_sl11 (hK : c.K = X.K) {a b d' : Expr} {ra rb rd' : Env → Rs D} {pos p2 : Pos} (ha : PE X a (tE c ra)) (hb : PE X b (tE c rb)) (hd : PE X d' (tE c rd')) : PE X (.Subscript a (.Slice (some b) (some d') none p2) pos) (tE c fun ρ => (ra ρ).bind fun x => (rb ρ).bind fun y => (asI y).bind fun k => (rd' ρ).bind fun z => (asI z).bind fun n => (sliD x (some k) (some n)).quiet) := by
  refine PE.mono (pe_slice sSli ha (po_some hb) (po_some hd)) fun σ H Q ⟨ρ, G, sg, e, p⟩ => ?_
  try dsimp only at p
  refine tG.first sg e p fun d u G1 H1 s1 e1 st rd p1 => ?_
  refine tG.first s1 e1 p1 fun d2 u2 G2 H2 s2 e2 st2 rd2 p2 => ?_
  obtain ⟨k, rfl, p3⟩ := PoG.asI p2
  refine ⟨k, dp_int rd2, ?_⟩
  refine tG.first s2 e2 p3 fun d3 u3 G3 H3 s3 e3 st3 rd3 p4 => ?_
  obtain ⟨n, rfl, p5⟩ := PoG.asI p4
  rw [hK] at rd
  exact ⟨n, dp_int rd3, d, G3, s3, Dp_mono (st2.gg.trans st3.gg) rd, by rw [← hK]; exact PoG.q p5⟩
end
end Rf
set_option Elab.async false
set_option linter.all false
set_option maxRecDepth 100000
set_option maxHeartbeats 3900000
namespace Rf
open PySem PySem.Spec PyProof.Rows L2
/-- [::-1] has as many places as there are items -/
theorem fromBehind (n : Nat) : Builtin.Slice.slicePlaces ((n : Int) - 1) (-1) (-1) = n := by
  unfold Builtin.Slice.slicePlaces
  cases n with
  | zero => rfl
  | succ n =>
    have down : ¬ (-1 : Int) > 0 := by decide
    have some_ : ((n + 1 : Nat) : Int) - 1 > -1 := by omega
    simp only [down, some_, if_true, if_false, Int.neg_neg, Int.ediv_one]
    omega
theorem takeBehind (xs : Array Value) : (List.range xs.size).filterMap (fun m : Nat => xs[(((xs.size : Int) - 1) + (m : Int) * (-1)).toNat]?) = xs.toList.reverse := by
  rw [← PySem.W.krv_all xs, ← List.filterMap_reverse, ← PySem.W.krv_range, List.filterMap_map]
  have go : ∀ {l : List Nat}, (∀ m ∈ l, m < xs.size) → l.filterMap (fun m : Nat => xs[(((xs.size : Int) - 1) + (m : Int) * (-1)).toNat]?) = l.filterMap ((fun m => xs[m]?) ∘ fun k => xs.size - 1 - k) := fun {l} lt => by
    induction l with
    | nil => rfl
    | cons m l ih =>
      have e : (((xs.size : Int) - 1) + (m : Int) * (-1)).toNat = xs.size - 1 - m := by have := lt m (.head _); omega
      simp only [List.filterMap_cons, e, ih fun k q => lt k (.tail _ q), Function.comp]
  exact go fun m q => List.mem_range.mp q
section
variable {P : Program} {w : World} {A : Around} {E : Value → Shared → Prop} {s : Shared} {sl : Addr} {v1 v2 v3 : Value}
theorem sliceBehind {n : Nat} {α : Type} {k : Int × Int × Nat → Sem α} {Q : α → Shared → Prop} (at_ : s.heap.IsSliceOf sl v1 v2 v3) (p1 : IsPart v1 none) (p2 : IsPart v2 none) (p3 : IsPart v3 (some (-1)))
    (h : wpAny (model P w) A (k ((n : Int) - 1, -1, n)) Q E s) : wpAny (model P w) A (Builtin.Slice.sliceApplied (.ref sl) (pure (n : Int)) >>= k) Q E s := by
  obtain ⟨o, there, _, fields⟩ := at_
  have told : wpAny (model P w) A (Builtin.Slice.sliceFields (.ref sl)) (fun x s2 => x = (v1, v2, v3) ∧ s2 = s) E s :=
    wpAny_bind (wpAny_field there fields (x := v1) rfl (wpAny_bind (wpAny_field there fields (x := v2) rfl (wpAny_bind (wpAny_field there fields (x := v3) rfl (wpAny_pure ⟨rfl, rfl⟩))))))
  refine wpAny_bind ?_
  unfold Builtin.Slice.sliceApplied
  refine wpAny_bind (thn told fun x s2 ⟨ex, es⟩ => ?_)
  subst ex es
  refine wpAny_bind (HT.slicePart_ p3 (wpAny_ite_false (by decide) (wpAny_bind (HT.slicePart_ p1 (wpAny_bind (HT.slicePart_ p2 (wpAny_bind (wpAny_pure (wpAny_pure ?_)))))))))
  show wpAny _ _ (k ((n : Int) - 1, -1, Builtin.Slice.slicePlaces ((n : Int) - 1) (-1) (-1))) _ _ _
  rw [fromBehind]
  exact h
theorem tupBehind {t : Addr} {items : Array Value} {Q : Value → Shared → Prop} (tup : IsTup s.heap t items) (at_ : s.heap.IsSliceOf sl v1 v2 v3) (p1 : IsPart v1 none) (p2 : IsPart v2 none) (p3 : IsPart v3 (some (-1))) (few : items.size ≤ sizeLine)
    (h : Q (.ref s.heap.objs.size) { s with heap := s.heap.push { cls := .type "tuple", data := .seq items.toList.reverse.toArray } }) : wpAny (model P w) A (getItem (.ref t) (.ref sl)) Q E s := by
  have fits : sizeOk (.seq items.toList.reverse.toArray) := show items.toList.reverse.toArray.size ≤ sizeLine by simpa using few
  have ty : s.TypeIs (.ref sl) "slice" := let ⟨o, there, c, _⟩ := at_; ⟨o, there, c⟩
  have row : ∀ {Q : Value → Shared → Prop}, Q (.ref s.heap.objs.size) { s with heap := s.heap.push { cls := .type "tuple", data := .seq items.toList.reverse.toArray } } →
      ∀ {A : Around} {E : Value → Shared → Prop}, wpAny (model P w) A (Builtin.«tuple.__getitem__» ⟨[.ref t, .ref sl], []⟩) (fun f s2 => ∃ v, f = .done (.ret v) ∧ Q v s2) E s := fun {Q} h {A E} => by
    show wpAny _ _ (Builtin.Tuple.tupleItemsOf (.ref t) >>= _) _ _ s
    refine wpAny_bind (tupleItemsOf_ tup (wpAny_bind (wpAny_typeOf ty ?_)))
    refine wpAny_ite_true (by decide) (sliceBehind at_ p1 p2 p3 (wpAny_ite_false (by simp) ?_))
    rw [takeBehind]
    refine wpAny_bind (m := Builtin.Tuple.tupleExact _) (wpAny_newObj_type ?_ fits)
    first
      | exact wpAny_pure ⟨_, rfl, h⟩
      | exact wpAny_bind (wpAny_pure (wpAny_pure ⟨_, rfl, h⟩))
  unfold getItem
  exact wpAny_holding (wpAny_bind (wpAny_sequenceKey tup.typeIs (by decide) (wpAny_bind (wpAny_callSpecial?_slot (name := Str.ofString "__getitem__") tup.typeIs PyProof.Rows.slot_tuple_getitem (wpAny_call_entry PyProof.Rows.slot_tuple_getitem tup.typeIs entry_tuple_getitem (row (Q := _) (wpAny_pure h)) (args_tuple_getitem _ _))))))
end
section
variable {X : Cx} {c : Cw}
/-- the text [::-1], as a slice of its three parts -/
abbrev behind (k : Nat) (p1 p2 p3 : Pos) : Expr := .Slice none none (some (.UnaryOp .USub (.Constant (.int 1) k p1) p2)) p3
theorem evalBehind {k : Nat} {p1 p2 p3 : Pos} {pins : List (Addr × Obj)} {σ : L2.St} {H : Hp} {s : Shared} {Q : Value → Shared → Prop} (I : Inv X pins σ H s)
    (q : ∀ sl v1 v2 v3 s2, Inv X pins σ H s2 → s2.heap.IsSliceOf sl v1 v2 v3 → IsPart v1 none → IsPart v2 none → IsPart v3 (some (-1)) → Q (.ref sl) s2) : wpAny (model X.prog X.w) X.A (eval (behind k p1 p2 p3) X.env) Q X.xe s := by
  have minus : PO X (some (.UnaryOp .USub (.Constant (.int 1) k p1) p2)) (tPart (tUn (rU fun i => .int (-i)) (tC (.int 1)))) := po_some (pe_un un_neg pe_int)
  refine wpAny_Slice (thn (po_none.run pins s σ H (fun o G => o = none ∧ G = H) I ⟨rfl, rfl⟩) fun v1 s1 ⟨_, _, I1, q1, e1, e2⟩ => thn (po_none.run pins s1 σ H (fun o G => o = none ∧ G = H) (e2 ▸ I1) ⟨rfl, rfl⟩) fun v2 s2 ⟨_, _, I2, q2, e3, e4⟩ =>
    thn (minus.run pins s2 σ H (fun o G => o = some (-1) ∧ G = H) (e4 ▸ I2) ⟨1, rfl, -1, rfl, rfl, rfl⟩) fun v3 s3 ⟨_, _, I3, q3, e5, e6⟩ => ?_)
  exact q _ v1 v2 v3 _ ((e6 ▸ I3).kept (t' := s3.toks) fun _ _ => Heap.get?_push_of_some _) (Heap.IsSliceOf.new _ v1 v2 v3) (e1 ▸ q1) (e3 ▸ q2) (e5 ▸ q3)
theorem pE_rev (hK : c.K = X.K) {a : Expr} {ra : Env → Rs D} {k : Nat} {p1 p2 p3 pos : Pos} (ha : PE X a (tE c ra)) : PE X (.Subscript a (.Slice none none (some (.UnaryOp .USub (.Constant (.int 1) k p1) p2)) p3) pos) (tE c fun ρ => (ra ρ).bind fun x => (revD x).quiet) := by
  constructor
  intro pins s σ H Q I ⟨ρ, G, sg, e, p⟩
  have told : tE c ra σ H (fun u H1 => ∃ d G1, Same G1 H1 ∧ Dp X.K G1 u d ∧ PoQ X.K G1 H1 (revD d) Q) := tG.first sg e p fun d u G1 H1 s1 e1 st rd p1 => ⟨d, G1, s1, hK ▸ rd, hK ▸ PoG.q p1⟩
  refine Subscript_ (thn (ha.run pins s σ H _ I told) fun v s1 ⟨x, H1, I1, r1, d, G1, sg1, rd, q⟩ => evalBehind I1 fun sl v1 v2 v3 s2 I2 at_ q1 q2 q3 => ?_)
  have room := I2.hok.fresh (Nat.le_refl _)
  match d, rd, q with
  | .list ds, .lst qa rb, q =>
    cases r1
    obtain ⟨its, r, there, few⟩ := I2.list (sg1.seq qa)
    refine tail_any (ops := [.ref _, .ref sl]) there.isList.typeIs (PySem.slot_list_getitem.lookup) ?_ (by with_unfolding_all rfl)
    refine wpAny_getItem_list_slice there.isList at_ q1 q2 q3 (by decide) ?_ (by rw [List.size_toArray, ← r.length]; exact few)
    rw [PySem.W.krv_pick]
    exact ⟨.ref _, _, I2.laid (t' := s2.toks) (o := .lst _) (fun _ _ => Heap.get?_push_of_some _) (Nat.le_refl _) ⟨by rw [List.length_reverse]; exact few, _, 0, r.reverse, Heap.get?_push_size _ rfl⟩, rfl, q _ _ _ (Stp.new sg1 room) (.lst (SqL.of upd_same) (DpAll_mono (Same.upd (sg1.free room)) (DpAll_rev rb)))⟩
  | .tuple ds, .tup qa rb, q =>
    cases r1
    obtain ⟨its, r, there, few⟩ := I2.tuple (Same.seqT sg1 qa)
    refine tail_any (ops := [.ref _, .ref sl]) there.typeIs (PyProof.Rows.slot_tuple_getitem.lookup) ?_ (by with_unfolding_all rfl)
    refine tupBehind there at_ q1 q2 q3 (by rw [List.size_toArray, ← r.length]; exact few) ?_
    exact ⟨.ref _, _, I2.laid (t' := s2.toks) (o := .tup _) (fun _ _ => Heap.get?_push_of_some _) (Nat.le_refl _) ⟨by rw [List.length_reverse]; exact few, _, r.reverse, IsTup.new _ _⟩, rfl, q _ _ _ (Stp.new sg1 room) (.tup (SqT.of upd_same) (DpAll_mono (Same.upd (sg1.free room)) (DpAll_rev rb)))⟩
  | .none, _, q => exact q.elim
  | .bool _, _, q => exact q.elim
  | .int _, _, q => exact q.elim
  | .str _, _, q => exact q.elim
  | .dict _, _, q => exact (show False from q).elim
theorem look_up {K : PySem.W.Frag} {G H : Hp} {u : V} {d : D} (sg : Same G H) (h : Dp K G u d ∨ (∃ a vs ds, u = .ref a ∧ d = .list ds ∧ H a = some (.lst vs) ∧ G a = none ∧ DpAll K G vs ds) ∨ ∃ a xs ps, u = .ref a ∧ d = .dict ps ∧ H a = some (.dK xs) ∧ DpKv K G xs ps) :
    (∃ a vs ds, u = .ref a ∧ d = .list ds ∧ SqL K H a vs ∧ DpAll K G vs ds) ∨ Dp K G u d ∨ ∃ ps, d = .dict ps := by
  rcases h with h | ⟨a, vs, ds, e1, e2, h1, _, h3⟩ | ⟨a, xs, ps, e1, e2, h1, h3⟩
  · exact .inr (.inl h)
  · exact .inl ⟨a, vs, ds, e1, e2, SqL.of h1, h3⟩
  · exact .inr (.inr ⟨ps, e2⟩)
theorem pE_vln (hK : c.K = X.K) {i : Nat} {x : Str} {p p2 pos : Pos} (hi : X.N[i]? = some x) (hv : Vis X.env.scope x) (hd : ndb x = true) (hg : Gl X "len") (hm : X.mg "len" = none) :
    PE X (.Call (.Name "len" p) [.Name x p2] [] pos) (tE c fun ρ => (lookD ρ[i]?).bind fun x => (lenS x).quiet) := by
  refine PE.mono (pe_callB call_len_seq hg hm PySem.boot_len (pa_cons (pe_var hi hv (ndb1 hd).1 (ndb1 hd).2) pa_nil)) fun σ H Q ⟨ρ, G, sg, e, p⟩ => ?_
  dsimp only at p
  cases z : lookD ρ[i]? with
  | ok d =>
    rw [z] at p
    refine lookV hi hv hd sg e z fun u ⟨_, e1, h⟩ => ?_
    subst e1
    rcases look_up sg h with ⟨a, vs, ds, rfl, rfl, h1, h3⟩ | h | ⟨ps, rfl⟩
    · rw [hK] at h1
      refine ⟨a, vs, rfl, .inl h1, ?_⟩
      rw [DpAll_len h3]
      exact p _ G H (Stp.refl sg) (.int _)
    · have p := PoG.q (x := lenS d) p
      rw [hK] at h p
      cases h with
      | lst qa ra => refine ⟨_, _, rfl, .inl (sg.seq qa), ?_⟩; rw [DpAll_len ra]; exact p _ G H (Stp.refl sg) (.int _)
      | tup qa ra => refine ⟨_, _, rfl, .inr (Same.seqT sg qa), ?_⟩; rw [DpAll_len ra]; exact p _ G H (Stp.refl sg) (.int _)
      | str => exact p.elim
      | non => exact p.elim
      | bl => exact p.elim
      | int => exact p.elim
      | dct => exact p.elim
    · exact (show False from p).elim
  | ex y => rw [z] at p; cases zz : ρ[i]? with
    | none => rw [zz] at z; cases z
    | some s => cases s <;> rw [zz] at z <;> cases z
  | no => rw [z] at p; exact p.elim
theorem pE_vdx (hK : c.K = X.K) {i : Nat} {x : Str} {p2 pos : Pos} {b : Expr} {rb : Env → Rs D} (hi : X.N[i]? = some x) (hv : Vis X.env.scope x) (hd : ndb x = true) (hb : PE X b (tE c rb)) (hp : plE b = true) :
    PE X (.Subscript (.Name x p2) b pos) (tE c fun ρ => (lookD ρ[i]?).bind fun x => (rb ρ).bind fun y => (idxD x y).quiet) := by
  refine PE.mono (pe_ix ((ix_list.or iIdx).or ix_dct) (pe_var hi hv (ndb1 hd).1 (ndb1 hd).2) hb (plIx hp)) fun σ H Q ⟨ρ, G, sg, e, p⟩ => ?_
  dsimp only at p
  cases z : lookD ρ[i]? with
  | ok d =>
    rw [z] at p
    have p : PoG (Dp c.K) c σ G H ((rb ρ).bind fun y => (idxD d y).quiet) Q := p
    refine lookV hi hv hd sg e z fun u ⟨_, e1, h⟩ => ?_
    subst e1
    refine tG.first sg e p fun d2 u2 G2 H2 s2 e2 st2 rd2 p2 => ?_
    rcases h with h | ⟨a, vs, ds, rfl, rfl, hA, gA, h3⟩ | ⟨a, xs, ps, rfl, rfl, hA, h3⟩
    · rw [hK] at h rd2
      exact .inl (.inr ⟨d, d2, G2, s2, Dp_mono st2.gg h, rd2, by rw [← hK]; exact PoG.q p2⟩)
    · have p2 := PoG.q p2
      rw [hK] at h3 rd2 p2
      have hA2 : H2 a = some (.lst vs) := st2.hh a _ hA
      have gA2 : G2 a = none := by
        cases q : G2 a with
        | none => rfl
        | some o => have := st2.nw a o q gA; rw [hA] at this; cases this
      -- the owned list is looked at as if it were frozen; the item itself is
      cases rd2 with
      | int k =>
        have p3 : PoQ X.K G2 H2 (match atI ds k with | some d => .ok d | none => .no) Q := p2
        cases ea : atI ds k with
        | none => rw [ea] at p3; exact p3.elim
        | some z' =>
          rw [ea] at p3
          obtain ⟨w', ew, rw'⟩ := DpAll_atI (DpAll_mono st2.gg h3) ea
          exact .inl (.inl ⟨a, vs, k, w', rfl, rfl, SqL.of hA2, ew, p3 w' G2 H2 (Stp.refl s2) rw'⟩)
      | _ => exact (show False from p2).elim
    · have p2 := PoG.q p2
      rw [hK] at h3 rd2 p2
      have hA2 : H2 a = some (.dK xs) := st2.hh a _ hA
      cases rd2 with
      | str k =>
        have p3 : PoQ X.K G2 H2 (match kvAt ps k with | some d => .ok d | none => .no) Q := p2
        cases ea : kvAt ps k with
        | none => rw [ea] at p3; exact p3.elim
        | some z' =>
          rw [ea] at p3
          obtain ⟨w', ew, rw'⟩ := DpKv_val (DpKv_mono st2.gg h3) ea
          exact .inr ⟨a, xs, k, w', rfl, rfl, hA2, ew, p3 w' G2 H2 (Stp.refl s2) rw'⟩
      | _ => exact (show False from p2).elim
  | ex y => cases zz : ρ[i]? with
    | none => rw [zz] at z; cases z
    | some s => cases s <;> rw [zz] at z <;> cases z
  | no => rw [z] at p; exact p.elim
end
end Rf
set_option Elab.async false
set_option linter.all false
set_option maxRecDepth 100000
set_option maxHeartbeats 4000000
namespace Rf
open PySem PySem.Spec PyProof.Rows L2
section
variable {X : Cx} {c : Cw}
theorem backF {pos : Pos} {env : PySem.Env} : ∀ {es : List Expr}, es.all plE = true → (backTo pos (starEach es env)).any (·.1) = false
  | [], _ => rfl
  | e :: es, h => by
    rw [List.all_cons, Bool.and_eq_true] at h
    rw [starB h.1]
    show (false || (backTo pos (starEach es env)).any (·.1)) = false
    rw [backF h.2]; rfl
theorem backA {pos : Pos} {env : PySem.Env} : ∀ {es : List Expr}, es.all plE = true → (backTo pos (starEach es env)).all (fun x => !x.1) = true
  | [], _ => rfl
  | e :: es, h => by
    rw [List.all_cons, Bool.and_eq_true] at h
    rw [starB h.1]
    show (true && (backTo pos (starEach es env)).all (fun x => !x.1)) = true
    rw [backA h.2]; rfl
theorem evs_len (T : Tb) : ∀ (es : Es) (ρ : Env) (ds : List D), es.ev T ρ = .ok ds → ds.length = es.len
  | .nil, ρ, ds, h => by
    unfold Es.ev at h
    injection h with h
    subst h; rfl
  | .cons e es, ρ, ds, h => by
    unfold Es.ev at h
    obtain ⟨d, h1, h2⟩ := bind_okI h
    obtain ⟨r, h3, h4⟩ := map_okI h2
    subst h4
    show r.length + 1 = es.len + 1
    rw [evs_len T es ρ r h3]
theorem bf_call (hu : X.A.units + 65 < cLine) (f : Bf) (hc : coolB f = false → X.calm = true) : (∃ id, bootBuiltins (Str.ofString f.nm) = some (.builtin id) ∧ CallR X (.builtin id) (rB X.K (bclD f))) ∨ ∃ id, bootBuiltins (Str.ofString f.nm) = some (.type id) ∧ CallR X (.type id) (rB X.K (bclD f)) := by
  cases f
  · exact .inl ⟨_, by decide +kernel, cLen⟩
  · exact .inl ⟨_, by decide +kernel, cSum (hc rfl)⟩
  · exact .inl ⟨_, by decide +kernel, cAll (hc rfl)⟩
  · exact .inl ⟨_, by decide +kernel, cAny (hc rfl)⟩
  · exact .inl ⟨_, by decide +kernel, cAbs⟩
  · exact .inl ⟨_, by decide +kernel, cMax (hc rfl) hu⟩
  · exact .inl ⟨_, by decide +kernel, cMin (hc rfl) hu⟩
  · exact .inr ⟨_, by decide +kernel, cTuple⟩
  · exact .inr ⟨_, by decide +kernel, cList⟩
  · exact .inr ⟨_, by decide +kernel, cInt⟩
  · exact .inl ⟨_, by decide +kernel, cSorted hu⟩
  · exact .inr ⟨_, by decide +kernel, cStr⟩
theorem bf_name (f : Bf) : Str.ofString f.nm ∈ bnames ∧ Str.ofString f.nm ≠ "__name__" ∧ (Str.ofString f.nm == ("__debug__" : Str)) = false := by
  cases f <;> exact ⟨by decide +kernel, by decide +kernel, by decide +kernel⟩
theorem pE_bcl (hK : c.K = X.K) (hu : X.A.units + 65 < cLine) {f : Bf} (hc : coolB f = false → X.calm = true) {e : Expr} {es : List Expr} {rs : Env → Rs (List D)} {p pos : Pos} (hg : Gl X (Str.ofString f.nm)) (hm : X.mg (Str.ofString f.nm) = none) (ha : PA X (e :: es) (tL c rs)) (hp : (e :: es).all plE = true) :
    PE X (.Call (.Name (Str.ofString f.nm) p) (e :: es) [] pos) (tE c fun ρ => (rs ρ).bind fun ds => (bclD f ds).quiet) := by
  obtain ⟨_, n1, n2⟩ := bf_name f
  have hp' := hp
  rw [List.all_cons, Bool.and_eq_true] at hp
  have go : ∀ {t : TE}, t = tCB (rB X.K (bclD f)) (tL c rs) → (∀ σ H Q, tE c (fun ρ => (rs ρ).bind fun ds => (bclD f ds).quiet) σ H Q → t σ H Q) := by
    intro t et σ H Q ⟨ρ, G, sg, e, p⟩
    subst et
    dsimp only at p
    refine tG.first sg e p fun ds us G1 H1 s1 e1 st rd p1 => ?_
    rw [hK] at rd
    exact ⟨ds, G1, s1, rd, by rw [← hK]; exact PoG.q p1⟩
  rcases bf_call (X := X) hu f hc with ⟨id, hv, hr⟩ | ⟨id, hv, hr⟩
  · exact PE.mono (pe_callB hr hg hm hv ha n1 n2 (starB hp.1) (backF hp.2)) (go rfl)
  · exact PE.mono (pe_callTy hr hg hm hv ha n1 n2 (starB hp.1) (backF hp.2)) (go rfl)
theorem XW_eq {ca : Nat → Addr} {W : WX} {σ : L2.St} {e : Xn} {H : Hp} (h : XW ca W σ e H) : XW ca (fun cls d _ H => WE W σ cls d H) [] e H := by
  unfold XW at h ⊢
  cases q : e.2 with
  | none => rw [q] at h; exact h
  | some n => rw [q] at h; exact h
theorem spF_of {T : Tb} {i : Nat} {f : Fn} {σ : L2.St} {G H : Hp} {Q : VK} {vs : List V} {ds : List D} (hK : c.K = X.K) (hf : T.fns[i]? = some f) (hl : ds.length = f.ar) (sg : Same G H) (rd : DpAll c.K G vs ds) (p : PoG (Dp c.K) c σ G H (T.fn i ds) Q) :
    spF X.K c.ca f vs H Q (WE c.W σ) := by
  refine ⟨ds, G, hl, sg, by rw [← hK]; exact rd, ?_⟩
  unfold Tb.fn at p
  rw [hf] at p
  have p : PoG (Dp c.K) c σ G H (f.m ds) Q := p
  rw [← hK]
  cases q : f.m ds with
  | ok d => rw [q] at p; exact p
  | ex e => rw [q] at p; exact fun G' H' st => XW_eq (p G' H' st)
  | no => rw [q] at p; exact p
theorem pE_fcl {T : Tb} {k : Nat} (ok : Okx T c k false X) {i : Nat} {f : Fn} (hf : T.fns[i]? = some f) (hpl : f.pl = true) {e : Expr} {es : List Expr} {rs : Env → Rs (List D)} {p pos : Pos} (hn : ∀ ρ ds, rs ρ = .ok ds → ds.length = f.ar) (hg : Gl X f.name) (hd : ndb f.name = true) (ha : PA X (e :: es) (tL c rs)) (hp : (e :: es).all plE = true) :
    PE X (.Call (.Name f.name p) (e :: es) [] pos) (tE c fun ρ => (rs ρ).bind (T.fn i)) := by
  obtain ⟨fa, fd, ps, F, hl, hm, hk, hb⟩ := ok.tb.fns i f hf hpl
  rw [List.all_cons, Bool.and_eq_true] at hp
  refine PE.mono (pe_callS (E := WE c.W) F (ok.rm rfl) hg hm hk hb (fun σ => passAt ok.tk σ) ha (ndb1 hd).1 (starB hp.1) (backF hp.2)) fun σ H Q ⟨ρ, G, sg, e, p⟩ => ?_
  dsimp only at p
  exact ⟨ρ, G, sg, e, p.seq fun ds us G1 H1 ed st rd p1 => spF_of ok.hK hf (hn ρ ds ed) st.gh rd p1⟩
theorem runNS {CX : CXT} {k n : Nat} {f : Addr} {fd : FuncData} {ps ks : List Str} {sp : Sp} {E : XK} {g : List Value → List Value → List Value} {gV : List V → List V → List V} {pins : List (Addr × Obj)} {σ : L2.St} {H : Hp} {s : Shared} {Q : VK} {us ws : List Value} {vs zs : List V}
    (F : FnOk X.prog X.w X.K X.mg X.base CX k f fd ps sp) (hr : Room k X.A) (hb : KBn X.K fd ps n ks g gV) (hx : PassesAt CX X σ E)
    (I : Inv X pins σ H s) (r : Vals vs us) (rz : Vals zs ws) (l1 : vs.length = n) (l2 : zs.length = ks.length) (h : sp (gV vs zs) H Q E) : wpAny (model X.prog X.w) X.A (call (.ref f) us (ks.zip ws)) (EP X pins σ Q) X.xe s := by
  have bound := hb.to s us ws I.kIn (r.length ▸ l1) (rz.length ▸ l2)
  refine wpAny_call (codeAny_mono (F.run X.A X.stack s H ⟨us, ks.zip ws⟩ (g us ws) (gV vs zs) Q E hr I.env0 bound (hb.rel r rz) h) fun out s2 q => ?_)
  match out, q with
  | .error x, q => exact hx pins H s x s2 I q
  | .ok (.ret _), q => exact I.after q
  | .ok .next, q => exact q.elim
  | .ok .brk, q => exact q.elim
  | .ok .cont, q => exact q.elim
theorem kwAll {pos : Pos} {env : PySem.Env} : ∀ {kw : List Keyword}, kw.all (fun q => q.arg.isSome) = true → (backToKw pos (keywordEach kw env)).all (·.1.isSome) = true ∧ (backToKw pos (keywordEach kw env)).any (·.1.isNone) = false ∧ (backToKw pos (keywordEach kw env)).filterMap (·.1) = kw.filterMap (·.arg)
  | [], _ => ⟨rfl, rfl, rfl⟩
  | ⟨a, v, p⟩ :: kw, h => by
    rw [List.all_cons, Bool.and_eq_true] at h
    obtain ⟨h1, h2, h3⟩ := kwAll (pos := pos) (env := env) h.2
    cases a with
    | none => exact absurd h.1 Bool.false_ne_true
    | some a =>
      refine ⟨?_, ?_, ?_⟩
      · show (true && (backToKw pos (keywordEach kw env)).all (·.1.isSome)) = true
        rw [h1]; rfl
      · show (false || (backToKw pos (keywordEach kw env)).any (·.1.isNone)) = false
        rw [h2]; rfl
      · show a :: (backToKw pos (keywordEach kw env)).filterMap (·.1) = a :: kw.filterMap (·.arg)
        rw [h3]
theorem pK_nil : PK X [] (tL c fun _ => .ok []) := by
  constructor
  intro pos pins s σ H Q I ⟨ρ, G, sg, e, p⟩
  exact pk_nil.run pos pins s σ H Q I (p [] G H (Stp.refl sg) .nil)
theorem pK_cons {q : Keyword} {kw : List Keyword} {r : Env → Rs D} {rs : Env → Rs (List D)} (he : PE X q.value (tE c r)) (hs : PK X kw (tL c rs)) : PK X (q :: kw) (tL c fun ρ => (r ρ).bind fun x => (rs ρ).map fun r => x :: r) := by
  obtain ⟨a, v, kp⟩ := q
  constructor
  intro pos pins s σ H Q I ⟨ρ, G, sg, e, p⟩
  refine (pk_cons he hs).run pos pins s σ H Q I ?_
  dsimp only at p
  refine tG.first sg e p fun d u G1 H1 s1 e1 st rd p1 => ?_
  refine tG.first s1 e1 p1 fun ds us G2 H2 s2 e2 st2 rd2 p2 => ?_
  exact p2 _ G2 H2 (Stp.refl s2) (.cons (Dp_mono st2.gg rd) rd2)
theorem pE_kcl {T : Tb} {k : Nat} (ok : Okx T c k false X) {i sh : Nat} {f : Fn} {m : Nat × Nat × List Str × (List D → List D → List D)} (hf : T.fns[i]? = some f) (hm0 : T.shs[sh]? = some m) (hi : m.1 = i) {e : Expr} {es : List Expr} {kw : List Keyword} {rs rk : Env → Rs (List D)} {p pos : Pos}
    (hn : ∀ ρ ds, rs ρ = .ok ds → ds.length = m.2.1) (hn2 : ∀ ρ ds, rk ρ = .ok ds → ds.length = m.2.2.1.length) (hks : kw.filterMap (·.arg) = m.2.2.1) (hall : kw.all (fun q => q.arg.isSome) = true) (hg : Gl X f.name) (hd : ndb f.name = true)
    (ha : PA X (e :: es) (tL c rs)) (hkw : PK X kw (tL c rk)) (hp : (e :: es).all plE = true) :
    PE X (.Call (.Name f.name p) (e :: es) kw pos) (tE c fun ρ => (rs ρ).bind fun ds => (rk ρ).bind fun zs => T.fn i (T.arr sh ds zs)) := by
  obtain ⟨fa, fd, ps, g, gV, F, hl, hm, hk, hb, hgv⟩ := ok.tb.shs sh m f hm0 (by rw [hi]; exact hf)
  have hp' := hp
  rw [List.all_cons, Bool.and_eq_true] at hp
  constructor
  intro pins s σ H Q I ⟨ρ, G, sg, e', p'⟩
  dsimp only at p'
  refine wpAny_Call_Name_kw (ld_glob I hg hm ?_ (ndb1 hd).1)
  obtain ⟨a1, a2, a3⟩ := kwAll (pos := pos) (env := X.env) hall
  refine PySem.W.callWith_KW (h₀ := X.base) I.ok.mod.kin hk a1 (thn (ha.run pos pins s σ H (fun vs H1 => ∃ ds G1, ds.length = m.2.1 ∧ Same G1 H1 ∧ EnvR c.kx G1 H1 ρ σ ∧ DpAll c.K G1 vs ds ∧ PoG (Dp c.K) c σ G1 H1 ((rk ρ).bind fun zs => T.fn i (T.arr sh ds zs)) Q) I ?_) fun us s1 ⟨vs, H1, I1, r, ds, G1, hl1, s1', e1, rd, p1⟩ => ?_) (by rw [a2, Bool.or_false]; exact backF hp') (starB hp.1)
  · exact ⟨ρ, G, sg, e', p'.seq fun ds us G1 H1 ed st rd p1 => ⟨ds, G1, hn ρ ds ed, st.gh, e'.step st, rd, p1⟩⟩
  · refine thn (hkw.run pos pins s1 σ H1 (fun zs H2 => ∃ es G2, es.length = m.2.2.1.length ∧ Same G2 H2 ∧ DpAll c.K G2 vs ds ∧ DpAll c.K G2 zs es ∧ PoG (Dp c.K) c σ G2 H2 (T.fn i (T.arr sh ds es)) Q) I1 ?_) fun ws s2 ⟨zs, H2, I2, rz, es', G2, hl2, s2', rd2, rz2, p2⟩ => ⟨I2.kIn, ?_⟩
    · exact ⟨ρ, G1, s1', e1, p1.seq fun es' us' G2 H2 ed st rd2 p2 => ⟨es', G2, hn2 ρ es' ed, st.gh, DpAll_mono st.gg rd, rd2, p2⟩⟩
    · rw [a3, hks]
      have hK := ok.hK
      obtain ⟨g1, g2⟩ := hgv G2 vs ds zs es' (by show DpAll X.K _ _ _; rw [← hK]; exact rd2) (by show DpAll X.K _ _ _; rw [← hK]; exact rz2) hl1 hl2
      have harr : T.arr sh ds es' = m.2.2.2 ds es' := by unfold Tb.arr; rw [hm0]
      rw [harr] at p2
      exact runNS F (ok.rm rfl) hb (passAt ok.tk σ) I2 r rz (by rw [DpAll_len rd2]; exact hl1) (by rw [DpAll_len rz2]; exact hl2) (spF_of hK hf g2 s2' (by rw [hK]; exact g1) p2)
theorem placeD_some : ∀ {d : D} {ds : List D} {j : Nat}, placeD d ds = some j → ∃ z, ds[j]? = some z ∧ PyData.eqv z d = true ∧ ∀ (m : Nat) (z' : PyData), m < j → ds[m]? = some z' → PyData.eqv z' d = false
  | d, [], j, h => by cases h
  | d, x :: xs, j, h => by
    unfold placeD at h
    by_cases q : PyData.eqv x d = true
    · rw [if_pos q] at h
      cases h
      exact ⟨x, rfl, q, fun m z' hm => absurd hm (Nat.not_lt_zero m)⟩
    · rw [if_neg q] at h
      cases r : placeD d xs with
      | none => rw [r] at h; cases h
      | some k =>
        rw [r] at h
        cases h
        obtain ⟨z, h1, h2, h3⟩ := placeD_some r
        refine ⟨z, by simpa using h1, h2, fun m z' hm hz => ?_⟩
        cases m with
        | zero =>
          have : x = z' := by simpa using hz
          subst this
          exact Bool.eq_false_iff.mpr q
        | succ m => exact h3 m z' (by have hm : m + 1 < k + 1 := hm; omega) (by simpa using hz)
def rMt (K : PySem.W.Frag) (f : D → List D → Rs D) : V → List V → Hp → VK → Prop := fun x vs H Q => ∃ d ds G, Same G H ∧ Dp K G x d ∧ DpAll K G vs ds ∧ PoQ K G H (f d ds) Q
theorem mIndex (hu : X.A.units + 65 < cLine) : MtR X "list.index" (rMt X.K indexD) := by
  intro pins s σ H x xs v us Q I rx rxs h
  obtain ⟨d, ds, G, sg, hd, hds, p⟩ := h
  unfold indexD at p
  split at p
  · rename_i ys e
    obtain ⟨v1, rfl, h1⟩ := one_of hds
    obtain ⟨g, p⟩ := PoQ.grd p
    rw [Bool.and_eq_true] at g
    cases q : placeD e ys with
    | none => rw [q] at p; exact p.elim
    | some j =>
      rw [q] at p
      obtain ⟨z, e1, e2, e3⟩ := placeD_some q
      cases hd with
      | lst qa ra =>
        rename_i a vs
        exact mt_indexD hu pins s σ H _ _ v us Q I rx rxs ⟨a, v1, e, ys, j, z, rfl, rfl, .lst (sg.seq qa) ((DpAll_mono sg ra).dp (nodAll_lay (SeqAt.canLay_of_shaped g.1))), (Dp_mono sg h1).dp (nod_lay (SeqAt.canLay_of_shaped g.2)), g.1, g.2, e1, e2, e3, p _ G H (Stp.refl sg) (.int _)⟩
  · exact p.elim
theorem pE_index (hK : c.K = X.K) (hu : X.A.units + 65 < cLine) {a e : Expr} {es : List Expr} {ra : Env → Rs D} {rs : Env → Rs (List D)} {apos cpos : Pos} (ha : PE X a (tE c ra)) (hs : PA X (e :: es) (tL c rs)) (hab : abE a = true) (hl : (apos.endLine == cpos.line) = true) (hp : (e :: es).all plE = true) (h20 : es.length < 20) :
    PE X (.Call (.Attribute a "index" apos) (e :: es) [] cpos) (tE c fun ρ => (ra ρ).bind fun x => grd (isLst x) ((rs ρ).bind fun ds => (indexD x ds).quiet)) := by
  have hp' := hp
  rw [List.all_cons, Bool.and_eq_true] at hp
  have hfew : ((backTo cpos (starEach (e :: es) X.env)).all (fun x => !x.1) && (backToKw cpos (keywordEach [] X.env)).all (fun x => x.1.isSome)
      && decide ((e :: es).length + ([] : List Keyword).length + (if ([] : List Keyword).isEmpty then 0 else 1) < 30)) = true := by
    rw [backA hp', Bool.true_and, Bool.and_eq_true]
    refine ⟨rfl, decide_eq_true ?_⟩
    show es.length + 1 + 0 + 0 < 30
    omega
  refine PE.mono (pe_bm PySem.F.plainAttrs_list PySem.F.slot_list_index PySem.F.type_list_index (mIndex hu) ha hs (abB hab) hfew hl (starB hp.1) (backF hp.2)) fun σ H Q ⟨ρ, G, sg, e', p⟩ => ?_
  dsimp only at p
  refine tG.first sg e' p fun d u G1 H1 s1 e1 st rd p1 => ?_
  rw [hK] at rd
  cases rd with
  | lst qa ra' =>
    rename_i ad vs xs
    refine ⟨.inl ⟨rfl, vs, s1.seq qa⟩, ?_⟩
    have p2 : PoG (Dp c.K) c σ G1 H1 ((rs ρ).bind fun ds => (indexD (.list xs) ds).quiet) Q := p1
    refine tG.first s1 e1 p2 fun ds0 us G2 H2 s2 e2 st2 rd2 p3 => ?_
    refine ⟨.list xs, ds0, G2, s2, .lst (st2.gg.seq qa) (DpAll_mono st2.gg ra'), by rw [← hK]; exact rd2, ?_⟩
    rw [← hK]
    exact PoG.q p3
  | non => exact (show False from p1).elim
  | dct => exact (show False from p1).elim
  | bl => exact (show False from p1).elim
  | int => exact (show False from p1).elim
  | str => exact (show False from p1).elim
  | tup => exact (show False from p1).elim
theorem mCount (hu : X.A.units + 65 < cLine) : MtR X "list.count" (rMt X.K countD) := by
  intro pins s σ H x xs v us Q I rx rxs h
  obtain ⟨d, ds, G, sg, hd, hds, p⟩ := h
  unfold countD at p
  split at p
  · rename_i ys e
    obtain ⟨v1, rfl, h1⟩ := one_of hds
    obtain ⟨g, p⟩ := PoQ.grd p
    rw [Bool.and_eq_true] at g
    cases hd with
    | lst qa ra =>
      cases rx
      cases rxs with
      | cons ry rt =>
        cases rt
        obtain ⟨its, rv, q, _⟩ := I.list (sg.seq qa)
        obtain ⟨as, rr⟩ := Dp.readsAll I _ _ _ (DpAll_mono sg ra) rv (SeqAt.canLay_of_shaped g.1)
        obtain ⟨bs, r1⟩ := Dp.reads I e _ _ (Dp_mono sg h1) ry (SeqAt.canLay_of_shaped g.2)
        have c1 : PyData.canLayAll0 ys = true := SeqAt.canLay_of_shaped g.1
        have c2 : e.canLay0 = true := SeqAt.canLay_of_shaped g.2
        exact PySem.SeqAt.count_list_data q.isList (by simpa using rr) r1 (PyData.plainAll_of_canLay0 _ c1) (PyData.plain_of_canLay0 _ c2) (room_in_shaped g.2 hu) ⟨.int _, H, I.tok _, ⟨_, rfl⟩, p _ G H (Stp.refl sg) (.int _)⟩
  · exact p.elim
theorem pE_count (hK : c.K = X.K) (hu : X.A.units + 65 < cLine) {a e : Expr} {es : List Expr} {ra : Env → Rs D} {rs : Env → Rs (List D)} {apos cpos : Pos} (ha : PE X a (tE c ra)) (hs : PA X (e :: es) (tL c rs)) (hab : abE a = true) (hl : (apos.endLine == cpos.line) = true) (hp : (e :: es).all plE = true) (h20 : es.length < 20) :
    PE X (.Call (.Attribute a "count" apos) (e :: es) [] cpos) (tE c fun ρ => (ra ρ).bind fun x => grd (isLst x) ((rs ρ).bind fun ds => (countD x ds).quiet)) := by
  have hp' := hp
  rw [List.all_cons, Bool.and_eq_true] at hp
  have hfew : ((backTo cpos (starEach (e :: es) X.env)).all (fun x => !x.1) && (backToKw cpos (keywordEach [] X.env)).all (fun x => x.1.isSome)
      && decide ((e :: es).length + ([] : List Keyword).length + (if ([] : List Keyword).isEmpty then 0 else 1) < 30)) = true := by
    rw [backA hp', Bool.true_and, Bool.and_eq_true]
    refine ⟨rfl, decide_eq_true ?_⟩
    show es.length + 1 + 0 + 0 < 30
    omega
  refine PE.mono (pe_bm PySem.F.plainAttrs_list PySem.F.slot_list_count PySem.F.type_list_count (mCount hu) ha hs (abB hab) hfew hl (starB hp.1) (backF hp.2)) fun σ H Q ⟨ρ, G, sg, e', p⟩ => ?_
  dsimp only at p
  refine tG.first sg e' p fun d u G1 H1 s1 e1 st rd p1 => ?_
  rw [hK] at rd
  cases rd with
  | lst qa ra' =>
    rename_i ad vs xs
    refine ⟨.inl ⟨rfl, vs, s1.seq qa⟩, ?_⟩
    have p2 : PoG (Dp c.K) c σ G1 H1 ((rs ρ).bind fun ds => (countD (.list xs) ds).quiet) Q := p1
    refine tG.first s1 e1 p2 fun ds0 us G2 H2 s2 e2 st2 rd2 p3 => ?_
    refine ⟨.list xs, ds0, G2, s2, .lst (st2.gg.seq qa) (DpAll_mono st2.gg ra'), by rw [← hK]; exact rd2, ?_⟩
    rw [← hK]
    exact PoG.q p3
  | non => exact (show False from p1).elim
  | dct => exact (show False from p1).elim
  | bl => exact (show False from p1).elim
  | int => exact (show False from p1).elim
  | str => exact (show False from p1).elim
  | tup => exact (show False from p1).elim
theorem mCountS : MtR X "str.count" (rMt X.K countSD) := by
  intro pins s σ H x xs v us Q I rx rxs h
  obtain ⟨d, ds, G, sg, hd, hds, p⟩ := h
  unfold countSD at p
  split at p
  · rename_i a z
    obtain ⟨v1, rfl, h1⟩ := one_of hds
    split at p
    · rename_i c e
      have ez : z = ⟨#[c]⟩ := by
        cases z with
        | mk b =>
          congr
          apply Array.toList_inj.mp
          exact e
      subst ez
      cases hd with
      | str => cases h1 with
        | str =>
          refine mt_count pins s σ H _ _ v us Q I rx rxs ⟨a, ⟨#[c]⟩, rfl, rfl, ?_⟩
          have ec : Txt.count a ⟨#[c]⟩ = ((a.cps.toList.count c : Nat) : Int) := by
            rw [PyProof.Rows.count_cnt]
            generalize a.cps.toList = l
            induction l with
            | nil => rfl
            | cons n l ih =>
              rw [PyProof.Rows.cnt_cons, ih, List.count_cons]
              by_cases q : n = c
              · subst q; simp; omega
              · simp [q]
          rw [ec]
          exact p _ G H (Stp.refl sg) (.int _)
    · exact p.elim
  · exact p.elim
theorem pE_countS (hK : c.K = X.K) (hu : X.A.units + 65 < cLine) {a e : Expr} {es : List Expr} {ra : Env → Rs D} {rs : Env → Rs (List D)} {apos cpos : Pos} (ha : PE X a (tE c ra)) (hs : PA X (e :: es) (tL c rs)) (hab : abE a = true) (hl : (apos.endLine == cpos.line) = true) (hp : (e :: es).all plE = true) (h20 : es.length < 20) :
    PE X (.Call (.Attribute a "count" apos) (e :: es) [] cpos) (tE c fun ρ => (ra ρ).bind fun x => grd (isStrD x) ((rs ρ).bind fun ds => (countSD x ds).quiet)) := by
  have hp' := hp
  rw [List.all_cons, Bool.and_eq_true] at hp
  have hfew : ((backTo cpos (starEach (e :: es) X.env)).all (fun x => !x.1) && (backToKw cpos (keywordEach [] X.env)).all (fun x => x.1.isSome)
      && decide ((e :: es).length + ([] : List Keyword).length + (if ([] : List Keyword).isEmpty then 0 else 1) < 30)) = true := by
    rw [backA hp', Bool.true_and, Bool.and_eq_true]
    refine ⟨rfl, decide_eq_true ?_⟩
    show es.length + 1 + 0 + 0 < 30
    omega
  refine PE.mono (pe_bm PySem.F.plainAttrs_str PySem.F.slot_str_count PySem.F.type_str_count mCountS ha hs (abB hab) hfew hl (starB hp.1) (backF hp.2)) fun σ H Q ⟨ρ, G, sg, e', p⟩ => ?_
  dsimp only at p
  refine tG.first sg e' p fun d u G1 H1 s1 e1 st rd p1 => ?_
  rw [hK] at rd
  cases rd with
  | str z =>
    refine ⟨rfl, ?_⟩
    have p2 : PoG (Dp c.K) c σ G1 H1 ((rs ρ).bind fun ds => (countSD (.str z) ds).quiet) Q := p1
    refine tG.first s1 e1 p2 fun ds0 us G2 H2 s2 e2 st2 rd2 p3 => ?_
    refine ⟨.str z, ds0, G2, s2, .str z, by rw [← hK]; exact rd2, ?_⟩
    rw [← hK]
    exact PoG.q p3
  | non => exact (show False from p1).elim
  | dct => exact (show False from p1).elim
  | bl => exact (show False from p1).elim
  | int => exact (show False from p1).elim
  | lst => exact (show False from p1).elim
  | tup => exact (show False from p1).elim
theorem strs_dp {K : PySem.W.Frag} {G : Hp} : ∀ ys : List Str, DpAll K G (ys.map V.str) (ys.map PyData.str)
  | [] => .nil
  | y :: ys => .cons (.str y) (strs_dp ys)
theorem mSplitS : MtR X "str.split" (rMt X.K splitSD) := by
  intro pins s σ H x xs v us Q I rx rxs h
  obtain ⟨d, ds, G, sg, hd, hds, p⟩ := h
  unfold splitSD at p
  split at p
  · rename_i a z
    obtain ⟨v1, rfl, h1⟩ := one_of hds
    obtain ⟨g, p⟩ := PoQ.grd p
    rw [Bool.and_eq_true, Nat.ble_eq, Nat.ble_eq] at g
    cases hd with
    | str => cases h1 with
      | str =>
        refine mt_split pins s σ H _ _ v us Q I rx rxs ⟨a, z, rfl, rfl, ?_, by rw [sizeLine_eq]; omega, fun q hq => ?_⟩
        · rw [beq_eq_false_iff_ne]; omega
        · exact p _ _ _ (Stp.new sg hq) (.lst (SqL.of upd_same) (strs_dp _))
  · exact p.elim
theorem mIndexS : MtR X "str.index" (rMt X.K indexSD) := by
  intro pins s σ H x xs v us Q I rx rxs h
  obtain ⟨d, ds, G, sg, hd, hds, p⟩ := h
  unfold indexSD at p
  split at p
  · rename_i a z
    obtain ⟨v1, rfl, h1⟩ := one_of hds
    cases q : Builtin.Str.occurrences a z 0 a.length 1 with
    | nil => rw [q] at p; exact p.elim
    | cons i rest =>
      rw [q] at p
      cases hd with
      | str => cases h1 with
        | str => exact mt_sindex pins s σ H _ _ v us Q I rx rxs ⟨a, z, i, rest, rfl, rfl, q, p _ G H (Stp.refl sg) (.int _)⟩
  · exact p.elim
theorem pE_splitS (hK : c.K = X.K) (hu : X.A.units + 65 < cLine) {a e : Expr} {es : List Expr} {ra : Env → Rs D} {rs : Env → Rs (List D)} {apos cpos : Pos} (ha : PE X a (tE c ra)) (hs : PA X (e :: es) (tL c rs)) (hab : abE a = true) (hl : (apos.endLine == cpos.line) = true) (hp : (e :: es).all plE = true) (h20 : es.length < 20) :
    PE X (.Call (.Attribute a "split" apos) (e :: es) [] cpos) (tE c fun ρ => (ra ρ).bind fun x => grd (isStrD x) ((rs ρ).bind fun ds => (splitSD x ds).quiet)) := by
  have hp' := hp
  rw [List.all_cons, Bool.and_eq_true] at hp
  have hfew : ((backTo cpos (starEach (e :: es) X.env)).all (fun x => !x.1) && (backToKw cpos (keywordEach [] X.env)).all (fun x => x.1.isSome)
      && decide ((e :: es).length + ([] : List Keyword).length + (if ([] : List Keyword).isEmpty then 0 else 1) < 30)) = true := by
    rw [backA hp', Bool.true_and, Bool.and_eq_true]
    refine ⟨rfl, decide_eq_true ?_⟩
    show es.length + 1 + 0 + 0 < 30
    omega
  refine PE.mono (pe_bm PySem.F.plainAttrs_str PySem.F.slot_str_split PySem.F.type_str_split mSplitS ha hs (abB hab) hfew hl (starB hp.1) (backF hp.2)) fun σ H Q ⟨ρ, G, sg, e', p⟩ => ?_
  dsimp only at p
  refine tG.first sg e' p fun d u G1 H1 s1 e1 st rd p1 => ?_
  rw [hK] at rd
  cases rd with
  | str z =>
    refine ⟨rfl, ?_⟩
    have p2 : PoG (Dp c.K) c σ G1 H1 ((rs ρ).bind fun ds => (splitSD (.str z) ds).quiet) Q := p1
    refine tG.first s1 e1 p2 fun ds0 us G2 H2 s2 e2 st2 rd2 p3 => ?_
    refine ⟨.str z, ds0, G2, s2, .str z, by rw [← hK]; exact rd2, ?_⟩
    rw [← hK]
    exact PoG.q p3
  | non => exact (show False from p1).elim
  | dct => exact (show False from p1).elim
  | bl => exact (show False from p1).elim
  | int => exact (show False from p1).elim
  | lst => exact (show False from p1).elim
  | tup => exact (show False from p1).elim
theorem pE_indexS (hK : c.K = X.K) (hu : X.A.units + 65 < cLine) {a e : Expr} {es : List Expr} {ra : Env → Rs D} {rs : Env → Rs (List D)} {apos cpos : Pos} (ha : PE X a (tE c ra)) (hs : PA X (e :: es) (tL c rs)) (hab : abE a = true) (hl : (apos.endLine == cpos.line) = true) (hp : (e :: es).all plE = true) (h20 : es.length < 20) :
    PE X (.Call (.Attribute a "index" apos) (e :: es) [] cpos) (tE c fun ρ => (ra ρ).bind fun x => grd (isStrD x) ((rs ρ).bind fun ds => (indexSD x ds).quiet)) := by
  have hp' := hp
  rw [List.all_cons, Bool.and_eq_true] at hp
  have hfew : ((backTo cpos (starEach (e :: es) X.env)).all (fun x => !x.1) && (backToKw cpos (keywordEach [] X.env)).all (fun x => x.1.isSome)
      && decide ((e :: es).length + ([] : List Keyword).length + (if ([] : List Keyword).isEmpty then 0 else 1) < 30)) = true := by
    rw [backA hp', Bool.true_and, Bool.and_eq_true]
    refine ⟨rfl, decide_eq_true ?_⟩
    show es.length + 1 + 0 + 0 < 30
    omega
  refine PE.mono (pe_bm PySem.F.plainAttrs_str PySem.F.slot_str_index PySem.F.type_str_index mIndexS ha hs (abB hab) hfew hl (starB hp.1) (backF hp.2)) fun σ H Q ⟨ρ, G, sg, e', p⟩ => ?_
  dsimp only at p
  refine tG.first sg e' p fun d u G1 H1 s1 e1 st rd p1 => ?_
  rw [hK] at rd
  cases rd with
  | str z =>
    refine ⟨rfl, ?_⟩
    have p2 : PoG (Dp c.K) c σ G1 H1 ((rs ρ).bind fun ds => (indexSD (.str z) ds).quiet) Q := p1
    refine tG.first s1 e1 p2 fun ds0 us G2 H2 s2 e2 st2 rd2 p3 => ?_
    refine ⟨.str z, ds0, G2, s2, .str z, by rw [← hK]; exact rd2, ?_⟩
    rw [← hK]
    exact PoG.q p3
  | non => exact (show False from p1).elim
  | dct => exact (show False from p1).elim
  | bl => exact (show False from p1).elim
  | int => exact (show False from p1).elim
  | lst => exact (show False from p1).elim
  | tup => exact (show False from p1).elim
theorem strs_of {K : PySem.W.Frag} {G : Hp} : ∀ {vs : List V} {ds : List D} {ys : List Str}, DpAll K G vs ds → strsD ds = .ok ys → vs = ys.map V.str
  | _, _, _, .nil, h => by cases h; rfl
  | _, _, ys, .cons (d := d) (ds := ds) a b, h => by
    cases a with
    | str x =>
      unfold strsD at h
      cases q : strsD ds with
      | ok m =>
        rw [q] at h
        have e : x :: m = ys := by injection h
        subst e
        rw [strs_of b q]; rfl
      | ex e => rw [q] at h; cases h
      | no => rw [q] at h; cases h
    | non => unfold strsD at h; cases h
    | dct => unfold strsD at h; cases h
    | bl => unfold strsD at h; cases h
    | int => unfold strsD at h; cases h
    | lst => unfold strsD at h; cases h
    | tup => unfold strsD at h; cases h
theorem mJoinS : MtR X "str.join" (rMt X.K joinSD) := by
  intro pins s σ H x xs v us Q I rx rxs h
  obtain ⟨d, ds, G, sg, hd, hds, p⟩ := h
  unfold joinSD at p
  split at p
  · rename_i a zs
    obtain ⟨v1, rfl, h1⟩ := one_of hds
    cases q : strsD zs with
    | ex e => rw [q] at p; exact p.elim
    | no => rw [q] at p; exact p.elim
    | ok ys =>
      rw [q] at p
      obtain ⟨g, p⟩ := PoQ.grd p
      rw [Nat.ble_eq] at g
      cases hd with
      | str => cases h1 with
        | lst qa ra =>
          rename_i ad vs
          have ev := strs_of ra q
          subst ev
          exact mt_join pins s σ H _ _ v us Q I rx rxs ⟨a, ad, ys, rfl, rfl, .inl (sg.seq qa), by omega, p _ G H (Stp.refl sg) (.str _)⟩
  · exact p.elim
theorem pE_joinS (hK : c.K = X.K) (hu : X.A.units + 65 < cLine) {a e : Expr} {es : List Expr} {ra : Env → Rs D} {rs : Env → Rs (List D)} {apos cpos : Pos} (ha : PE X a (tE c ra)) (hs : PA X (e :: es) (tL c rs)) (hab : abE a = true) (hl : (apos.endLine == cpos.line) = true) (hp : (e :: es).all plE = true) (h20 : es.length < 20) :
    PE X (.Call (.Attribute a "join" apos) (e :: es) [] cpos) (tE c fun ρ => (ra ρ).bind fun x => grd (isStrD x) ((rs ρ).bind fun ds => (joinSD x ds).quiet)) := by
  have hp' := hp
  rw [List.all_cons, Bool.and_eq_true] at hp
  have hfew : ((backTo cpos (starEach (e :: es) X.env)).all (fun x => !x.1) && (backToKw cpos (keywordEach [] X.env)).all (fun x => x.1.isSome)
      && decide ((e :: es).length + ([] : List Keyword).length + (if ([] : List Keyword).isEmpty then 0 else 1) < 30)) = true := by
    rw [backA hp', Bool.true_and, Bool.and_eq_true]
    refine ⟨rfl, decide_eq_true ?_⟩
    show es.length + 1 + 0 + 0 < 30
    omega
  refine PE.mono (pe_bm PySem.F.plainAttrs_str PySem.F.slot_str_join PySem.F.type_str_join mJoinS ha hs (abB hab) hfew hl (starB hp.1) (backF hp.2)) fun σ H Q ⟨ρ, G, sg, e', p⟩ => ?_
  dsimp only at p
  refine tG.first sg e' p fun d u G1 H1 s1 e1 st rd p1 => ?_
  rw [hK] at rd
  cases rd with
  | str z =>
    refine ⟨rfl, ?_⟩
    have p2 : PoG (Dp c.K) c σ G1 H1 ((rs ρ).bind fun ds => (joinSD (.str z) ds).quiet) Q := p1
    refine tG.first s1 e1 p2 fun ds0 us G2 H2 s2 e2 st2 rd2 p3 => ?_
    refine ⟨.str z, ds0, G2, s2, .str z, by rw [← hK]; exact rd2, ?_⟩
    rw [← hK]
    exact PoG.q p3
  | non => exact (show False from p1).elim
  | dct => exact (show False from p1).elim
  | bl => exact (show False from p1).elim
  | int => exact (show False from p1).elim
  | lst => exact (show False from p1).elim
  | tup => exact (show False from p1).elim
theorem dpRng (K : PySem.W.Frag) (G : Hp) (a b : Int) : DpAll K G (rgV a b) (rngD a b) := by
  unfold rgV rngD
  generalize List.range (b - a).toNat = l
  induction l with
  | nil => exact .nil
  | cons k l ih => exact .cons (.int _) ih
theorem rngOk {a b : Int} (h1 : inRng a = true) (h2 : inRng b = true) (h3 : few (b - a).toNat = true) : RgOk a b := by
  have h1 := inRng_iff.mp h1
  have h2 := inRng_iff.mp h2
  have h3 := few_iff.mp h3
  exact ⟨by omega, by omega, by omega, by omega, by omega⟩
theorem lrg_end {tp : Bool} {K : PySem.W.Frag} {G H : Hp} {a b : Int} {Q : VK} (sg : Same G H) (p : PoQ K G H (.ok (if tp = true then .tuple (rngD a b) else .list (rngD a b))) Q) (q : Addr) (hq : H q = none) : Q (.ref q) (upd H q (if tp = true then .tup (rgV a b) else .lst (rgV a b))) := by
  cases tp with
  | true => exact p _ _ _ (Stp.new (o := .tup (rgV a b)) sg hq) (.tup (SqT.of upd_same) (DpAll_mono (Same.upd (sg.free hq)) (dpRng K G a b)))
  | false => exact p _ _ _ (Stp.new (o := .lst (rgV a b)) sg hq) (.lst (SqL.of upd_same) (DpAll_mono (Same.upd (sg.free hq)) (dpRng K G a b)))
theorem pe_lrg {tp : Bool} {e : Expr} {te : L2.St → Hp → (Int → Int → Hp → Prop) → Prop} {x : Str} {p pos : Pos} (hc : X.calm = true) (hx : x = if tp = true then ("tuple" : Str) else "list") (hg : Gl X x) (hm : X.mg x = none) (he : PRg X e te) (na : starEach [e] X.env = (false, eval e X.env) :: starEach [] X.env) :
    PE X (.Call (.Name x p) [e] [] pos) (fun σ H Q => te σ H fun a b H1 => RgOk a b ∧ ∀ q, H1 q = none → Q (.ref q) (upd H1 q (if tp = true then .tup (rgV a b) else .lst (rgV a b)))) := by
  cases tp with
  | true => subst hx; exact pe_tupRg hc hg hm he na
  | false => subst hx; exact pe_listRg hc hg hm he na
theorem pE_lrg1 (hK : c.K = X.K) (hc : X.calm = true) {tp : Bool} {a : Expr} {ra : Env → Rs D} {x : Str} {p pos p2 pos2 : Pos} (hx : x = if tp = true then ("tuple" : Str) else "list") (hg : Gl X x) (hm : X.mg x = none) (hg2 : Gl X "range") (hm2 : X.mg "range" = none) (ha : PE X a (tE c ra)) (hp : plE a = true) :
    PE X (.Call (.Name x p) [.Call (.Name "range" p2) [a] [] pos2] [] pos) (tE c fun ρ => (ra ρ).bind fun x => (rngL tp [x]).quiet) := by
  refine PE.mono (pe_lrg (tp := tp) hc hx hg hm (prg_1 hg2 hm2 ha (starB hp)) (starB rfl)) fun σ H Q ⟨ρ, G, sg, e, q⟩ => ?_
  dsimp only at q
  refine tG.first sg e q fun d u G1 H1 s1 e1 st rd p1 => ?_
  rw [hK] at rd
  cases rd with
  | int j =>
    refine ⟨j, rfl, ?_⟩
    have p1 := PoG.q p1
    by_cases g : (inRng j && few j.toNat) = true
    · have g2 := g
      rw [Bool.and_eq_true] at g2
      have e2 : rngL tp [.int j] = .ok (if tp = true then .tuple (rngD 0 j) else .list (rngD 0 j)) := by
        show (grd (inRng j && few j.toNat) (Rs.ok (rngD 0 j))).map _ = _
        rw [g]; rfl
      rw [e2] at p1
      have g3 := few_iff.mp g2.2
      exact ⟨rngOk rfl g2.1 (few_iff.mpr (by omega)), fun q0 hq => lrg_end s1 p1 q0 hq⟩
    · have e2 : rngL tp [.int j] = .no := by
        show (grd (inRng j && few j.toNat) (Rs.ok (rngD 0 j))).map _ = _
        rw [Bool.eq_false_iff.mpr g]; rfl
      rw [e2] at p1
      exact p1.elim
  | lst => exact (show False from p1).elim
  | tup => exact (show False from p1).elim
  | non => exact (show False from p1).elim
  | dct => exact (show False from p1).elim
  | bl => exact (show False from p1).elim
  | str => exact (show False from p1).elim
theorem pE_lrg2 (hK : c.K = X.K) (hc : X.calm = true) {tp : Bool} {a b : Expr} {ra rb : Env → Rs D} {x : Str} {p pos p2 pos2 : Pos} (hx : x = if tp = true then ("tuple" : Str) else "list") (hg : Gl X x) (hm : X.mg x = none) (hg2 : Gl X "range") (hm2 : X.mg "range" = none) (ha : PE X a (tE c ra)) (hb : PE X b (tE c rb)) (hp : plE a = true) (hpb : plE b = true) :
    PE X (.Call (.Name x p) [.Call (.Name "range" p2) [a, b] [] pos2] [] pos) (tE c fun ρ => (ra ρ).bind fun x => (rb ρ).bind fun y => (rngL tp [x, y]).quiet) := by
  refine PE.mono (pe_lrg (tp := tp) hc hx hg hm (prg_2 hg2 hm2 ha hb (starB hp) (starB hpb) (backF (by rw [List.all_cons, hpb]; rfl))) (starB rfl)) fun σ H Q ⟨ρ, G, sg, e, q⟩ => ?_
  dsimp only at q
  refine tG.first sg e q fun d u G1 H1 s1 e1 st rd p1 => ?_
  refine tG.first s1 e1 p1 fun d2 u2 G2 H2 s2 e2 st2 rd2 p2 => ?_
  rw [hK] at rd rd2
  have no : ∀ {z : Rs D}, z = .no → PoG (Dp c.K) c σ G2 H2 z.quiet Q → False := fun {z} hz pp => by rw [hz] at pp; exact pp
  cases rd with
  | int i =>
    cases rd2 with
    | int j =>
      refine ⟨i, j, rfl, rfl, ?_⟩
      have p2 := PoG.q p2
      by_cases g : (inRng i && inRng j && few (j - i).toNat) = true
      · have g2 := g
        rw [Bool.and_eq_true, Bool.and_eq_true] at g2
        have e3 : rngL tp [.int i, .int j] = .ok (if tp = true then .tuple (rngD i j) else .list (rngD i j)) := by
          show (grd (inRng i && inRng j && few (j - i).toNat) (Rs.ok (rngD i j))).map _ = _
          rw [g]; rfl
        rw [e3] at p2
        exact ⟨rngOk g2.1.1 g2.1.2 g2.2, fun q0 hq => lrg_end s2 p2 q0 hq⟩
      · have e3 : rngL tp [.int i, .int j] = .no := by
          show (grd (inRng i && inRng j && few (j - i).toNat) (Rs.ok (rngD i j))).map _ = _
          rw [Bool.eq_false_iff.mpr g]; rfl
        rw [e3] at p2
        exact p2.elim
    | lst => exact (no rfl p2).elim
    | tup => exact (no rfl p2).elim
    | non => exact (no rfl p2).elim
    | dct => exact (no rfl p2).elim
    | bl => exact (no rfl p2).elim
    | str => exact (no rfl p2).elim
  | lst => exact (no (by cases rd2 <;> rfl) p2).elim
  | tup => exact (no (by cases rd2 <;> rfl) p2).elim
  | non => exact (no (by cases rd2 <;> rfl) p2).elim
  | dct => exact (no (by cases rd2 <;> rfl) p2).elim
  | bl => exact (no (by cases rd2 <;> rfl) p2).elim
  | str => exact (no (by cases rd2 <;> rfl) p2).elim
theorem pE_isi (hK : c.K = X.K) {a : Expr} {ra : Env → Rs D} {t : String} {p p2 pos : Pos} (ht : tyB t = true) (ha : PE X a (tE c ra)) (hp : plE a = true) (hg : Gl X "isinstance") (hm : X.mg "isinstance" = none) (hg2 : Gl X (Str.ofString t)) (hm2 : X.mg (Str.ofString t) = none) :
    PE X (.Call (.Name "isinstance" p) [a, .Name (Str.ofString t) p2] [] pos) (tE c fun ρ => (ra ρ).bind fun x => ((isiD t x).map .bool).quiet) := by
  have ht2 : t ∈ ["int", "bool", "str", "list", "tuple"] := List.contains_iff_mem.mp ht
  have fact : bootBuiltins (Str.ofString t) = some (.type t) ∧ Str.ofString t ≠ "__name__" ∧ (Str.ofString t == ("__debug__" : Str)) = false := by
    simp only [List.mem_cons, List.not_mem_nil, or_false] at ht2
    rcases ht2 with rfl | rfl | rfl | rfl | rfl <;> exact ⟨by decide +kernel, by decide +kernel, by decide +kernel⟩
  refine PE.mono (pe_callB (cIsi t ht2) hg hm (by decide +kernel) (pa_cons ha (pa_cons (pe_bltn (v := .ty t) hg2 hm2 fact.1 rfl fact.2.1 fact.2.2) pa_nil rfl) (starB hp)) (by decide +kernel) (by decide +kernel) (starB hp) rfl) fun σ H Q ⟨ρ, G, sg, e, p⟩ => ?_
  dsimp only at p
  refine tG.first sg e p fun d u G1 H1 s1 e1 st rd p1 => ?_
  rw [hK] at rd
  exact ⟨u, d, G1, rfl, s1, rd, by rw [← hK]; exact PoG.q p1⟩
theorem xn_at {K : Kx} {G H : Hp} {ρ : Env} {σ : L2.St} {i : Nat} {e : Xn} (en : EnvR K G H ρ σ) (h : ρ[i]? = some (.xn e)) : ∃ a, σ[i]? = some (some (.ref a)) ∧ K.2.1 = some (a, e) := by
  obtain ⟨v, h1, a, h2, h3⟩ := en.get h
  subst h2
  exact ⟨a, h1, h3⟩
theorem pE_isx {T : Tb} {k : Nat} (ok : Okx T c k true X) {i cl : Nat} {x z : Str} {p p2 p3 pos : Pos} (hi : X.N[i]? = some x) (hv : Vis X.env.scope x) (hd : ndb x = true) (hg : Gl X "isinstance") (hz : T.cls[cl]? = some z) (hgz : Gl X z) (hdz : ndb z = true) :
    PE X (.Call (.Name "isinstance" p) [.Name x p2, .Name z p3] [] pos) (tE c fun ρ => match ρ[i]? with | some (.xn e) => grd (decide (e.1 < T.cls.length) && decide (cl < T.cls.length)) (.ok (.bool (T.isa e.1 cl))) | _ => .no) := by
  constructor
  intro pins s σ H Q I ⟨ρ, G, sg, en, pp⟩
  dsimp only at pp
  cases q : ρ[i]? with
  | none => rw [q] at pp; exact pp.elim
  | some sl =>
    rw [q] at pp
    cases sl with
    | xn e =>
      have pp : PoG (Dp c.K) c σ G H (grd (decide (e.1 < T.cls.length) && decide (cl < T.cls.length)) (.ok (.bool (T.isa e.1 cl)))) Q := pp
      by_cases g : (decide (e.1 < T.cls.length) && decide (cl < T.cls.length)) = true
      · rw [g] at pp
        rw [Bool.and_eq_true, decide_eq_true_eq, decide_eq_true_eq] at g
        obtain ⟨a, h1, h2⟩ := xn_at en q
        have X1 := (ok.tb.cls cl z hz).mg
        have hr := ok.isE a e h2 rfl g.1
        refine (pe_callB hr hg (ok.tb.blt _ (by decide +kernel)) (by decide +kernel) (pa_cons (pe_var hi hv (ndb1 hd).1 (ndb1 hd).2) (pa_cons (pe_glob (v := .ref (c.ca cl)) hgz X1 rfl (ndb1 hdz).1) pa_nil rfl) rfl) (by decide +kernel) (by decide +kernel) rfl rfl).run pins s σ H Q I ?_
        exact ⟨.ref a, h1, .ref (c.ca cl), .ref (c.ca cl), T.isa e.1 cl, rfl, fun _ r => r, (ok.tb.isa e.1 cl g.1 g.2).1, pp _ G H (Stp.refl sg) (.bl _)⟩
      · rw [Bool.eq_false_iff.mpr g] at pp; exact pp.elim
    | un => exact pp.elim
    | fz => exact pp.elim
    | ow => exact pp.elim
    | nw => exact pp.elim
    | pt => exact pp.elim
    | od => exact pp.elim
theorem pE_isv {T : Tb} {k : Nat} (ok : Okx T c k true X) {i : Nat} {x : Str} {p p2 p3 pos : Pos} (hi : X.N[i]? = some x) (hv : Vis X.env.scope x) (hd : ndb x = true) (hg : Gl X "isinstance") (hgz : Gl X "ValueError") :
    PE X (.Call (.Name "isinstance" p) [.Name x p2, .Name "ValueError" p3] [] pos) (tE c fun ρ => match ρ[i]? with | some (.xn e) => grd (decide (e.1 < T.cls.length)) (.ok (.bool true)) | _ => .no) := by
  constructor
  intro pins s σ H Q I ⟨ρ, G, sg, en, pp⟩
  dsimp only at pp
  cases q : ρ[i]? with
  | none => rw [q] at pp; exact pp.elim
  | some sl =>
    rw [q] at pp
    cases sl with
    | xn e =>
      have pp : PoG (Dp c.K) c σ G H (grd (decide (e.1 < T.cls.length)) (.ok (.bool true))) Q := pp
      by_cases g : (decide (e.1 < T.cls.length)) = true
      · rw [g] at pp
        rw [decide_eq_true_eq] at g
        obtain ⟨a, h1, h2⟩ := xn_at en q
        have hr := ok.isE a e h2 rfl g
        obtain ⟨z, hz⟩ : ∃ z, T.cls[e.1]? = some z := ⟨_, List.getElem?_eq_getElem g⟩
        refine (pe_callB hr hg (ok.tb.blt _ (by decide +kernel)) (by decide +kernel) (pa_cons (pe_var hi hv (ndb1 hd).1 (ndb1 hd).2) (pa_cons (pe_bltn (v := .ty "ValueError") (u := .type "ValueError") hgz (ok.tb.blt _ (by decide +kernel)) (by decide +kernel) rfl (by decide +kernel) (by decide +kernel)) pa_nil rfl) rfl) (by decide +kernel) (by decide +kernel) rfl rfl).run pins s σ H Q I ?_
        exact ⟨.ref a, h1, .ty "ValueError", .type "ValueError", true, rfl, fun _ r => r, (ok.tb.cls e.1 z hz).ve, pp _ G H (Stp.refl sg) (.bl _)⟩
      · rw [Bool.eq_false_iff.mpr g] at pp; exact pp.elim
    | un => exact pp.elim
    | fz => exact pp.elim
    | ow => exact pp.elim
    | nw => exact pp.elim
    | pt => exact pp.elim
    | od => exact pp.elim
end
end Rf
set_option Elab.async false
set_option linter.all false
set_option maxRecDepth 100000
set_option maxHeartbeats 4000000
namespace Rf
open PySem PySem.Spec PyProof.Rows L2
theorem anB {a b : Bool} (h : (a && b) = true) : a = true ∧ b = true := by
  cases a <;> cases b <;> first | exact ⟨rfl, rfl⟩ | cases h
theorem tupI {e : Expr} (h : tupB e = true) : ∃ l k p, e = .Tuple l k p := by
  cases e <;> first | exact ⟨_, _, _, rfl⟩ | cases h
/-- what is walked, by its form -/
theorem itPI {X : Cx} {c : Cw} {k : It} {tg iter : Expr} {l : List Expr} {r : Env → Rs (List D)} {r1 : Env → Rs D} (hK : c.K = X.K) (hc : X.calm = true) (hm : ∀ x, x = ("range" : Str) ∨ x = ("enumerate" : Str) ∨ x = ("zip" : Str) → X.mg x = none) (h : itForm k tg X.env.scope iter = some l)
    (hs : PA X l (tL c r)) (hp : l.all plE = true) (hn : ∀ ρ ds, r ρ = .ok ds → ds.length = l.length) (h1 : l = [iter] → k = .seq → PE X iter (tE c r1) ∧ ∀ ρ, r ρ = (r1 ρ).map fun d => [d]) : PI X tg iter (tI c fun ρ => (r ρ).bind fun ds => (itD k ds).quiet) := by
  cases k with
  | seq =>
    have h : some [iter] = some l := h
    injection h with h
    subst h
    obtain ⟨he, hr⟩ := h1 rfl rfl
    refine PI.mono (pI_seq hK he) fun σ H R ⟨ρ, G, sg, en, p⟩ => ⟨ρ, G, sg, en, ?_⟩
    have e2 : (r ρ).bind (fun ds => (itD .seq ds).quiet) = (r1 ρ).bind fun d => (itsD d).quiet := by
      rw [hr]
      cases r1 ρ <;> rfl
    dsimp only at p
    rw [e2] at p
    exact p
  | rng =>
    unfold itForm at h
    dsimp only at h
    split at h
    · rename_i y p2 l0 ls pos2
      split at h
      · rename_i g
        obtain ⟨g, g3⟩ := anB g
        obtain ⟨g1, g2⟩ := anB g
        injection h with h
        subst h
        have e := of_decide_eq_true g1
        subst e
        have ll := of_decide_eq_true g3
        have hmr := hm "range" (.inl rfl)
        rcases ls with _ | ⟨b, _ | ⟨d, _ | ⟨d2, ls⟩⟩⟩
        · rw [List.all_cons, Bool.and_eq_true] at hp
          exact pI_rng1 hK (glG g2) hmr hs (starB hp.1) hn
        · rw [List.all_cons, Bool.and_eq_true, List.all_cons, Bool.and_eq_true] at hp
          exact pI_rng2 hK (glG g2) hmr hs (by rw [starB hp.1, starB hp.2.1]; rfl) (by rw [starB hp.2.1]; rfl) hn
        · rw [List.all_cons, Bool.and_eq_true] at hp
          exact pI_rng3 hK (glG g2) hmr hs (starB hp.1) (backF hp.2) hn
        · simp only [List.length_cons] at ll
          omega
      · cases h
    · cases h
  | enum =>
    unfold itForm at h
    dsimp only at h
    split at h
    · rename_i y p2 l0 pos2
      split at h
      · rename_i g
        obtain ⟨g, g3⟩ := anB g
        obtain ⟨g1, g2⟩ := anB g
        injection h with h
        subst h
        have e := of_decide_eq_true g1
        subst e
        obtain ⟨es, kk, tp, et⟩ := tupI g3
        subst et
        rw [List.all_cons, Bool.and_eq_true] at hp
        exact pI_en hK hc (glG g2) (hm "enumerate" (.inr (.inl rfl))) hs (starB hp.1) hn
      · cases h
    · cases h
  | zip =>
    unfold itForm at h
    dsimp only at h
    split at h
    · rename_i y p2 l0 ls pos2
      split at h
      · rename_i g
        obtain ⟨g, g4⟩ := anB g
        obtain ⟨g, g3⟩ := anB g
        obtain ⟨g1, g2⟩ := anB g
        injection h with h
        subst h
        have e := of_decide_eq_true g1
        subst e
        obtain ⟨es, kk, tp, et⟩ := tupI g3
        subst et
        have ll := of_decide_eq_true g4
        have hmz := hm "zip" (.inr (.inr rfl))
        rcases ls with _ | ⟨b, _ | ⟨d, _ | ⟨d2, ls⟩⟩⟩
        · simp only [List.length_cons, List.length_nil] at ll
          omega
        · rw [List.all_cons, Bool.and_eq_true] at hp
          exact pI_z2 hK hc (glG g2) hmz hs (starB hp.1) (backF hp.2) hn
        · rw [List.all_cons, Bool.and_eq_true] at hp
          exact pI_z3 hK hc (glG g2) hmz hs (starB hp.1) (backF hp.2) hn
        · simp only [List.length_cons] at ll
          omega
      · cases h
    · cases h
  | str => cases h
  | ez =>
    unfold itForm at h
    dsimp only at h
    split at h
    · rename_i y p2 z p3 a b pos3 pos2
      split at h
      · rename_i g
        obtain ⟨g, g5⟩ := anB g
        obtain ⟨g, g4⟩ := anB g
        obtain ⟨g, g3⟩ := anB g
        obtain ⟨g1, g2⟩ := anB g
        injection h with h
        subst h
        have e := of_decide_eq_true g1
        subst e
        have e := of_decide_eq_true g3
        subst e
        obtain ⟨es, kk, tp, et⟩ := tupI g5
        subst et
        rw [List.all_cons, Bool.and_eq_true] at hp
        exact pI_ez hK hc (glG g4) (hm "zip" (.inr (.inr rfl))) (glG g2) (hm "enumerate" (.inr (.inl rfl))) hs (starB hp.1) (backF hp.2) hn
      · cases h
    · cases h
end Rf
set_option Elab.async false
set_option linter.all false
set_option maxRecDepth 100000
set_option maxHeartbeats 4000000
namespace Rf
open PySem PySem.Spec PyProof.Rows L2
section
variable {X : Cx}
abbrev SI (w : World) (b : Addr) (U : Int → Bool) (k : Nat) : HO := L2.SetO w b U k
def tSci (w : World) (wi : TI) (g : TG) (tt : TT) (te : TE) (vs : List Nat) : TE := fun σ H Q => wi σ H fun J Ha => ∀ B, Ha B = none → ∃ W : Nat → Nat → Hp → Prop, (∃ m, W 0 m (L2.upd Ha B (SI w B (fun _ => false) 0))) ∧ ∀ i m Hb, W i m Hb →
  (J.stop i Hb ∧ Q (.ref B) Hb) ∨ (J.go i Hb ∧ ∃ Go : Hp → Prop, (∀ Hc, Go Hc → ∃ m2, m2 < m ∧ W (i + 1) m2 Hc) ∧ ∀ x Hc, J.yld i Hb x Hc → g x (L2.wipe σ vs) Hc fun σc Hd => L2.wipe σc vs = L2.wipe σ vs ∧ tt σc Hd fun b He =>
    if b = true then te σc He fun y Hf => ∃ (z : Int) (U : Int → Bool) (k : Nat), y = .int z ∧ Hf B = some (SI w B U k) ∧ k + 1 < scanBound ∧ Go (L2.upd Hf B (SI w B (fun j => U j || decide (j = z)) (if U z = true then k else k + 1))) else Go He)
theorem sci_core {pins : List (Addr × Obj)} {s : Shared} {σ : L2.St} {H : Hp} {Q : VK} {elt tg iter : Expr} {ifs : List Expr} {scope : Scope} {own : List (Str × Nat)} {pos pos2 : Pos} {wi : TI} {g : TG} {tt : TT} {te : TE} {use : Option (Value → Sem Unit)} {Qf : Value → Shared → Prop}
    (calm : X.calm = true) (nd : X.N.Nodup) (I : Inv X pins σ H s) (pi : PI X tg iter wi) (ok : BlkOk X.N X.env.scope scope own)
    (pgg : ∀ (s : Shared) (H : Hp) (C : Addr) (cl : List (Str × Addr)) (fp : List Addr), PG (X.blk s H scope (compEnvC scope cl C X.env) fp) tg g)
    (ptt : ∀ (s : Shared) (H : Hp) (C : Addr) (cl : List (Str × Addr)) (fp : List Addr), PTs (X.blk s H scope (compEnvC scope cl C X.env) fp) ifs tt)
    (pee : ∀ (s : Shared) (H : Hp) (C : Addr) (cl : List (Str × Addr)) (fp : List Addr), PE (X.blk s H scope (compEnvC scope cl C X.env) fp) elt te) (hset : ∀ x, foldedSetIterable iter X.env x = pure x)
    (h : tSci X.w wi g tt te (own.map (·.2)) σ H Q)
    (post : ∀ B C sz m Hz, Inv X pins σ Hz sz → Q (.ref B) Hz → sz.heap.Ns C m → FpOk X pins Hz C → compPost (model X.prog X.w) X.A X.xe use Qf (.ref B) C (.ok .next) sz) :
    wpAny (model X.prog X.w) X.A (comprehension (.SetComp elt [⟨tg, iter, ifs, 0⟩] scope pos) scope X.env pos2 (newSet (.type "set")) false (eval iter X.env) use) Qf X.xe s := by
  have frees : ∀ y ∈ scope.names, y.2 = .free → ∃ c, X.env.cells.lookup y.1 = some c := fun y hy ey =>
    (ok.free y hy ey).elim (fun k => I.ok.has _ (.inl k)) (fun k => I.ok.has _ (.inr k))
  refine wpAny_comprehension_free (use := use) rfl hset (closure_ok frees) ok.kind (fun y hy ey => by rw [ok.uniq y hy, ey]) (thn (pi.run pins s σ H _ I h) fun xv sa hx => thn hx fun itv sb hb => ?_)
  obtain ⟨it, fp, tn, J, Hb, e1, Ib, T, stb, fb, q⟩ := hb
  subst e1
  refine PpSet.newSet_ok (newEnv_comp ?_)
  generalize eB : sb.heap.objs.size = B
  have nB : Hb B = none := Ib.hok.fresh (Nat.le_of_eq eB)
  obtain ⟨W, ⟨m0, w0⟩, turn⟩ := q B nB
  let obj : Obj := { cls := .type "set", dict := none, data := .set #[] 0 (.fresh 0 0 (!X.w.params.followText "set-order")) }
  generalize esc : ({ sb with heap := sb.heap.push { cls := .type "set", dict := none, data := .set #[] 0 (.fresh 0 0 (!X.w.params.followText "set-order")) } } : Shared) = sc
  have hsc : sc.heap = sb.heap.push { cls := .type "set", dict := none, data := .set #[] 0 (.fresh 0 0 (!X.w.params.followText "set-order")) } := by rw [← esc]
  have Ic : Inv X pins σ (L2.upd Hb B (SI X.w B (fun _ => false) 0)) sc := by
    rw [← esc]
    refine Ib.laid (t' := sb.toks) (fun b o e => Heap.get?_push_of_some _ e) (Nat.le_of_eq eB) ?_
    rw [← eB]
    exact setO_new (setR_fresh X.w)
  have small : ∀ b ∈ fp, b < sb.heap.objs.size := fun b hb => by
    obtain ⟨o, eo, _⟩ := T.obj _ _ stb b hb
    exact Heap.lt_size eo
  have fc : ∀ b ∈ fp, FpOk X pins (L2.upd Hb B (SI X.w B (fun _ => false) 0)) b ∧ b < sc.heap.objs.size := fun b hb => by
    have lt := small b hb
    refine ⟨⟨?_, (fb b hb).2⟩, by rw [hsc, Heap.size_push]; exact Nat.lt_succ_of_lt lt⟩
    rw [upd_ne (by rw [← eB]; exact Nat.ne_of_lt lt)]
    exact (fb b hb).1
  have stc : tn 0 sc.heap := T.keep _ _ _ stb fun b _ o eo => by rw [hsc]; exact Heap.get?_push_of_some _ eo
  have Id := block_start Ic ok nd fc
  generalize eHc : L2.upd Hb B (SI X.w B (fun _ => false) 0) = Hc at *
  generalize eC : sc.heap.objs.size = C at *
  generalize ecl : cellsFrom (C + 1) scope.names (cloFrom X.env.cells scope.names []) = cl at *
  have pg := pgg sc Hc C cl fp
  have pt := ptt sc Hc C cl fp
  have pe := pee sc Hc C cl fp
  show codeAny _ _ (.compStart (.SetComp elt [⟨tg, iter, ifs, 0⟩] scope pos) 0 (.ref it) (.ref B) (compEnvC scope cl C X.env)) (compPost (model X.prog X.w) X.A X.xe use Qf (.ref B) C) { sc with heap := pushCells (sc.heap.push { cls := .type "dict", data := .dict #[] }) scope.names }
  have clear : ∀ b ∈ fp, Hc b = none := fun b hb => (fc b hb).1.1
  generalize ece : compEnvC scope cl C X.env = ce at Id pg pt pe ⊢
  have locC : ce.locals = C := by subst ece; rfl
  generalize esd : ({ sc with heap := pushCells (sc.heap.push { cls := .type "dict", data := .dict #[] }) scope.names } : Shared) = sd at Id ⊢
  have std : tn 0 sd.heap := T.keep _ _ _ stc fun b _ o eo => by rw [← esd]; exact pushCells_keeps _ _ _ _ (Heap.get?_push_of_some _ eo)
  have still : ∀ {σz : L2.St} {Hz : Hp} {sz : Shared}, Inv (X.blk sc Hc scope ce fp) [] σz Hz sz → (∀ b ∈ fp, Hz b = none) → ∀ b ∈ fp, FpOk (X.blk sc Hc scope ce fp) [] Hz b := fun {σz Hz sz} Iz hz b hb =>
    ⟨hz b hb, (Iz.ok.exf b hb).1, Iz.ok.exfs b hb, .inl hb, fun x c eo => (Iz.ok.exf b hb).2 x c eo, fun pp hpp => absurd (show pp ∈ ([] : List (Addr × Obj)) ++ [] from hpp) (by simp)⟩
  have loop : codeAny (model X.prog X.w) X.A (.compLoop (.SetComp elt [⟨tg, iter, ifs, 0⟩] scope pos) 0 (.ref it) (.ref B) ce) (compPost (model X.prog X.w) X.A X.xe use Qf (.ref B) C) sd := by
    refine PpSet.compLoopS_any (fun n sz => ∃ i Hz, Inv (X.blk sc Hc scope ce fp) [] (L2.wipe σ (own.map (·.2))) Hz sz ∧ tn i sz.heap ∧ (∀ b ∈ fp, Hz b = none) ∧ W i n Hz) ?_ m0 ⟨0, Hc, Id, std, clear, w0⟩
    rintro n se ⟨i, He, Ie, ste, ne, we⟩
    rcases turn i n He we with ⟨stop, fin⟩ | ⟨go, Go, hGo, step⟩
    · refine thnF (T.done (X.blk sc Hc scope ce fp) rfl rfl rfl calm i [] se _ He (fun _ _ => False) Ie (still Ie ne) ste stop) fun r sf ⟨hr, If⟩ => ?_
      subst hr
      have Ig : Inv X pins σ He sf := Ic.call' (ch := fp) If.os If.base If.hok If.bare fun b hb => ⟨(fc b hb).1.2.2.2.1, (fc b hb).1.2.1, (fc b hb).1.2.2.2.2.1, (fc b hb).1.2.2.2.2.2⟩
      have nC : He C = none := by
        have z : He ce.locals = none := If.free
        rwa [locC] at z
      obtain ⟨m, hn, _⟩ := If.loc
      have hn : sf.heap.Ns ce.locals m := hn
      rw [locC] at hn
      exact post B C sf m He Ig fin hn (Ic.fpOk (Nat.le_of_eq eC) nC)
    · refine thnF (T.item (X.blk sc Hc scope ce fp) rfl rfl rfl calm i [] se _ He (fun _ _ => False) Ie (still Ie ne) ste go) fun r sf ⟨u, hr, hf⟩ => ?_
      subst hr
      refine thnF hf fun _ sg ⟨x, Hg, Ig, rg, yg, stg, ng⟩ => ?_
      have Ip := Ig.pinned (still Ig ng) (T.obj _ _ stg)
      refine thnF (pg.run _ sg _ Hg x u _ Ip rg (step x Hg yg)) fun _ sh ⟨σh, Hh, Ih, hwh, qh⟩ => ?_
      refine thnF (pt.run _ sh σh Hh _ Ih qh) fun b si ⟨Hi, Ii, qi⟩ => ?_
      have fin : ∀ {sz : Shared} {Hz : Hp}, Inv (X.blk sc Hc scope ce fp) ([] ++ pinsAt fp sg.heap) σh Hz sz → Go Hz → ∃ m, m < n ∧ ∃ i Hz, Inv (X.blk sc Hc scope ce fp) [] (L2.wipe σ (own.map (·.2))) Hz sz ∧ tn i sz.heap ∧ (∀ b ∈ fp, Hz b = none) ∧ W i m Hz := fun {sz Hz} Iz gz => by
        obtain ⟨m2, hm, w2⟩ := hGo Hz gz
        have held : ∀ b ∈ fp, ∀ o, sg.heap.get? b = some o → sz.heap.get? b = some o ∧ Hz b = none := fun b hb o eo =>
          have z := Iz.pin (b, o) (List.mem_append_right _ (List.mem_append_right _ (mem_pinsAt hb eo)))
          ⟨z.1, z.2.1⟩
        have len : (L2.wipe σ (own.map (·.2))).length = σh.length := by rw [← hwh, wipe_length]
        refine ⟨m2, hm, i + 1, Hz, (Iz.unpinned (pins := [])).weak len (fun j v ev => ?_), T.keep _ _ _ stg fun b hb o eo => (held b hb o eo).1, fun b hb => ?_, w2⟩
        · rw [← hwh] at ev
          exact (wipe_some ev).1
        · obtain ⟨o, eo, _⟩ := T.obj _ _ stg b hb
          exact (held b hb o eo).2
      cases b with
      | false =>
        simp only [Bool.false_eq_true, if_false] at qi ⊢
        exact fin Ii qi
      | true =>
        simp only [if_true] at qi ⊢
        refine thnF (pe.run _ si σh Hi _ Ii qi) fun z sj ⟨yv, Hj, Ij, rj, zz, U, k, ey, hB, room, gg⟩ => ?_
        subst ey
        obtain ⟨tk, ez⟩ := rj
        subst ez
        refine setR_add (setO_get (X := X.blk sc Hc scope ce fp) Ij hB) room fun hh sb2 new => ?_
        have he : ∃ u, hh.get? B = some u := by
          obtain ⟨o, _, _, _, ho, _⟩ := new
          exact ⟨o, ho⟩
        exact fin (Ij.write (e := B) (t' := sj.toks + 1) (by rw [hB]; trivial) (.inl rfl) (fun b u hb hu => (sb2.2 b hb).trans hu) he (setO_new new)) gg
  exact PpSet.codeAny_compStart_set loop (T.self X.A 0 _ _ _ std loop)
theorem pe_sci {elt tg iter : Expr} {ifs : List Expr} {scope : Scope} {own : List (Str × Nat)} {pos : Pos} {wi : TI} {g : TG} {tt : TT} {te : TE} (calm : X.calm = true) (nd : X.N.Nodup) (pi : PI X tg iter wi) (ok : BlkOk X.N X.env.scope scope own)
    (pgg : ∀ (s : Shared) (H : Hp) (C : Addr) (cl : List (Str × Addr)) (fp : List Addr), PG (X.blk s H scope (compEnvC scope cl C X.env) fp) tg g)
    (ptt : ∀ (s : Shared) (H : Hp) (C : Addr) (cl : List (Str × Addr)) (fp : List Addr), PTs (X.blk s H scope (compEnvC scope cl C X.env) fp) ifs tt)
    (pee : ∀ (s : Shared) (H : Hp) (C : Addr) (cl : List (Str × Addr)) (fp : List Addr), PE (X.blk s H scope (compEnvC scope cl C X.env) fp) elt te) (hset : ∀ x, foldedSetIterable iter X.env x = pure x) :
    PE X (.SetComp elt [⟨tg, iter, ifs, 0⟩] scope pos) (tSci X.w wi g tt te (own.map (·.2))) := by
  constructor
  intro pins s σ H Q I h
  rw [PpSet.eval_SetComp]
  refine sci_core calm nd I pi ok pgg ptt pee hset h fun B C sz m Hz Iz q hn f => ⟨m, hn, fun hh sb => ?_⟩
  obtain ⟨z0, z1, z2, z3, z4, z5⟩ := f
  exact ⟨.ref B, Hz, Iz.turned (t' := sz.toks) (fun b o hb e => (sb.2 b hb).trans e) z0 z1 z3 z4 z5, rfl, q⟩
/-- len of a set of whole numbers -/
theorem cr_lenI : CallR X (.builtin "len") (fun vs H Q => ∃ (a : Addr) (U : Int → Bool) (n : Nat), vs = [V.ref a] ∧ H a = some (SI X.w a U n) ∧ Q (.int n) H) := by
  intro pins s σ H vs us Q I r h
  obtain ⟨a, U, n, rfl, ha, q⟩ := h
  have R := setO_get I ha
  rw [Vals.ref1 r]
  obtain ⟨o, es, ep, t, ho, hex, hd, g, nd, hm, hb, hf, hn, _⟩ := R
  refine PySem.call_len_set ho hex hd hf (by have : scanBound = 4096 := rfl; omega) ?_
  exact ⟨.int n, H, I.tok _, ⟨_, by rw [hn]⟩, q⟩
end
theorem mem_insU {x z : Int} : ∀ {l : List Int}, z ∈ insU x l ↔ z = x ∨ z ∈ l
  | [] => by simp [insU]
  | y :: l => by
    unfold insU
    split
    · simp
    · split
      · rename_i e; subst e; simp
      · rw [List.mem_cons, mem_insU, List.mem_cons]
        constructor
        · rintro (h | h | h)
          · exact .inr (.inl h)
          · exact .inl h
          · exact .inr (.inr h)
        · rintro (h | h | h)
          · exact .inr (.inl h)
          · exact .inl h
          · exact .inr (.inr h)
theorem insU_pw {x : Int} : ∀ {l : List Int}, l.Pairwise (· < ·) → (insU x l).Pairwise (· < ·)
  | [], _ => List.pairwise_singleton _ _
  | y :: l, h => by
    rw [List.pairwise_cons] at h
    unfold insU
    split
    · rename_i c
      rw [List.pairwise_cons, List.pairwise_cons]
      refine ⟨fun z hz => ?_, h⟩
      rcases List.mem_cons.mp hz with e | e
      · rw [e]; exact c
      · have := h.1 z e; omega
    · split
      · rw [List.pairwise_cons]; exact h
      · rename_i c1 c2
        rw [List.pairwise_cons]
        refine ⟨fun z hz => ?_, insU_pw h.2⟩
        rcases mem_insU.mp hz with e | e
        · rw [e]; omega
        · exact h.1 z e
theorem insU_len {x : Int} : ∀ {l : List Int}, l.Pairwise (· < ·) → (insU x l).length = if x ∈ l then l.length else l.length + 1
  | [], _ => rfl
  | y :: l, h => by
    rw [List.pairwise_cons] at h
    unfold insU
    split
    · rename_i c
      have : ¬ x ∈ y :: l := fun hm => by
        rcases List.mem_cons.mp hm with e | e
        · omega
        · have := h.1 x e; omega
      rw [if_neg this]; rfl
    · split
      · rename_i e
        rw [if_pos (by rw [e]; exact List.mem_cons_self)]
      · rename_i c1 c2
        rw [List.length_cons, insU_len h.2]
        by_cases c : x ∈ l
        · rw [if_pos c, if_pos (List.mem_cons_of_mem _ c)]; rfl
        · rw [if_neg c, if_neg (fun q => c ((List.mem_cons.mp q).resolve_left c2))]; rfl
theorem sortU_snoc (ns : List Int) (x : Int) : sortU (ns ++ [x]) = insU x (sortU ns) := by
  unfold sortU
  rw [List.foldl_append]; rfl
theorem sortU_pw (ns : List Int) : (sortU ns).Pairwise (· < ·) := by
  unfold sortU
  have : ∀ (ns l : List Int), l.Pairwise (· < ·) → (ns.foldl (fun l x => insU x l) l).Pairwise (· < ·) := by
    intro ns
    induction ns with
    | nil => exact fun l h => h
    | cons a ns ih => exact fun l h => ih _ (insU_pw h)
  exact this ns [] .nil
theorem mem_sortU {ns : List Int} {z : Int} : z ∈ sortU ns ↔ z ∈ ns := by
  unfold sortU
  have : ∀ (ns l : List Int), z ∈ ns.foldl (fun l x => insU x l) l ↔ z ∈ l ∨ z ∈ ns := by
    intro ns
    induction ns with
    | nil => intro l; simp
    | cons a ns ih =>
      intro l
      show z ∈ ns.foldl _ (insU a l) ↔ _
      rw [ih, mem_insU, List.mem_cons]
      constructor
      · rintro ((h | h) | h)
        · exact .inr (.inl h)
        · exact .inl h
        · exact .inr (.inr h)
      · rintro (h | h | h)
        · exact .inl (.inr h)
        · exact .inl (.inl h)
        · exact .inr h
  rw [this]; simp
theorem sortU_len (ns : List Int) (x : Int) : (sortU (ns ++ [x])).length = if x ∈ ns then (sortU ns).length else (sortU ns).length + 1 := by
  rw [sortU_snoc, insU_len (sortU_pw ns)]
  by_cases c : x ∈ ns
  · rw [if_pos c, if_pos (mem_sortU.mpr c)]
  · rw [if_neg c, if_neg fun q => c (mem_sortU.mp q)]
theorem ins_len_le {ms : List Int} : ∀ (ns : List Int), (sortU ms).length ≤ (sortU (ms ++ ns)).length
  | [] => by rw [List.append_nil]; exact Nat.le_refl _
  | n :: ns => by
    have h1 : ms ++ n :: ns = (ms ++ [n]) ++ ns := by rw [List.append_assoc]; rfl
    rw [h1]
    refine Nat.le_trans ?_ (ins_len_le (ms := ms ++ [n]) ns)
    rw [sortU_len]
    split <;> omega
theorem intsD_app : ∀ {as bs : List D} {ns : List Int}, intsD (as ++ bs) = .ok ns → ∃ p q, intsD as = .ok p ∧ intsD bs = .ok q ∧ ns = p ++ q
  | [], bs, ns, h => ⟨[], ns, rfl, h, rfl⟩
  | a :: as, bs, ns, h => by
    cases a with
    | int i =>
      have h : (intsD (as ++ bs)).map (i :: ·) = .ok ns := h
      obtain ⟨r, h1, h2⟩ := map_okI h
      obtain ⟨p, q, e1, e2, e3⟩ := intsD_app h1
      exact ⟨i :: p, q, by show (intsD as).map (i :: ·) = _; rw [e1]; rfl, e2, by rw [← h2, e3]; rfl⟩
    | _ => cases h
/-- an object that stands beside what is frozen -/
structure GrowO (G1 H1 : Hp) (Da : Addr) (o : HO) (G' H' : Hp) : Prop where
  st : Stp G1 H1 G' H'
  g : G' Da = none
  h : H' Da = some o
theorem GrowO.step {G1 H1 : Hp} {Da : Addr} {o : HO} {G2 H2 G3 H3 : Hp} (w : GrowO G1 H1 Da o G2 H2) (s : Stp G2 H2 G3 H3) : GrowO G1 H1 Da o G3 H3 := by
  refine ⟨w.st.trans s, ?_, s.hh Da _ w.h⟩
  cases z : G3 Da with
  | none => rfl
  | some o' =>
    have := s.nw Da o' z w.g
    rw [w.h] at this; cases this
theorem GrowO.put {G1 H1 : Hp} {Da : Addr} {o o2 : HO} {G2 H2 : Hp} (w : GrowO G1 H1 Da o G2 H2) (hD : H1 Da = none) : GrowO G1 H1 Da o2 G2 (L2.upd H2 Da o2) := by
  have ng : ∀ a o', G2 a = some o' → a ≠ Da := fun a o' z e => by rw [e, w.g] at z; cases z
  refine ⟨⟨fun a o' z => ?_, w.st.gg, fun a o' z => by rw [upd_ne (ng a o' z)]; exact w.st.gh a o' z, w.st.nw⟩, w.g, upd_same⟩
  have ne : a ≠ Da := fun e => by rw [e, hD] at z; cases z
  rw [upd_ne ne]
  exact w.st.hh a o' z
section
variable {X : Cx} {c : Cw}
theorem sciRead (hK : c.K = X.K) {own : List (Str × Nat)} {t : Tg} {ri : Env → Rs (List D)} {re : Env → Rs D} {ln : Bool} (ht : ∀ i ∈ t.slots, i ∈ own.map (·.2)) {σ : L2.St} {H : Hp} {Q Q2 : VK}
    (h : tE c (fun ρ => (ri ρ).bind fun its => ((gather (turnD t (fun _ => .ok true) re (own.map (·.2)) ρ) its).bind intsD).quiet.bind (sscD ln)) σ H Q)
    (hq : ∀ B G' H' ns, Same G' H' → H' B = some (SI X.w B (fun j => decide (j ∈ ns)) (sortU ns).length) → (sortU ns).length ≤ 63 → (∀ u G2 H2, Stp G' H' G2 H2 → Dp c.K G2 u (if ln = true then .int ((sortU ns).length : Nat) else .list ((sortU ns).map .int)) → Q u H2) → Q2 (.ref B) H') :
    tSci X.w (tI c ri) (tT c.calm t) (tBo c.calm fun _ => .ok true) (tE c.calm re) (own.map (·.2)) σ H Q2 := by
  obtain ⟨ρ, G, sg, e, p⟩ := h
  refine tG.first sg e p fun its J G1 H1 s1 e1 st wk p1 => ?_
  intro Da hD
  generalize hw : own.map (·.2) = vs at *
  generalize hf : turnD t (fun _ => Rs.ok true) re vs ρ = f at *
  cases q : gather f its with
  | ex x => exact absurd q (gather_nx its x)
  | no => rw [q] at p1; exact p1.elim
  | ok ds =>
    rw [q] at p1
    have p1 : PoG (Dp c.K) c σ G1 H1 ((intsD ds).quiet.bind (sscD ln)) Q := p1
    cases q2 : intsD ds with
    | ex x => rw [q2] at p1; exact p1.elim
    | no => rw [q2] at p1; exact p1.elim
    | ok ns =>
      rw [q2] at p1
      have p1 : PoG (Dp c.K) c σ G1 H1 (grd (Nat.ble (sortU ns).length 63) (.ok (if ln = true then .int ((sortU ns).length : Nat) else .list ((sortU ns).map .int)))) Q := p1
      by_cases g : Nat.ble (sortU ns).length 63 = true
      · rw [g] at p1
        have p2 : ∀ u G' H', Stp G1 H1 G' H' → Dp c.K G' u (if ln = true then .int ((sortU ns).length : Nat) else .list ((sortU ns).map .int)) → Q u H' := p1
        have g63 : (sortU ns).length ≤ 63 := by rwa [Nat.ble_eq] at g
        refine ⟨fun i m H => m = its.length - i ∧ i ≤ its.length ∧ ∃ G' pre ps, gather f (its.take i) = .ok pre ∧ intsD pre = .ok ps ∧ GrowO G1 H1 Da (SI X.w Da (fun j => decide (j ∈ ps)) (sortU ps).length) G' H,
          ⟨its.length, by simp, Nat.zero_le _, G1, [], [], rfl, rfl, ⟨Stp.beside s1 hD, s1.free hD, by rw [upd_same]; first | rfl | (congr 2; done) | (congr 2; funext j; simp)⟩⟩, fun i m H2 hW => ?_⟩
        obtain ⟨hm, hi2, G', pre, ps, hpre, hps, gw⟩ := hW
        by_cases hlt : i < its.length
        · refine .inr ⟨wk.go i H2 hlt (gw.st.gg.trans gw.st.gh), fun H' => ∃ G' pre ps, gather f (its.take (i + 1)) = .ok pre ∧ intsD pre = .ok ps ∧ GrowO G1 H1 Da (SI X.w Da (fun j => decide (j ∈ ps)) (sortU ps).length) G' H', fun H' hN' => ⟨its.length - (i + 1), by omega, rfl, by omega, hN'⟩, fun x H3 hy => ?_⟩
          obtain ⟨d, G3, ed, st3, hx⟩ := wk.yld i H2 x H3 G' hlt gw.st.gg gw.st.gh hy
          obtain ⟨sp1, sp2⟩ := take_split ed
          obtain ⟨pa, qa, ea, eb, ec⟩ := gather_app (f := f) (its.take i) ([d] ++ its.drop (i + 1)) ds (by rw [← sp1]; exact q)
          obtain ⟨pb, qb, ea2, eb2, ec2⟩ := gather_app (f := f) [d] (its.drop (i + 1)) qa eb
          obtain ⟨o, eo, eo2⟩ := gather_one ea2
          rw [hpre] at ea
          injection ea with ea
          subst ea
          have hnext : gather f (its.take (i + 1)) = .ok (pre ++ o.toList) := by rw [sp2]; exact gather_snoc eo _ _ hpre
          have gw3 := gw.step st3
          rw [← hf] at eo
          unfold turnD at eo
          obtain ⟨ρ1, h1, h2⟩ := bind_okI eo
          obtain ⟨bs, h3, h4⟩ := map_okI h1
          have h2 : (re ρ1).map some = .ok o := h2
          obtain ⟨y, h5, h6⟩ := map_okI h2
          subst h6
          -- the number
          obtain ⟨pp, qq, f1, f2, f3⟩ := intsD_app (as := pre) (bs := qa) (by rw [← ec]; exact q2)
          rw [hps] at f1
          injection f1 with f1
          subst f1
          obtain ⟨p3, q3, f4, f5, f6⟩ := intsD_app (as := [y]) (bs := qb) (by rw [ec2, eo2] at f2; exact f2)
          obtain ⟨z, ez⟩ : ∃ z, y = .int z := by cases y <;> first | exact ⟨_, rfl⟩ | cases f4
          subst ez
          have f4 : Rs.ok [z] = .ok p3 := f4
          injection f4 with f4
          subst f4
          have nps : intsD (pre ++ [.int z]) = .ok (ps ++ [z]) := by
            have : ∀ (l : List D) (ms : List Int), intsD l = .ok ms → intsD (l ++ [.int z]) = .ok (ms ++ [z]) := by
              intro l
              induction l with
              | nil => intro ms hm; cases hm; rfl
              | cons a l ih =>
                intro ms hm
                cases a with
                | int k =>
                  have hm : (intsD l).map (k :: ·) = .ok ms := hm
                  obtain ⟨r, r1, r2⟩ := map_okI hm
                  show (intsD (l ++ [.int z])).map (k :: ·) = _
                  rw [ih r r1, ← r2]; rfl
                | _ => cases hm
            exact this _ _ hps
          have le : (sortU (ps ++ [z])).length ≤ 63 := by
            have e0 : ns = (ps ++ [z]) ++ q3 := by rw [f3, f6, List.append_assoc]
            have e9 := ins_len_le (ms := ps ++ [z]) q3
            rw [← e0] at e9
            omega
          have E3 : EnvR c.kx G3 H3 (wipeE ρ vs) (wipe σ vs) := (e1.step gw3.st).wipe vs
          refine ⟨G3, d, st3.gh, hx, ?_⟩
          rw [h3]
          intro us hb
          have E4 : EnvR c.kx G3 H3 ρ1 (setAllV (wipe σ vs) us) := by
            rw [← h4]; exact E3.all hb
          refine ⟨by rw [wipe_setAll vs _ hb fun z hz => ht z.1 (bind_slots t d bs h3 z hz), wipe_twice], ⟨ρ1, G3, st3.gh, E4, ?_⟩⟩
          intro b' G4 H4 st4 eb'
          subst eb'
          rw [if_pos rfl]
          refine ⟨ρ1, G4, st4.gh, E4.step st4, ?_⟩
          rw [h5]
          intro u G5 H5 st5 hu
          have gw5 := (gw3.step st4).step st5
          have eu : u = .int z := by cases hu; rfl
          refine ⟨z, _, _, eu, gw5.h, ?_, G5, pre ++ [.int z], ps ++ [z], hnext, nps, ?_⟩
          · have : (sortU ps).length ≤ (sortU (ps ++ [z])).length := ins_len_le [z]
            have : scanBound = 4096 := rfl
            omega
          · have ge := gw5.put (o2 := SI X.w Da (fun j => decide (j ∈ ps ++ [z])) (sortU (ps ++ [z])).length) hD
            have e1 : (fun j => decide (j ∈ ps) || decide (j = z)) = fun j => decide (j ∈ ps ++ [z]) := by
              funext j
              rw [Bool.eq_iff_iff]
              simp
            have e2 : (if decide (z ∈ ps) = true then (sortU ps).length else (sortU ps).length + 1) = (sortU (ps ++ [z])).length := by
              rw [sortU_len]
              by_cases cz : z ∈ ps <;> simp [cz]
            rw [e1, e2]
            exact ge
        · have ei : i = its.length := by omega
          subst ei
          rw [List.take_length, q] at hpre
          injection hpre with hpre
          subst hpre
          rw [q2] at hps
          injection hps with hps
          subst hps
          exact .inl ⟨wk.stop H2 (gw.st.gg.trans gw.st.gh), hq Da G' H2 ns gw.st.gh gw.h g63 fun u G2 H2 s2 hu => p2 u G2 H2 (gw.st.trans s2) hu⟩
      · rw [Bool.eq_false_iff.mpr g] at p1; exact p1.elim
end
end Rf
set_option Elab.async false
set_option linter.all false
set_option maxRecDepth 100000
set_option maxHeartbeats 3900000
namespace Rf
open PySem PySem.Spec PyProof.Rows L2
section
variable {P : Program} {w : World} {A : Around} {E : Value → Shared → Prop} {s : Shared}
/-- a walk from its k-th item on -/
theorem walk_from {I : Addr} {fp wr : List Addr} {G : Array GenState → Array GenState → Prop} {n : Nat} {V1 : Nat → Value → Prop} {St : Nat → Shared → Prop} (W : WalksS P w A I fp wr G n V1 St) (k : Nat) (hk : k ≤ n) : WalksS P w A I fp wr G (n - k) (fun i => V1 (k + i)) (fun i => St (k + i)) :=
  { W with frame := fun i => W.frame (k + i), item := fun i s Q E lt => W.item (k + i) s Q E (by omega), done := fun s Q E st => W.done s Q E (by rwa [Nat.add_sub_cancel' hk] at st), self := fun i => W.self (k + i) }
/-- the first item, and a new list of the others -/
def Split (items : Array Value) (s : Shared) (Q : List Value → Shared → Prop) : Prop :=
  ∀ s2 x acc, Moved [] (fun a b => b = a) s s2 → items[0]? = some x → acc.size = items.size - 1 → (∀ (j : Nat) v, acc[j]? = some v → items[1 + j]? = some v) → Q [x, .ref s2.heap.objs.size] { s2 with heap := s2.heap.push { cls := .type "list", data := .seq acc } }
/-- a, *b = v where an iterator of v is a new object of class T, which walks over the items -/
theorem star_at {v r : Value} {l : Addr} {U T : String} {items : Array Value} {fp wr : List Addr} {St : Nat → Shared → Prop} {Q : List Value → Shared → Prop} (kind : T = "str_ascii_iterator" ∨ T = "str_iterator" ∨ T = "list_iterator" ∨ T = "tuple_iterator")
    (ty : s.TypeIs v U) (slot : typeLookup (.type U) "__iter__" = pure (some r)) (mine : ∀ b ∈ wr, b = s.heap.objs.size) (W : WalksS P w A.in1 s.heap.objs.size fp wr (fun a b => b = a) items.size (fun i v => items[i]? = some v) St) (own : s.heap.objs.size ∈ fp)
    (iter : ∀ (Q : Value → Shared → Prop) (E : Value → Shared → Prop), (∀ h1, (∀ b o, s.heap.get? b = some o → h1.get? b = some o) → St 0 { s with heap := h1 } → Q (.ref s.heap.objs.size) { s with heap := h1 }) → wpAny (model P w) A (pyIter v) Q E s)
    (typed : ∀ i s2, St i s2 → s2.TypeIs (.ref s.heap.objs.size) T) (below : ∀ i s2, St i s2 → ∀ b ∈ fp, b < s2.heap.objs.size) (some_ : 0 < items.size) (few : items.size ≤ sizeLine) (q : Split items s Q) : wpAny (model P w) A (unpackItems v 2 (some 1)) Q E s := by
  have asks : wpAny (model P w) A (notIterableAtAll v) (fun b s2 => b = false ∧ s2 = s) E s := wpAny_bind (wpAny_specialOf ty slot (wpAny_pure ⟨rfl, rfl⟩))
  unfold unpackItems
  refine wpAny_bind (thn asks fun b s2 ⟨eb, es⟩ => ?_)
  subst eb es
  refine wpAny_ite_false (by decide) (wpAny_bind (wpAny_holding (iter _ _ fun h1 k1 st0 => wpAny_bind (wpAny_holding ?_))))
  refine wpAny_bind (m := pyNext _) ((WalksS.of_in1 W).item 0 _ _ _ some_ st0 fun x s2 ex st2 m2 => wpAny_bind (wpAny_holding (wpAny_pure (wpAny_pure (wpAny_ite_false (by simp) ?_)))))
  refine wpAny_bind (wpAny_holding (wpAny_collect_iter kind (walk_from W 1 some_) (fun i s => typed (1 + i) s) st2 (below 1 s2 st2) own (fun s3 acc m3 io => wpAny_ite_false (by simp) ?_) (by omega)))
  have take_ : acc.toList.take (acc.toList.length - (2 - 1 - 1)) = acc.toList := List.take_of_length_le (Nat.le_refl _)
  have drop_ : acc.toList.drop (acc.toList.length - (2 - 1 - 1)) = [] := by simp
  have sz : acc.toList.length ≤ sizeLine := by have : acc.size = items.size - 1 := io.1; rw [Array.length_toList]; omega
  have m := m2.trans (fun _ _ _ e1 e2 => e2.trans e1) m3
  dsimp only
  rw [take_, drop_]
  exact wpAny_bind (wpAny_newList (wpAny_pure (q s3 x acc ⟨fun c o _ e => m.heap c o (fun mc => Nat.lt_irrefl _ (mine c mc ▸ Heap.lt_size e)) (k1 c o e), m.gens, m.drawn, m.os, m.toks⟩ ex io.1 io.2)) sz)
theorem star_list {l : Addr} {items : Array Value} {Q : List Value → Shared → Prop} (calm : A.handled = none) (at_ : s.heap.IsList l items) (some_ : 0 < items.size) (few : items.size ≤ sizeLine) (q : Split items s Q) : wpAny (model P w) A (unpackItems (.ref l) 2 (some 1)) Q E s := by
  have lt : l < s.heap.objs.size := let ⟨_, there, _⟩ := at_; Heap.lt_size there
  refine star_at (l := l) (.inr (.inr (.inl rfl))) at_.typeIs slot_list_iter.lookup (fun b m => List.mem_singleton.mp m) (Walks.list (A := A.in1) calm s.heap.objs.size l (Nat.ne_of_lt lt) items).toS (.head _) (fun Q E k => wpAny_pyIter_list at_ (k _ (fun _ _ => Heap.get?_push_of_some _) ⟨⟨_, Heap.get?_push_size _ rfl, rfl, rfl⟩, ?_⟩)) (fun i s2 st => st.1.typeIs) (fun i s2 st => ?_) some_ few q
  · let ⟨o, there, rest⟩ := at_
    exact ⟨o, Heap.get?_push_of_some _ there, rest⟩
  · let ⟨⟨_, e1, _⟩, ⟨_, e2, _⟩⟩ := st
    exact all2 (Heap.lt_size e1) (Heap.lt_size e2)
theorem star_tuple {l : Addr} {items : Array Value} {Q : List Value → Shared → Prop} (calm : A.handled = none) (at_ : s.heap.IsTuple l items) (some_ : 0 < items.size) (few : items.size ≤ sizeLine) (q : Split items s Q) : wpAny (model P w) A (unpackItems (.ref l) 2 (some 1)) Q E s := by
  have lt : l < s.heap.objs.size := let ⟨_, there, _⟩ := at_; Heap.lt_size there
  refine star_at (l := l) (.inr (.inr (.inr rfl))) at_.typeIs F.slot_tuple_iter.lookup (fun b m => List.mem_singleton.mp m) (Walks.tuple (A := A.in1) calm s.heap.objs.size l (Nat.ne_of_lt lt) items).toS (.head _) (fun Q E k => wpAny_pyIter_tuple at_ (k _ (fun _ _ => Heap.get?_push_of_some _) ⟨⟨_, Heap.get?_push_size _ rfl, rfl, rfl⟩, ?_⟩)) (fun i s2 st => st.1.typeIs) (fun i s2 st => ?_) some_ few q
  · let ⟨o, there, rest⟩ := at_
    exact ⟨o, Heap.get?_push_of_some _ there, rest⟩
  · let ⟨⟨_, e1, _⟩, ⟨_, e2, _⟩⟩ := st
    exact all2 (Heap.lt_size e1) (Heap.lt_size e2)
end
section
variable {X : Cx}
/-- a, *b = a list or a tuple with an item -/
def gStar (K : PySem.W.Frag) (t : TGs) : TG := fun v σ H Q => ∃ a x xs, v = .ref a ∧ (SqL K H a (x :: xs) ∨ SqT K H a (x :: xs)) ∧ ∀ q, H q = none → t [x, .ref q] σ (L2.upd H q (.lst xs)) Q
theorem vals_tail {x : V} {xs : List V} {its : List Value} {acc : Array Value} {y : Value} : Vals (x :: xs) its → its.toArray[0]? = some y → acc.size = its.toArray.size - 1 → (∀ (j : Nat) v, acc[j]? = some v → its.toArray[1 + j]? = some v) → RelV x y ∧ Vals xs acc.toList
  | .cons (b := u) (l₂ := us) r rr, h0, hz, ha => by
    have all_ : acc.toList = us := List.ext_getElem (by simpa using hz) fun j j1 j2 => by
      have e := ha j acc[j] (Array.getElem?_eq_getElem (by simpa using j1))
      rw [List.getElem?_toArray, Nat.add_comm, List.getElem?_cons_succ, List.getElem?_eq_getElem j2] at e
      exact (Option.some.inj e).symm
    cases (show some u = some y by simpa using h0)
    exact ⟨r, all_ ▸ rr⟩
theorem pg_star {x : Str} {px : Pos} {e : Expr} {sp : Pos} {k : Nat} {pos : Pos} {t : TGs} (hc : X.calm = true) (h : PGs X [.Name x px, e] t) (hp : plT e = true) : PG X (.Tuple [.Name x px, .Starred e sp] k pos) (gStar X.K t) := by
  constructor
  rintro pins s σ H _ u Q I r ⟨a, x1, xs, rfl, hq, hw⟩
  cases r
  have each_ : (assignEach [.Name x px, e] X.env).map (·.2) = [assign (.Name x px) X.env, assign e X.env] := by rw [asg_cons rfl, asg_cons hp]; rfl
  have split : ∀ {its : List Value}, Vals (x1 :: xs) its → its.length ≤ sizeLine → Split its.toArray s fun us s2 => wpAny (model X.prog X.w) X.A (assignInOrder [assign (.Name x px) X.env, assign e X.env] us) (fun _ s' => ∃ σ' H', Inv X pins σ' H' s' ∧ Q σ' H') X.xe s2 := by
    intro its rv few s2 y acc m e0 sz at_
    obtain ⟨r1, r2⟩ := vals_tail rv e0 sz at_
    obtain ⟨h2, g2, d2, t2, o2⟩ := s2
    cases m.gens
    cases m.drawn
    cases m.os
    have J : Inv X pins σ H { s with heap := h2, toks := t2 } := I.kept fun b o q => m.heap b o (by simp) q
    have room := J.hok.fresh (Nat.le_refl _)
    have len : xs.length ≤ sizeLine := by have := rv.length; simp only [List.length_cons] at this; omega
    have L := J.laid (t' := t2) (o := .lst xs) (fun _ _ => Heap.get?_push_of_some _) (Nat.le_refl _) ⟨len, acc.toList, 0, r2, Heap.get?_push_size h2 (o := { cls := .type "list", data := .seq acc }) rfl⟩
    exact each_ ▸ h.run pins _ σ _ [x1, .ref h2.objs.size] [y, .ref h2.objs.size] Q L (.cons r1 (.cons rfl .nil)) (hw _ room)
  rw [assign_Tuple]
  refine wpAny_bind (wpAny_standAt ?_)
  show wpAny _ _ (holding _ (unpackItems (.ref a) 2 (some 1)) >>= _) _ _ _
  refine wpAny_bind (wpAny_holding ?_)
  rcases hq with hq | hq
  · obtain ⟨its, rv, there, few⟩ := I.list hq
    have few : its.length ≤ sizeLine := rv.length ▸ few
    exact star_list (I.ok.hd hc) there.isList (by cases rv; simp) (by simpa using few) (split rv few)
  · obtain ⟨its, rv, there, few⟩ := I.tuple hq
    have few : its.length ≤ sizeLine := rv.length ▸ few
    exact star_tuple (I.ok.hd hc) there (by cases rv; simp) (by simpa using few) (split rv few)
end
end Rf
set_option Elab.async false
set_option linter.all false
set_option maxRecDepth 100000
set_option maxHeartbeats 4000000
namespace Rf
open PySem PySem.Spec PyProof.Rows L2
section
variable {P : Program} {w : World} {A : Around} {E : Value → Shared → Prop} {s : Shared}
abbrev newSet0 (w : World) : Obj := { cls := .type "set", dict := none, data := .set #[] 0 (.fresh 0 0 (!w.params.followText "set-order")) }
/-- the set's own filling -/
theorem fill_list {l : Addr} {us : Array Value} (ns : List Int) {B : Around} {s0 : Shared} {R : Result → Shared → Prop} (hh : B.handled = none) (hl : s0.heap.IsList l us) (hi : IntsAre us.toList ns) (hb : ns.length + 1 < scanBound)
    (hR : ∀ h' tk c, SetR w h' s0.heap.objs.size (fun j => decide (j ∈ ns)) c → c ≤ ns.length → (∀ b o, s0.heap.get? b = some o → h'.get? b = some o) → R (.ok (.ret .none)) { s0 with heap := h', toks := tk }) :
    codeAny (model P w) B (.builtin "set.update.loop" ⟨[.ref s0.heap.objs.size, .ref (s0.heap.objs.size + 1)], []⟩) R { s0 with heap := (s0.heap.push (newSet0 w)).push { cls := .type "list_iterator", data := .fields #[.ref l, .int 0 0] } } := by
  have ez : us.size = ns.length := (Array.length_toList (xs := us)).symm.trans hi.length
  have l0 : l < s0.heap.objs.size := let ⟨_, ho, _⟩ := hl; Heap.lt_size ho
  have e1 : (s0.heap.push (newSet0 w)).objs.size = s0.heap.objs.size + 1 := Heap.size_push ..
  have at_ : ∀ (i : Nat) (v : Value), us[i]? = some v → ∃ k t, ns[i]? = some k ∧ v = .int k t := by
    intro i v hv
    have hi2 : i < ns.length := by rw [← ez]; exact (Array.getElem?_eq_some_iff.mp hv).1
    obtain ⟨t, e⟩ := IntsAre.int_at hi i v (by rw [Array.getElem?_toList]; exact hv)
    exact ⟨_, t, List.getElem?_eq_getElem hi2, by rw [e, List.getD_eq_getElem?_getD, List.getElem?_eq_getElem hi2]; rfl⟩
  have g0 : (s0.heap.push (newSet0 w)).get? s0.heap.objs.size = some (newSet0 w) := Heap.get?_push_size _ rfl
  have hl1 : (s0.heap.push (newSet0 w)).IsList l us := by
    obtain ⟨o, ho, r⟩ := hl
    exact ⟨o, Heap.get?_push_of_some _ ho, r⟩
  have hI : ((s0.heap.push (newSet0 w)).push { cls := .type "list_iterator", data := .fields #[.ref l, .int 0 0] }).get? (s0.heap.objs.size + 1) = some { cls := .type "list_iterator", data := .fields #[.ref l, .int 0 0] } := by
    rw [← e1]; exact Heap.get?_push_size _ rfl
  refine set_update_ints (St := fun i s => s.heap.IsListIter (s0.heap.objs.size + 1) l i ∧ s.heap.IsList l us) (Pv := fun i v => us[i]? = some v) (n := us.size) (Walks.list (A := B.in1) (by simpa using hh) (s0.heap.objs.size + 1) l (Nat.ne_of_lt (Nat.lt_succ_of_lt l0)) us).toS s0.heap.objs.size (fun z => by
    rcases List.mem_cons.mp z with e | e
    · exact Nat.ne_of_lt (Nat.lt_succ_self _) e
    · exact Nat.ne_of_gt l0 (List.mem_singleton.mp e)) ns ez hb at_ us.size 0 _ (by omega) (Nat.zero_le _) ⟨⟨_, hI, rfl, rfl⟩, ?_⟩ ⟨0, Nat.le_refl _, setR_new_at (ns := ns) (Heap.get?_push_of_some _ g0)⟩ fun s2 c m hc q => ?_
  · obtain ⟨o, ho, r⟩ := hl1
    exact ⟨o, Heap.get?_push_of_some _ ho, r⟩
  · obtain ⟨h2, g2, d2, t2, o2⟩ := s2
    have eg : g2 = s0.gens := m.gens
    have ed : d2 = s0.drawn := m.drawn
    have eo : o2 = s0.os := m.os
    subst eg ed eo
    refine hR h2 t2 c q (by omega) fun b o e => m.heap b o ?_ (Heap.get?_push_of_some _ (Heap.get?_push_of_some _ e))
    have q := Heap.lt_size e
    intro z
    rcases List.mem_cons.mp z with e | e
    · exact Nat.ne_of_lt q e
    · exact Nat.ne_of_lt (Nat.lt_succ_of_lt q) (List.mem_singleton.mp e)
theorem set_of_list {l : Addr} {us : Array Value} (ns : List Int) {Q : Value → Shared → Prop} (hh : A.handled = none) (hl : s.heap.IsList l us) (hi : IntsAre us.toList ns) (hb : ns.length + 1 < scanBound)
    (h : ∀ (h' : Heap) (tk c : Nat), SetR w h' s.heap.objs.size (fun j => decide (j ∈ ns)) c → c ≤ ns.length → (∀ b o, s.heap.get? b = some o → h'.get? b = some o) → Q (.ref s.heap.objs.size) { s with heap := h', toks := tk }) :
    wpAny (model P w) A (call (.type "set") [.ref l]) Q E s := by
  have f1 := PySem.F.called_set.mro
  obtain ⟨c0, tl0, f1⟩ := f1
  have f2 := PySem.F.called_set.made
  have f3 := PySem.F.called_set.sub
  have f4 := PySem.F.called_set.notType
  have f5 := PySem.F.called_set.canCreate
  have f6 := PySem.F.typeCall_set_1 (.ref l)
  apply wpAny_call
  apply codeAny_of_tree
  show wpAny _ _ (callAny (.type "set") _) _ _ _
  apply wpAny_pure
  refine ⟨Code.quiet_builtin _ (by decide +kernel), ?_⟩
  apply codeAny_builtin PySem.F.entry_type_call
  rw [Around.under_plain (weight_type_call_type "set" [.ref l] []) rfl]
  repeat (any_goals (first | assumption | wp_step))
  refine codeAny_mono (code_set_led1 (.ref l) (E := E) (Q₁ := fun v s1 => v = .ref s.heap.objs.size ∧ s1 = { s with heap := s.heap.push (newSet0 w) }) ⟨rfl, rfl⟩) fun r s1 hr => ?_
  match r, hr with
  | .error _, hr => exact hr
  | .ok (.ret v), hr =>
    obtain ⟨e1, e2⟩ := hr
    subst e1
    subst e2
    have g0 : (s.heap.push (newSet0 w)).get? s.heap.objs.size = some (newSet0 w) := Heap.get?_push_size _ rfl
    have ty : Shared.TypeIs { s with heap := s.heap.push (newSet0 w) } (.ref s.heap.objs.size) "set" := ⟨_, g0, rfl⟩
    have i1 := PySem.F.called_set.init.lookup
    have i2 := PySem.F.called_set.init.bind (.ref s.heap.objs.size)
    repeat (any_goals (first | assumption | wp_step))
    refine codeAny_mono (codeAny_call_builtin (R := wants (fun v s2 => v = .none ∧ ∃ h' tk c, s2 = { s with heap := h', toks := tk } ∧ (SetR w h' s.heap.objs.size (fun j => decide (j ∈ ns)) c ∧ c ≤ ns.length) ∧ ∀ b o, s.heap.get? b = some o → h'.get? b = some o) E) PySem.F.called_set.init.plain PySem.F.entry_set_init (check_set_init_1 ty ?_)) fun r2 s2 hr2 => ?_
    · have hl1 : (s.heap.push (newSet0 w)).IsList l us := by
        obtain ⟨o, ho, r⟩ := hl
        exact ⟨o, Heap.get?_push_of_some _ ho, r⟩
      have hd := hl1
      obtain ⟨⟨lc, ld, lx, ls⟩, hol', q1, q2, q3⟩ := hd
      simp only at q1 q3
      subst q1; subst q3
      have t1 := PySem.F.sub_list_set
      have t2 := PySem.F.sub_list_frozenset
      have t3 : (Value.type "list" == Value.type "dict") = false := by decide
      unfold Builtin.«set.__init__» noKeywords Builtin.Frozenset.updateFrom
      generalize hPI : pyIter = PI
      wp_walk
      subst hPI
      refine wpAny_pyIter_list hl1 (wpAny_bind (wpAny_runValue ?_))
      have e1 : (s.heap.push (newSet0 w)).objs.size = s.heap.objs.size + 1 := Heap.size_push ..
      rw [e1]
      refine fill_list ns (by simpa using hh) hl hi hb fun h' tk c q hc k => ?_
      show wpAny _ _ _ _ _ _
      refine wpAny_pure ?_
      show wpAny _ _ (ret Value.none) _ _ _
      exact wpAny_pure ⟨rfl, h', tk, c, rfl, ⟨q, hc⟩, k⟩
    · match r2, hr2 with
      | .error _, hr2 => exact hr2
      | .ok (.ret v), hr2 =>
        obtain ⟨e1, h', tk, c, e2, ⟨q, hc⟩, k⟩ := hr2
        subst e1
        subst e2
        repeat (any_goals (first | assumption | wp_step))
        exact h _ _ _ q hc k
end
section
variable {X : Cx} {c : Cw}
/-- set(xs), xs a list of fewer than 64 whole numbers -/
def rSetLI (K : PySem.W.Frag) (w : World) : List V → Hp → VK → Prop := fun vs H Q => ∃ (l : Addr) (ns : List Int), vs = [V.ref l] ∧ SqL K H l (ns.map V.int) ∧ ns.length < 64 ∧ ∀ a k, H a = none → k ≤ ns.length → Q (.ref a) (L2.upd H a (L2.SetO w a (fun j => decide (j ∈ ns)) k))
theorem cr_setLI (hc : X.calm = true) : CallR X (.type "set") (rSetLI X.K X.w) := by
  intro pins s σ H vs us Q I r h
  obtain ⟨l, ns, rfl, hl, hz, q⟩ := h
  rw [Vals.ref1 r]
  obtain ⟨its, rv, pl, _⟩ := I.list hl
  have hi := ints_of_vals rv
  refine set_of_list (P := X.prog) (w := X.w) ns (I.ok.hd hc) pl.isList (by simpa using hi) (by have : scanBound = 4096 := rfl; omega) fun h' tk k R hk kp => ?_
  exact ⟨.ref s.heap.objs.size, _, I.laid (t' := tk) kp (Nat.le_refl _) (setO_new R), rfl, q _ k (I.hok.fresh (Nat.le_refl _)) hk⟩
theorem dpInts (K : PySem.W.Frag) (G : Hp) : ∀ l : List Int, DpAll K G (l.map V.int) (l.map PyData.int)
  | [] => .nil
  | a :: l => .cons (.int a) (dpInts K G l)
theorem pE_sst (hK : c.K = X.K) (hc : X.calm = true) {e : Expr} {r : Env → Rs D} {yp zp p1 p2 : Pos} (g1 : Gl X "sorted") (g2 : Gl X "set") (m1 : X.mg "sorted" = none) (m2 : X.mg "set" = none) (hp : plE e = true) (he : PE X e (tE c r)) :
    PE X (.Call (.Name "sorted" yp) [.Call (.Name "set" zp) [e] [] p1] [] p2) (tE c fun ρ => (r ρ).bind sstD) := by
  refine PE.mono (pe_callB (cr_sortedSet hc) g1 m1 (by decide +kernel : bootBuiltins ("sorted" : Str) = some (.builtin "sorted")) (pa_cons (pe_callTy (cr_setLI hc) g2 m2 PyProof.Rows.boot_set (pa_cons he pa_nil (starB hp)) (by decide) (by decide) (starB hp)) pa_nil)) fun σ H Q ⟨ρ, G, sg, en, p⟩ => ?_
  show tE c r σ H _
  refine tG.first sg en p fun d u G1 H1 s1 e1 st rd p1 => ?_
  match d, rd, p1 with
  | .list ds, .lst q rr, p1 =>
    have p1 : PoG (Dp c.K) c σ G1 H1 ((intsD ds).bind fun ns => grd (Nat.ble ns.length 63) (.ok (.list ((sortU ns).map .int)))) Q := p1
    cases e3 : intsD ds with
    | ok ns =>
      rw [e3] at p1
      have p1 : PoG (Dp c.K) c σ G1 H1 (grd (Nat.ble ns.length 63) (.ok (.list ((sortU ns).map .int)))) Q := p1
      by_cases g : Nat.ble ns.length 63 = true
      · rw [g] at p1
        have g63 : ns.length ≤ 63 := by rwa [Nat.ble_eq] at g
        have p2 : ∀ u G' H', Stp G1 H1 G' H' → Dp c.K G' u (.list ((sortU ns).map .int)) → Q u H' := p1
        have ev := DpAll_ints rr e3
        subst ev
        rw [hK] at q
        refine ⟨_, ns, rfl, s1.seq q, by omega, fun a k ha hk => ?_⟩
        show L2.rSortedSet _ _ _ _
        have b := Stp.beside (o := L2.SetO X.w a (fun j => decide (j ∈ ns)) k) s1 ha
        refine ⟨a, _, k, rfl, upd_same, by omega, fun ms p pw hm hlen hp => ?_⟩
        have em : ms = sortU ns := by
          have pp := sortU_pw ns
          refine List.Perm.eq_of_pairwise (le := fun a b : Int => a ≤ b) (fun a b _ _ h1 h2 => by omega) (pw.imp fun h => by omega) (pp.imp fun h => by omega) ?_
          refine (List.perm_ext_iff_of_nodup (pw.imp fun h => by omega) (pp.imp fun h => by omega)).mpr fun z => ?_
          rw [hm z, mem_sortU]; simp
        subst em
        exact p2 _ (L2.upd G1 p (.lst ((sortU ns).map V.int))) _ (b.trans (Stp.new b.gh hp)) (.lst (SqL.of upd_same) (dpInts _ _ _))
      · rw [Bool.eq_false_iff.mpr g] at p1; exact p1.elim
    | ex e => rw [e3] at p1; exact absurd e3 (by
        have : ∀ ds, intsD ds ≠ .ex e := by
          intro ds
          induction ds with
          | nil => intro z; cases z
          | cons a l ih =>
            cases a with
            | int i =>
              intro z
              have z : (intsD l).map (i :: ·) = .ex e := z
              cases q : intsD l <;> rw [q] at z <;> cases z
              exact ih q
            | _ => intro z; cases z
        exact this ds)
    | no => rw [e3] at p1; exact p1.elim
  | .none, _, p1 => exact p1.elim
  | .bool _, _, p1 => exact p1.elim
  | .int _, _, p1 => exact p1.elim
  | .str _, _, p1 => exact p1.elim
  | .tuple _, _, p1 => exact p1.elim
  | .dict _, _, p1 => exact p1.elim
end
end Rf
set_option Elab.async false
set_option linter.all false
set_option maxRecDepth 100000
set_option maxHeartbeats 2000000
namespace Rf
open PySem PySem.Spec PyProof.Rows L2
/-- what is let out of a block -/
def Cw.wE (c : Cw) (σ : L2.St) : Cw := { c with W := fun k d _ => c.W k d σ }
section
variable {X : Cx} {c : Cw}
theorem gathE_cons (f : D → Rs D) (d : D) (ds : List D) : gathE f (d :: ds) = (f d).bind fun x => (gathE f ds).map fun r => x :: r := rfl
theorem gathE_pre {f : D → Rs D} {d x : D} (e : f d = .ok x) (pre ds : List D) : ((gathE f (d :: ds)).map fun r => pre ++ r) = (gathE f ds).map fun r => (pre ++ [x]) ++ r := by
  rw [gathE_cons, e]
  cases gathE f ds with
  | ok r => show Rs.ok (pre ++ (x :: r)) = Rs.ok ((pre ++ [x]) ++ r); rw [List.append_assoc]; rfl
  | ex e => rfl
  | no => rfl
theorem lcReadE (hK : c.K = X.K) {own : List (Str × Nat)} {t : Tg} {ri : Env → Rs (List D)} {re : Env → Rs D} (ht : ∀ i ∈ t.slots, i ∈ own.map (·.2)) :
    ∀ σ H Q, tE c (fun ρ => (ri ρ).bind fun its => grd (few its.length) ((gathE (turnQ t re (own.map (·.2)) ρ) its).map .list)) σ H Q → tLc (tI c ri) (tT c.calm t) tYes (tE (c.wE σ) re) (own.map (·.2)) σ H Q := by
  intro σ H Q ⟨ρ, G, sg, e, p⟩
  refine tG.first sg e p fun its J G1 H1 s1 e1 st wk p1 => ?_
  intro Da hD
  generalize hw : own.map (·.2) = vs at *
  generalize hf : turnQ t re vs ρ = f at *
  by_cases g : few its.length = true
  · rw [g] at p1
    refine ⟨fun i m H => m = its.length - i ∧ i ≤ its.length ∧ ∃ G' acc pre, Stp G1 H1 G' H ∧ G' Da = none ∧ H Da = some (.lst acc) ∧ DpAll c.K G' acc pre ∧ pre.length = i ∧ gathE f its = (gathE f (its.drop i)).map fun r => pre ++ r,
      ⟨its.length, by simp, Nat.zero_le _, G1, [], [], Stp.beside s1 hD, s1.free hD, upd_same, .nil, rfl, by rw [List.drop_zero]; cases gathE f its <;> rfl⟩, fun i m H2 hW => ?_⟩
    obtain ⟨hm, hi2, G', acc, pre, st2, hG, hA, hda, hpl, hpre⟩ := hW
    by_cases hlt : i < its.length
    · refine .inr ⟨wk.go i H2 hlt (st2.gg.trans st2.gh), fun H' => ∃ G' acc pre, Stp G1 H1 G' H' ∧ G' Da = none ∧ H' Da = some (.lst acc) ∧ DpAll c.K G' acc pre ∧ pre.length = i + 1 ∧ gathE f its = (gathE f (its.drop (i + 1))).map fun r => pre ++ r, fun H' hN' => ⟨its.length - (i + 1), by omega, rfl, by omega, hN'⟩, fun x H3 hy => ?_⟩
      obtain ⟨d, G3, ed, st3, hx⟩ := wk.yld i H2 x H3 G' hlt st2.gg st2.gh hy
      have hdrop : its.drop i = d :: its.drop (i + 1) := by
        have e1 : its[i] = d := by
          have := List.getElem?_eq_getElem hlt
          rw [this] at ed
          exact Option.some.inj ed
        rw [List.drop_eq_getElem_cons hlt, e1]
      rw [hdrop] at hpre
      have hd3 : H3 Da = some (.lst acc) := st3.hh Da _ hA
      have hG3 : G3 Da = none := by
        cases z : G3 Da with
        | none => rfl
        | some o' =>
          have := st3.nw Da o' z hG
          rw [hA] at this; cases this
      have st13 := st2.trans st3
      have ef : f d = ((setTg t d (wipeE ρ vs)).quiet).bind re := by rw [← hf]; rfl
      cases h1 : setTg t d (wipeE ρ vs) with
      | ex y => rw [h1] at ef; rw [gathE_cons, ef] at hpre; rw [hpre] at p1; exact p1.elim
      | no => rw [h1] at ef; rw [gathE_cons, ef] at hpre; rw [hpre] at p1; exact p1.elim
      | ok ρ1 =>
        rw [h1] at ef
        have ef : f d = re ρ1 := ef
        obtain ⟨bs, h3, h4⟩ := map_okI h1
        have E3 : EnvR c.kx G3 H3 (wipeE ρ vs) (wipe σ vs) := (e1.step st13).wipe vs
        refine ⟨G3, d, st3.gh, hx, ?_⟩
        rw [h3]
        intro us hb
        have E4 : EnvR c.kx G3 H3 ρ1 (setAllV (wipe σ vs) us) := by
          rw [← h4]; exact E3.all hb
        refine ⟨by rw [wipe_setAll vs _ hb fun z hz => ht z.1 (bind_slots t d bs h3 z hz), wipe_twice], ?_⟩
        unfold tYes
        dsimp only
        rw [if_pos rfl]
        refine ⟨ρ1, G3, st3.gh, E4, ?_⟩
        rw [← ef]
        cases h7 : f d with
        | no => rw [gathE_cons, h7] at hpre; rw [hpre] at p1; exact p1.elim
        | ex y =>
          rw [gathE_cons, h7] at hpre
          rw [hpre] at p1
          have p2 : ∀ G' H', Stp G1 H1 G' H' → XW c.ca c.W σ y H' := p1
          intro G5 H5 st5
          have := p2 G5 H5 (st13.trans st5)
          unfold XW at this ⊢
          cases z : y.2 with
          | none => rw [z] at this; exact this
          | some n => rw [z] at this; exact this
        | ok y =>
          rw [gathE_pre h7] at hpre
          intro u G5 H5 st5 hu
          have hd5 : H5 Da = some (.lst acc) := st5.hh Da _ hd3
          have hG5 : G5 Da = none := by
            cases z : G5 Da with
            | none => rfl
            | some o' =>
              have := st5.nw Da o' z hG3
              rw [hd3] at this; cases this
          have st15 := st13.trans st5
          refine ⟨acc, hd5, ?_, ?_⟩
          · have hl := DpAll_len hda
            have := few_lt g
            omega
          · have sG : Same G5 (upd H5 Da (.lst (acc ++ [u]))) := fun a o' z => by
              have ne : a ≠ Da := fun e => by rw [e, hG5] at z; cases z
              rw [upd_ne ne]
              exact st15.gh a o' z
            refine ⟨G5, acc ++ [u], pre ++ [y], ⟨fun a o' z => ?_, st15.gg, sG, st15.nw⟩, hG5, upd_same, DpAll_app (DpAll_mono (st3.gg.trans st5.gg) hda) (.cons hu .nil), by rw [List.length_append, List.length_singleton, hpl], hpre⟩
            have ne : a ≠ Da := fun e => by rw [e, hD] at z; cases z
            rw [upd_ne ne]
            exact st15.hh a o' z
    · have ei : i = its.length := by omega
      subst ei
      refine .inl ⟨wk.stop H2 (st2.gg.trans st2.gh), ?_⟩
      rw [List.drop_length] at hpre
      have hpre : gathE f its = .ok (pre ++ []) := hpre
      rw [List.append_nil] at hpre
      rw [hpre] at p1
      have p2 : ∀ u G' H', Stp G1 H1 G' H' → Dp c.K G' u (.list pre) → Q u H' := p1
      refine p2 (.ref Da) (upd G' Da (.lst acc)) H2 ⟨st2.hh, st2.gg.trans (Same.upd hG), fun a o' z => ?_, fun a o' z n => ?_⟩ (.lst (SqL.of upd_same) (DpAll_mono (Same.upd hG) hda))
      · by_cases ne : a = Da
        · subst ne; rw [upd_same] at z; rw [← z]; exact hA
        · rw [upd_ne ne] at z; exact st2.gh a o' z
      · by_cases ne : a = Da
        · subst ne; exact hD
        · rw [upd_ne ne] at z; exact st2.nw a o' z n
  · rw [Bool.eq_false_iff.mpr g] at p1; exact p1.elim
end
end Rf
set_option Elab.async false
set_option linter.all false
set_option maxRecDepth 100000
set_option maxHeartbeats 4000000
namespace Rf
open PySem PySem.Spec PyProof.Rows L2
section
variable {X : Cx} {c : Cw}
def trsOf (c : Cw) (T : Tb) : List Str → Es → List (TE × TE)
  | k :: ks, .cons e es => (tC (.str k), tE c (e.ev T)) :: trsOf c T ks es
  | _, _ => []
theorem trs_go {T : Tb} : ∀ (ks : List Str) (es : Es) {σ : L2.St} {H G : Hp} {ρ : Env} {Q : List (V × V) → Hp → Prop}, ks.length = es.len → Same G H → EnvR c.kx G H ρ σ →
    PoG (DpAll c.K) c σ G H (es.ev T ρ) (fun us H2 => Q ((ks.map V.str).zip us) H2) → tPairs (trsOf c T ks es) σ H Q
  | [], .nil, σ, H, G, ρ, Q, _, sg, e, p => p [] G H (Stp.refl sg) .nil
  | k :: ks, .cons x es, σ, H, G, ρ, Q, hl, sg, e, p => by
    show tE c (x.ev T) σ H _
    refine tG.first sg e (show PoG (DpAll c.K) c σ G H ((x.ev T ρ).bind fun d => (es.ev T ρ).map fun r => d :: r) _ from p) fun d u G1 H1 s1 e1 st rd p1 => ?_
    refine trs_go ks es (by simpa [Es.len] using hl) s1 e1 ?_
    cases q : es.ev T ρ with
    | ok ds =>
      rw [q] at p1
      have p1 : ∀ u G' H', Stp G1 H1 G' H' → DpAll c.K G' u (d :: ds) → Q (((k :: ks).map V.str).zip u) H' := p1
      exact fun us G' H' s2 r2 => p1 (u :: us) G' H' s2 (.cons (Dp_mono s2.gg rd) r2)
    | ex y => rw [q] at p1; exact p1
    | no => rw [q] at p1; exact p1
  | [], .cons _ _, σ, H, G, ρ, Q, hl, _, _, _ => by simp [Es.len] at hl
  | _ :: _, .nil, σ, H, G, ρ, Q, hl, _, _, _ => by simp [Es.len] at hl
theorem kvZ_map (ks : List Str) : ∀ us : List V, (ks.map V.str).zip us = (kvZ ks us).map fun kv => (kV kv.1, kv.2) := by
  induction ks with
  | nil => intro us; rfl
  | cons k ks ih =>
    intro us
    cases us with
    | nil => rfl
    | cons u us =>
      show (V.str k, u) :: (ks.map V.str).zip us = _
      rw [ih us]; rfl
theorem kvZ_len (ks : List Str) (us : List V) : (kvZ ks us).length ≤ ks.length := by
  unfold kvZ
  rw [List.length_zip, List.length_map]; omega
theorem pE_dsp {T : Tb} {ks : List Str} {es : Es} {keys : List (Option Expr)} {vals : List Expr} {pos : Pos} (hl : es.len = ks.length) (h15 : ks.length ≤ 15) (h0 : ks ≠ []) (hk : keys.length = ks.length) (hv : vals.length = ks.length) (hall : keys.all (·.isSome) = true)
    (h : PPs X pos keys vals (trsOf c T ks es)) : PE X (.Dict keys vals pos) (tE c fun ρ => (es.ev T ρ).map fun ds => .dict (kvMerge [] ks ds)) := by
  refine PE.mono (pe_disp h hall (hk.trans hv.symm) (fun z => h0 (by rw [z] at hk; exact List.length_eq_zero_iff.mp hk.symm)) (by omega)) fun σ H Q ⟨ρ, G, sg, e, p⟩ q hq => ?_
  have st0 := Stp.beside (o := .dK []) sg hq
  refine trs_go ks es hl.symm st0.gh (e.step st0) ?_
  have gq : G q = none := sg.free hq
  dsimp only at p
  cases z : es.ev T ρ with
  | no => rw [z] at p; exact p.elim
  | ex y => rw [z] at p; exact fun G1 H1 st => p G1 H1 (st0.trans st)
  | ok ds =>
    rw [z] at p
    have p : ∀ u G' H', Stp G H G' H' → Dp c.K G' u (.dict (kvMerge [] ks ds)) → Q u H' := p
    intro us G1 H1 st rd
    have hq1 : H1 q = some (.dK []) := st.hh q _ upd_same
    have gq1 : G1 q = none := by
      cases z : G1 q with
      | none => rfl
      | some o => have y := st.nw q o z gq; rw [upd_same] at y; cases y
    refine ⟨hq1, kvZ ks us, kvZ_map ks us, Nat.le_trans (kvZ_len ks us) h15, p (.ref q) (L2.upd G1 q (.dK (mergeK [] (kvZ ks us)))) _ ⟨fun b o e1 => ?_, fun b o e1 => ?_, fun b o e1 => ?_, fun b o e1 n => ?_⟩ (.dct upd_same ?_)⟩
    · have ne : b ≠ q := ne_of_none e1 hq
      rw [upd_ne ne]
      exact st.hh b o (by rw [upd_ne ne]; exact e1)
    · have ne : b ≠ q := ne_of_none e1 gq
      rw [upd_ne ne]
      exact st.gg b o e1
    · by_cases ne : b = q
      · subst ne; rw [upd_same] at e1 ⊢; exact e1
      · rw [upd_ne ne] at e1 ⊢; exact st.gh b o e1
    · by_cases ne : b = q
      · subst ne; exact hq
      · rw [upd_ne ne] at e1
        have y := st.nw b o e1 n
        rw [upd_ne ne] at y
        exact y
    · exact DpKv_merge .nil (DpAll_mono (Same.upd gq1) rd)
theorem keyS_all : ∀ {keys : List (Option Expr)} {ks : List Str}, keys.map keyS = ks.map some → keys.all (·.isSome) = true
  | [], _, _ => rfl
  | k :: keys, [], h => nomatch h
  | k :: keys, s :: ks, h => by
    rw [List.map_cons, List.map_cons] at h
    injection h with h1 h2
    rw [List.all_cons, keyS_all h2]
    cases k with
    | none => cases h1
    | some _ => rfl
theorem keyS_str {k : Option Expr} {s : Str} (h : keyS k = some s) : ∃ j p, k = some (.Constant (.str s) j p) := by
  unfold keyS at h
  split at h
  · injection h with h; subst h; exact ⟨_, _, rfl⟩
  · cases h
end
end Rf
set_option Elab.async false
set_option linter.all false
set_option maxRecDepth 100000
set_option maxHeartbeats 8000000
namespace Rf
open PySem PySem.Spec PyProof.Rows L2
theorem hotF {b : Bool} (h : (!b) = true) : b = false := by cases b <;> first | rfl | cases h
theorem and2 {a b : Bool} (h : (a && b) = true) : a = true ∧ b = true := by
  rw [Bool.and_eq_true] at h
  exact h
theorem Okx.bl {T : Tb} {c : Cw} {k : Nat} {hot : Bool} {X : Cx} (ok : Okx T c k hot X) {x : Str} (h : x ∈ bnames) : X.mg x = none := ok.tb.blt x h
theorem locL {sc : Scope} {x : Str} (h : locB sc x = true) : sc.names.lookup x = some .local := by
  unfold locB at h
  split at h
  · assumption
  · cases h
theorem Okx.blk {T : Tb} {c : Cw} {k : Nat} {X : Cx} (ok : Okx T c k false X) (s : Shared) (H : Hp) (scope : Scope) (C : Addr) (cl : List (Str × Addr)) (fp : List Addr) : Okx T c.calm k false (X.blk s H scope (compEnvC scope cl C X.env) fp) :=
  ⟨ok.hK, ok.nd, takes0, ok.rm, ok.cm, ok.hu, (fun _ _ _ h => nomatch h), ok.tb, Pas.never ok.ps.fr⟩
theorem Okx.blkE {T : Tb} {c : Cw} {k : Nat} {X : Cx} (ok : Okx T c k false X) (σ : L2.St) (s : Shared) (H : Hp) (scope : Scope) (C : Addr) (cl : List (Str × Addr)) (fp : List Addr) (xe : Value → Shared → Prop) (tk : Takes (xbk X s H scope C cl fp xe) (fun k d _ => c.W k d σ)) (ps : Pas (xbk X s H scope C cl fp xe) (fun k d _ => c.W k d σ)) : Okx T (c.wE σ) k false (xbk X s H scope C cl fp xe) :=
  ⟨ok.hK, ok.nd, tk, ok.rm, ok.cm, ok.hu, (fun _ _ _ h => nomatch h), ok.tb, ps⟩
theorem lcL {X : Cx} {fn : Str → Bool} {x : Str} (hfn : ∀ x, fn x = true → X.fn x = true) (h : lcB X.env.scope fn x = true) : Loc X.env.scope x ∧ (X.fn x = true ∨ X.env.scope.names.lookup x = some .local) := by
  unfold lcB at h
  split at h
  · rename_i q; exact ⟨.inl q, .inr q⟩
  · rename_i q; exact ⟨.inr q, .inl (hfn x h)⟩
  · cases h
theorem Tg.sound {X : Cx} {c : Cw} (hK : c.K = X.K) (nd : X.N.Nodup) (cm : X.calm = true) (fn : Str → Bool) (hfn : ∀ x, fn x = true → X.fn x = true) : ∀ (t : Tg) (x : Expr), t.chk X.N X.env.scope fn x = true → PG X x (tT c t)
  | .nm i, x, h => by
    unfold Tg.chk at h
    split at h
    · obtain ⟨h1, h2⟩ := and2 h
      exact pG_nm hK nd (of_decide_eq_true h1) (lcL hfn h2).1 (lcL hfn h2).2
    · cases h
  | .t2 a b, x, h => by
    unfold Tg.chk at h
    split at h
    · obtain ⟨h, h4⟩ := and2 h
      obtain ⟨h, h3⟩ := and2 h
      obtain ⟨h1, h2⟩ := and2 h
      exact pG_t2 hK cm h1 h2 (Tg.sound hK nd cm fn hfn a _ h3) (Tg.sound hK nd cm fn hfn b _ h4)
    · cases h
  | .t3 a b b3, x, h => by
    unfold Tg.chk at h
    split at h
    · obtain ⟨h, h6⟩ := and2 h
      obtain ⟨h, h5⟩ := and2 h
      obtain ⟨h, h4⟩ := and2 h
      obtain ⟨h, h3⟩ := and2 h
      obtain ⟨h1, h2⟩ := and2 h
      exact pG_t3 hK cm h1 h2 h3 (Tg.sound hK nd cm fn hfn a _ h4) (Tg.sound hK nd cm fn hfn b _ h5) (Tg.sound hK nd cm fn hfn b3 _ h6)
    · cases h
  | .t4 a b b3 b4, x, h => by
    unfold Tg.chk at h
    split at h
    · obtain ⟨h, h8⟩ := and2 h
      obtain ⟨h, h7⟩ := and2 h
      obtain ⟨h, h6⟩ := and2 h
      obtain ⟨h, h5⟩ := and2 h
      obtain ⟨h, h4⟩ := and2 h
      obtain ⟨h, h3⟩ := and2 h
      obtain ⟨h1, h2⟩ := and2 h
      exact pG_t4 hK cm h1 h2 h3 h4 (Tg.sound hK nd cm fn hfn a _ h5) (Tg.sound hK nd cm fn hfn b _ h6) (Tg.sound hK nd cm fn hfn b3 _ h7) (Tg.sound hK nd cm fn hfn b4 _ h8)
    · cases h
theorem plL {T : Tb} {hot : Bool} : ∀ (es : Es) (N : List Str) (sc : Scope) (xs : List Expr), es.chk T hot N sc xs = true → xs.all plE = true ∧ xs.length = es.len
  | .nil, N, sc, xs, h => by
    unfold Es.chk at h
    split at h
    · exact ⟨rfl, rfl⟩
    · cases h
  | .cons e es, N, sc, xs, h => by
    unfold Es.chk at h
    split at h
    · obtain ⟨h, h3⟩ := and2 h
      obtain ⟨h1, h2⟩ := and2 h
      obtain ⟨i1, i2⟩ := plL es N sc _ h3
      exact ⟨by rw [List.all_cons, h1, i1]; rfl, by rw [List.length_cons, i2]; rfl⟩
    · cases h
/-- a comprehension's parts, and what its reading comes to -/
def LcP1 (X : Cx) (c : Cw) (x : Expr) (r : Env → Rs D) : Prop := ∃ (elt tg iter : Expr) (ifs : List Expr) (scope : Scope) (pos : Pos) (own : List (Str × Nat)) (wi : TI) (g : TG) (tt : TT) (te : TE), x = .ListComp elt [⟨tg, iter, ifs, 0⟩] scope pos ∧ X.calm = true ∧ PI X tg iter wi ∧ BlkOk X.N X.env.scope scope own ∧
  (∀ (s : Shared) (H : Hp) (C : Addr) (cl : List (Str × Addr)) (fp : List Addr), PG (X.blk s H scope (compEnvC scope cl C X.env) fp) tg g) ∧ (∀ (s : Shared) (H : Hp) (C : Addr) (cl : List (Str × Addr)) (fp : List Addr), PTs (X.blk s H scope (compEnvC scope cl C X.env) fp) ifs tt) ∧
  (∀ (s : Shared) (H : Hp) (C : Addr) (cl : List (Str × Addr)) (fp : List Addr), PE (X.blk s H scope (compEnvC scope cl C X.env) fp) elt te) ∧ (∀ x, foldedSetIterable iter X.env x = pure x) ∧ ∀ σ H Q, tE c r σ H Q → tLc wi g tt te (own.map (·.2)) σ H Q
theorem LcP1.e {X : Cx} {c : Cw} {x : Expr} {r : Env → Rs D} (nd : X.N.Nodup) (h : LcP1 X c x r) : PE X x (tE c r) := by
  obtain ⟨elt, tg, iter, ifs, scope, pos, own, wi, g, tt, te, e, hc, hi, ok, hg, ht, he, hs, hr⟩ := h
  subst e
  exact PE.mono (pe_lc hc nd hi ok hg ht he hs) hr
/-- a comprehension, as a value, and laid straight into a name -/
structure LcP (X : Cx) (c : Cw) (x : Expr) (r : Env → Rs D) : Prop where
  f : ∃ elt gens scope pos, x = .ListComp elt gens scope pos
  e : X.N.Nodup → PE X x (tE c r)
  a : X.N.Nodup → ∀ (i : Nat) (y : Str) (py spos : Pos), X.N[i]? = some y → X.env.scope.names.lookup y = some .local → swapsWith x (some (.Name y py)) spos.line X.env = pure true → PS X (.Assign [.Name y py] x spos) (tAsg (tE c r) (gName i))
theorem tAsg.mono {te te' : TE} {g : TG} (h : ∀ σ H Q, te' σ H Q → te σ H Q) : ∀ D σ H, tAsg te' g D σ H → tAsg te g D σ H := fun D σ H q => h σ H _ q
theorem LcP1.up {X : Cx} {c : Cw} {x : Expr} {r : Env → Rs D} (h : LcP1 X c x r) : LcP X c x r := by
  have h2 := h
  obtain ⟨elt, tg, iter, ifs, scope, pos, own, wi, g, tt, te, e, hc, hi, ok, hg, ht, he, hs, hr⟩ := h
  subst e
  exact ⟨⟨_, _, _, _, rfl⟩, fun nd => h2.e nd, fun nd i y py spos h1 s1 hsw => ⟨fun pins s σ H D I q => (ps_setLc hc nd h1 s1 hsw hi ok hg ht he hs).run pins s σ H D I (tAsg.mono hr _ _ _ q)⟩⟩
/-- what is shown of an expression -/
structure Snd (X : Cx) (c : Cw) (x : Expr) (r : Env → Rs D) : Prop where
  e : PE X x (tE c r)
  t : PT X x (tTs c r)
  w : ∀ op vs pos, x = .BoolOp op vs pos → PW X x (tTs c r)
  l : ∀ a b d f, x = .ListComp a b d f → LcP X c x r
theorem Snd.val {X : Cx} {c : Cw} {x : Expr} {r : Env → Rs D} (h : PE X x (tE c r)) (he : ∀ whole, isTrue x X.env whole = (do let v ← whole; standAt x.pos; holding [v] (truthy v))) (hb : ∀ op vs pos, x ≠ .BoolOp op vs pos) (hl : ∀ a b d f, x ≠ .ListComp a b d f := by intro _ _ _ _ q; cases q) : Snd X c x r :=
  ⟨h, Rf.PT.of_v (pt_val h he), fun op vs pos e => absurd e (hb op vs pos), fun a b d f e => absurd e (hl a b d f)⟩
theorem pT_ite {X : Cx} {c : Cw} {t a b : Expr} {rt ra rb : Env → Rs D} {pos : Pos} (ht : PT X t (tTs c rt)) (ha : PT X a (tTs c ra)) (hb : PT X b (tTs c rb)) : PT X (.IfExp t a b pos) (tTs c fun ρ => (rt ρ).bind fun x => (asB x).bind fun k => if k = true then ra ρ else rb ρ) := by
  constructor
  intro pins s σ H Q I ⟨ρ, G, sg, e, p⟩
  have e2 : (((rt ρ).bind fun x => (asB x).bind fun k => if k = true then ra ρ else rb ρ).bind asB) = ((rt ρ).bind asB).bind fun k => if k = true then (ra ρ).bind asB else (rb ρ).bind asB := by
    cases rt ρ with
    | ok d =>
      cases d with
      | bool b => cases b <;> rfl
      | _ => rfl
    | ex e => rfl
    | no => rfl
  dsimp only at p
  rw [e2] at p
  refine PyProof.Rows.isTrue_IfExp ?_
  refine thn (ht.run pins s σ H (fun k H1 => ∃ G1, Same G1 H1 ∧ EnvR c.kx G1 H1 ρ σ ∧ PoG (fun _ b b' => b' = b) c σ G1 H1 (if k = true then (ra ρ).bind asB else (rb ρ).bind asB) Q) I ?_) fun k s1 ⟨H1, I1, G1, s1', e1, p1⟩ => ?_
  · refine tG.first (r := fun ρ => (rt ρ).bind asB) sg e p fun k u G1 H1 s1 e1 st rd p1 => ?_
    subst rd
    exact ⟨G1, s1, e1, p1⟩
  · cases k with
    | true => rw [if_pos rfl] at p1 ⊢; exact ha.run pins s1 σ H1 Q I1 ⟨ρ, G1, s1', e1, p1⟩
    | false => rw [if_neg Bool.false_ne_true] at p1 ⊢; exact hb.run pins s1 σ H1 Q I1 ⟨ρ, G1, s1', e1, p1⟩
theorem constS {X : Cx} {c : Cw} {d : D} {k : Const} {j : Nat} {pos : Pos} (h : cstB d k = true) : PE X (.Constant k j pos) (tE c fun _ => .ok d) := by
  unfold cstB at h
  split at h
  · exact PE.mono pe_non fun σ H Q ⟨ρ, G, sg, e, p⟩ => p _ G H (Stp.refl sg) .non
  · rw [← of_decide_eq_true h]; exact PE.mono pe_bl fun σ H Q ⟨ρ, G, sg, e, p⟩ => p _ G H (Stp.refl sg) (.bl _)
  · rw [← of_decide_eq_true h]; exact PE.mono pe_int fun σ H Q ⟨ρ, G, sg, e, p⟩ => p _ G H (Stp.refl sg) (.int _)
  · rw [← of_decide_eq_true h]; exact PE.mono pe_str fun σ H Q ⟨ρ, G, sg, e, p⟩ => p _ G H (Stp.refl sg) (.str _)
  · cases h
theorem ptsS {T : Tb} {X : Cx} {c : Cw} : ∀ (cs : Es) (ifs : List Expr), cs.len ≤ 1 → (∀ e x, cs = .cons e .nil → ifs = [x] → PT X x (tTs c (e.ev T))) → ifs.length = cs.len → PTs X ifs (tBo c fun ρ => (cs.ev T ρ).bind tst)
  | .nil, [], _, _, _ => by
    constructor
    intro pins s σ H Q I ⟨ρ, G, sg, e, p⟩
    exact pts_nil.run pins s σ H Q I (p true G H (Stp.refl sg) rfl)
  | .cons e .nil, [x], _, h, _ => by
    have h1 := h e x rfl rfl
    constructor
    intro pins s σ H Q I ⟨ρ, G, sg, en, p⟩
    refine (pts_one h1).run pins s σ H Q I ⟨ρ, G, sg, en, ?_⟩
    have e2 : ((Es.cons e .nil).ev T ρ).bind tst = (e.ev T ρ).bind asB := by
      show ((e.ev T ρ).bind fun x => Rs.ok [x]).bind tst = _
      cases e.ev T ρ with
      | ok d => cases d <;> rfl
      | ex y => rfl
      | no => rfl
    dsimp only at p
    rw [e2] at p
    exact p
  | .cons e (.cons f g), _, h, _, _ => by
    exact absurd h (by show ¬ (g.len + 1 + 1 ≤ 1); omega)
  | .nil, _ :: _, _, _, h => by cases h
  | .cons e .nil, [], _, _, h => by cases h
  | .cons e .nil, _ :: _ :: _, _, _, h => by cases h
theorem seq1 {T : Tb} {hot : Bool} : ∀ (is : Es) (N : List Str) (sc : Scope) (x : Expr), is.chk T hot N sc [x] = true → ∃ a, is = .cons a .nil
  | .nil, N, sc, x, h => by cases h
  | .cons a .nil, N, sc, x, h => ⟨a, rfl⟩
  | .cons a (.cons b d), N, sc, x, h => by
    unfold Es.chk at h
    have h2 := (and2 h).2
    unfold Es.chk at h2
    cases h2
def oneEv (T : Tb) : Es → Env → Rs D
  | .cons a .nil => a.ev T
  | _ => fun _ => .no
theorem oneEv_eq (T : Tb) (a : E) (ρ : Env) : (Es.cons a .nil).ev T ρ = (oneEv T (.cons a .nil) ρ).map fun d => [d] := by
  show ((a.ev T ρ).bind fun x => Rs.ok [x]) = (a.ev T ρ).map fun d => [d]
  cases a.ev T ρ <;> rfl
theorem esLen {T : Tb} {hot : Bool} : ∀ (es : Es) (N : List Str) (sc : Scope) (xs : List Expr), es.chk T hot N sc xs = true → xs.length = es.len
  | .nil, N, sc, xs, h => by
    unfold Es.chk at h
    split at h
    · rfl
    · cases h
  | .cons e es, N, sc, xs, h => by
    unfold Es.chk at h
    split at h
    · obtain ⟨h, h3⟩ := and2 h
      show _ + 1 = es.len + 1
      rw [esLen es _ _ _ h3]
    · cases h
mutual
theorem E.sound (T : Tb) (k : Nat) (hot : Bool) : ∀ (e : E) (X : Cx) (c : Cw) (x : Expr), Okx T c k hot X → e.chk T hot X.N X.env.scope x = true → Snd X c x (e.ev T)
  | .var i, X, c, x, ok, h => by
    unfold E.chk at h
    split at h
    · obtain ⟨h, h3⟩ := and2 h
      obtain ⟨h1, h2⟩ := and2 h
      exact .val (pE_var (of_decide_eq_true h1) (visV h2) h3) (by intro _; rfl) (by intro _ _ _ q; cases q)
    · cases h
  | .cst d, X, c, x, ok, h => by
    unfold E.chk at h
    split at h
    · exact .val (constS h) (by intro _; rfl) (by intro _ _ _ q; cases q)
    · cases h
  | .glb i, X, c, x, ok, h => by
    unfold E.chk at h
    split at h
    · rename_i x pos
      obtain ⟨h, h3⟩ := and2 h
      obtain ⟨h1, h2⟩ := and2 h
      have h3 := of_decide_eq_true h3
      cases q : T.gls[i]? with
      | none => rw [q] at h3; cases h3
      | some p =>
        rw [q] at h3
        have e : p.1 = x := Option.some.inj h3
        subst e
        obtain ⟨v, u, m, r, dp⟩ := ok.tb.gls i p q
        refine .val (PE.mono (pe_glob (glG h1) m r (ndb1 h2).1) fun σ H Q ⟨ρ, G, sg, en, pp⟩ => ?_) (by intro _; rfl) (by intro _ _ _ q; cases q)
        have pp : PoG (Dp c.K) c σ G H (T.gl i) Q := pp
        unfold Tb.gl at pp
        rw [q] at pp
        exact pp v G H (Stp.refl sg) (by rw [ok.hK]; exact dp G)
    · cases h
  | .bin o a b, X, c, x, ok, h => by
    unfold E.chk at h
    split at h
    · obtain ⟨h, h3⟩ := and2 h
      obtain ⟨h1, h2⟩ := and2 h
      have e := opB_eq h1
      subst e
      exact .val (pE_bin ok.hK (E.sound T k _ a X c _ ok h2).e (E.sound T k _ b X c _ ok h3).e) (by intro _; rfl) (by intro _ _ _ q; cases q)
    · cases h
  | .neg a, X, c, x, ok, h => by
    unfold E.chk at h
    split at h
    · exact .val (pE_neg ok.hK (E.sound T k _ a X c _ ok h).e) (by intro _; rfl) (by intro _ _ _ q; cases q)
    · cases h
  | .nt a, X, c, x, ok, h => by
    unfold E.chk at h
    split at h
    · have i := E.sound T k _ a X c _ ok h
      exact ⟨(pE_nt i.e i.t).1, (pE_nt i.e i.t).2, (fun _ _ _ q => by cases q), (fun _ _ _ _ q => by cases q)⟩
    · cases h
  | .and a b, X, c, x, ok, h => by
    unfold E.chk at h
    split at h
    · rename_i l r rs pos
      obtain ⟨h1, h2⟩ := and2 h
      have i := E.sound T k _ a X c _ ok h1
      cases rs with
      | nil =>
        have j := E.sound T k _ b X c _ ok h2
        have w' := pW_and i.t (pw_and1 (pos := pos) j.t)
        exact ⟨pE_and i.e (pe_one j.e), w'.pt, fun _ _ _ _ => w', fun _ _ _ _ q => by cases q⟩
      | cons r2 rs =>
        have j := E.sound T k _ b X c _ ok h2
        have w' := pW_and i.t (j.w _ _ _ rfl)
        exact ⟨pE_and i.e j.e, w'.pt, fun _ _ _ _ => w', fun _ _ _ _ q => by cases q⟩
    · cases h
  | .or a b, X, c, x, ok, h => by
    unfold E.chk at h
    split at h
    · rename_i l r rs pos
      obtain ⟨h1, h2⟩ := and2 h
      have i := E.sound T k _ a X c _ ok h1
      cases rs with
      | nil =>
        have j := E.sound T k _ b X c _ ok h2
        have w' := pW_or i.t (pw_or1 (pos := pos) j.t)
        exact ⟨pE_or i.e (pe_one j.e), w'.pt, fun _ _ _ _ => w', fun _ _ _ _ q => by cases q⟩
      | cons r2 rs =>
        have j := E.sound T k _ b X c _ ok h2
        have w' := pW_or i.t (j.w _ _ _ rfl)
        exact ⟨pE_or i.e j.e, w'.pt, fun _ _ _ _ => w', fun _ _ _ _ q => by cases q⟩
    · cases h
  | .cmp o a b, X, c, x, ok, h => by
    unfold E.chk at h
    split at h
    · obtain ⟨h, h4⟩ := and2 h
      obtain ⟨h, h3⟩ := and2 h
      obtain ⟨h1, h2⟩ := and2 h
      have e := coB_eq h1
      subst e
      have i := (E.sound T k _ a X c _ ok h3).e
      have j := (E.sound T k _ b X c _ ok h4).e
      exact ⟨(pE_cmp ok.hK ok.hu i j h2 (o := o)).1, (pE_cmp ok.hK ok.hu i j h2 (o := o)).2, (fun _ _ _ q => by cases q), (fun _ _ _ _ q => by cases q)⟩
    · cases h
  | .chn o o2 a b d, X, c, x, ok, h => by
    unfold E.chk at h
    split at h
    · obtain ⟨h, h6⟩ := and2 h
      obtain ⟨h, h5⟩ := and2 h
      obtain ⟨h, h4⟩ := and2 h
      obtain ⟨h, h3⟩ := and2 h
      obtain ⟨h1, h2⟩ := and2 h
      have e := coB_eq h1
      have e2 := coB_eq h2
      subst e e2
      have i := (E.sound T k _ a X c _ ok h4).e
      have j := (E.sound T k _ b X c _ ok h5).e
      have l := (E.sound T k _ d X c _ ok h6).e
      exact ⟨(pE_chn ok.hK ok.hu i j l h3 (o := o) (o2 := o2)).1, (pE_chn ok.hK ok.hu i j l h3 (o := o) (o2 := o2)).2, (fun _ _ _ q => by cases q), (fun _ _ _ _ q => by cases q)⟩
    · cases h
  | .ite t a b, X, c, x, ok, h => by
    unfold E.chk at h
    split at h
    · obtain ⟨h, h3⟩ := and2 h
      obtain ⟨h1, h2⟩ := and2 h
      have i1 := E.sound T k _ t X c _ ok h1
      have i2 := E.sound T k _ a X c _ ok h2
      have i3 := E.sound T k _ b X c _ ok h3
      exact ⟨pE_ite i1.t i2.e i3.e, pT_ite i1.t i2.t i3.t, (fun _ _ _ q => by cases q), (fun _ _ _ _ q => by cases q)⟩
    · cases h
  | .tup es, X, c, x, ok, h => by
    unfold E.chk at h
    split at h
    · obtain ⟨h, h2⟩ := and2 h
      exact .val (pE_tup ok.hK es.len (of_decide_eq_true h2) (evs_len T es) (Es.sound T k _ es X c _ ok h).1) (by intro _; rfl) (by intro _ _ _ q; cases q)
    · cases h
  | .lst es, X, c, x, ok, h => by
    unfold E.chk at h
    split at h
    · obtain ⟨h, h2⟩ := and2 h
      exact .val (pE_lst ok.hK es.len (of_decide_eq_true h2) (evs_len T es) (Es.sound T k _ es X c _ ok h).1) (by intro _; rfl) (by intro _ _ _ q; cases q)
    · cases h
  | .idx a i, X, c, x, ok, h => by
    unfold E.chk at h
    split at h
    · obtain ⟨h, h3⟩ := and2 h
      obtain ⟨h1, h2⟩ := and2 h
      exact .val (pE_idx ok.hK (E.sound T k _ a X c _ ok h2).e (E.sound T k _ i X c _ ok h3).e h1) (by intro _; rfl) (by intro _ _ _ q; cases q)
    · cases h
  | .vdx v i, X, c, x, ok, h => by
    unfold E.chk at h
    split at h
    · obtain ⟨h, h5⟩ := and2 h
      obtain ⟨h, h4⟩ := and2 h
      obtain ⟨h, h3⟩ := and2 h
      obtain ⟨h1, h2⟩ := and2 h
      exact .val (pE_vdx ok.hK (of_decide_eq_true h2) (visV h3) h4 (E.sound T k _ i X c _ ok h5).e h1) (by intro _; rfl) (by intro _ _ _ q; cases q)
    · cases h
  | .vln v, X, c, x, ok, h => by
    unfold E.chk at h
    split at h
    · obtain ⟨h, h5⟩ := and2 h
      obtain ⟨h, h4⟩ := and2 h
      obtain ⟨h, h3⟩ := and2 h
      obtain ⟨h1, h2⟩ := and2 h
      have e := of_decide_eq_true h1
      subst e
      exact .val (pE_vln ok.hK (of_decide_eq_true h3) (visV h4) h5 (glG h2) (ok.bl (by decide +kernel))) (by intro _; rfl) (by intro _ _ _ q; cases q)
    · cases h
  | .sl01 a b, X, c, x, ok, h => by
    unfold E.chk at h
    split at h
    · obtain ⟨h1, h2⟩ := and2 h
      exact .val (pE_sl01 ok.hK (E.sound T k _ a X c _ ok h1).e (E.sound T k _ b X c _ ok h2).e) (by intro _; rfl) (by intro _ _ _ q; cases q)
    · cases h
  | .sl10 a b, X, c, x, ok, h => by
    unfold E.chk at h
    split at h
    · obtain ⟨h1, h2⟩ := and2 h
      exact .val (pE_sl10 ok.hK (E.sound T k _ a X c _ ok h1).e (E.sound T k _ b X c _ ok h2).e) (by intro _; rfl) (by intro _ _ _ q; cases q)
    · cases h
  | .sl11 a b d, X, c, x, ok, h => by
    unfold E.chk at h
    split at h
    · obtain ⟨h, h3⟩ := and2 h
      obtain ⟨h1, h2⟩ := and2 h
      exact .val (pE_sl11 ok.hK (E.sound T k _ a X c _ ok h1).e (E.sound T k _ b X c _ ok h2).e (E.sound T k _ d X c _ ok h3).e) (by intro _; rfl) (by intro _ _ _ q; cases q)
    · cases h
  | .rev a, X, c, x, ok, h => by
    unfold E.chk at h
    split at h
    · exact .val (pE_rev ok.hK (E.sound T k _ a X c _ ok h).e) (by intro _; rfl) (by intro _ _ _ q; cases q)
    · cases h
  | .lrg1 tp a, X, c, x, ok, h => by
    unfold E.chk at h
    split at h
    · obtain ⟨h, h7⟩ := and2 h
      obtain ⟨h, h6⟩ := and2 h
      obtain ⟨h, h5⟩ := and2 h
      obtain ⟨h, h4⟩ := and2 h
      obtain ⟨h, h3⟩ := and2 h
      obtain ⟨h1, h2⟩ := and2 h
      have eh := hotF h1
      subst eh
      have e1 := of_decide_eq_true h2
      have e4 := of_decide_eq_true h4
      subst e4
      refine .val (pE_lrg1 ok.hK (ok.cm rfl) e1 (glG h3) (ok.bl (by rw [e1]; cases tp <;> decide +kernel)) (glG h5) (ok.bl (by decide +kernel)) (E.sound T k _ a X c _ ok h7).e h6) (by intro _; rfl) (by intro _ _ _ q; cases q)
    · cases h
  | .lrg2 tp a b, X, c, x, ok, h => by
    unfold E.chk at h
    split at h
    · obtain ⟨h, h9⟩ := and2 h
      obtain ⟨h, h8⟩ := and2 h
      obtain ⟨h, h7⟩ := and2 h
      obtain ⟨h, h6⟩ := and2 h
      obtain ⟨h, h5⟩ := and2 h
      obtain ⟨h, h4⟩ := and2 h
      obtain ⟨h, h3⟩ := and2 h
      obtain ⟨h1, h2⟩ := and2 h
      have eh := hotF h1
      subst eh
      have e1 := of_decide_eq_true h2
      have e4 := of_decide_eq_true h4
      subst e4
      refine .val (pE_lrg2 ok.hK (ok.cm rfl) e1 (glG h3) (ok.bl (by rw [e1]; cases tp <;> decide +kernel)) (glG h5) (ok.bl (by decide +kernel)) (E.sound T k _ a X c _ ok h8).e (E.sound T k _ b X c _ ok h9).e h6 h7) (by intro _; rfl) (by intro _ _ _ q; cases q)
    · cases h
  | .bcl f es, X, c, x, ok, h => by
    unfold E.chk at h
    split at h
    · obtain ⟨h, h3⟩ := and2 h
      obtain ⟨h, h2⟩ := and2 h
      obtain ⟨h0, h1⟩ := and2 h
      have e := of_decide_eq_true h1
      subst e
      exact .val (pE_bcl ok.hK ok.hu (fun q => ok.cm (by cases hot with | false => rfl | true => rw [q] at h0; cases h0)) (glG h2) (ok.bl (bf_name f).1) (Es.sound T k _ es X c _ ok h3).1 (plL es _ _ _ h3).1) (by intro _; rfl) (by intro _ _ _ q; cases q)
    · cases h
  | .fcl i es, X, c, x, ok, h => by
    unfold E.chk at h
    split at h
    · obtain ⟨h, h4⟩ := and2 h
      obtain ⟨h, h3⟩ := and2 h
      obtain ⟨h, h2⟩ := and2 h
      obtain ⟨h0, h1⟩ := and2 h
      have h1 := of_decide_eq_true h1
      have eh := hotF h0
      subst eh
      cases q : T.fns[i]? with
      | none => rw [q] at h1; cases h1
      | some f =>
        rw [q] at h1
        injection h1 with h1
        injection h1 with e1 e2
        injection e2 with e2 e3
        subst e1
        exact .val (pE_fcl ok q e3 (fun ρ ds hd => (evs_len T es ρ ds hd).trans e2.symm) (glG h2) h3 (Es.sound T k _ es X c _ ok h4).1 (plL es _ _ _ h4).1) (by intro _; rfl) (by intro _ _ _ q; cases q)
    · cases h
  | .kcl i sh es ks, X, c, x, ok, h => by
    unfold E.chk at h
    split at h
    · obtain ⟨h, h8⟩ := and2 h
      obtain ⟨h, h7⟩ := and2 h
      obtain ⟨h, h6⟩ := and2 h
      obtain ⟨h, h5⟩ := and2 h
      obtain ⟨h, h4⟩ := and2 h
      obtain ⟨h, h3⟩ := and2 h
      obtain ⟨h, h2⟩ := and2 h
      obtain ⟨h0, h1⟩ := and2 h
      have h1 := of_decide_eq_true h1
      have eh := hotF h0
      subst eh
      have h2 := of_decide_eq_true h2
      have h4 := of_decide_eq_true h4
      cases q : T.fns[i]? with
      | none => rw [q] at h1; cases h1
      | some f =>
        cases q2 : T.shs[sh]? with
        | none => rw [q2] at h2; cases h2
        | some m =>
          rw [q] at h1
          rw [q2] at h2
          have e1 : f.name = _ := Option.some.inj h1
          have e2 := Option.some.inj h2
          obtain ⟨m1, m2, m3, m4⟩ := m
          injection e2 with e2 e3
          injection e3 with e3 e4
          dsimp only at e2 e3 e4
          subst e1
          refine .val (pE_kcl ok q q2 e2 (fun ρ ds hd => (evs_len T es ρ ds hd).trans e3.symm) (fun ρ ds hd => (evs_len T ks ρ ds hd).trans (h4.trans (by rw [← e4]))) e4.symm h3 (glG h5) h6 (Es.sound T k _ es X c _ ok h7).1 ((Es.sound T k _ ks X c _ ok h8).2.1 _ rfl) (plL es _ _ _ h7).1) (by intro _; rfl) (by intro _ _ _ q; cases q)
    · cases h
  | .met m a es, X, c, x, ok, h => by
    unfold E.chk at h
    split at h
    · obtain ⟨h, h6⟩ := and2 h
      obtain ⟨h, h5⟩ := and2 h
      obtain ⟨h, h4⟩ := and2 h
      obtain ⟨h, h3⟩ := and2 h
      obtain ⟨h1, h2⟩ := and2 h
      have e := of_decide_eq_true h1
      subst e
      have hl := (plL es _ _ _ h6)
      have h20 := of_decide_eq_true h4
      cases m
      case' joinS => refine .val (pE_joinS ok.hK ok.hu (E.sound T k _ a X c _ ok h5).e (Es.sound T k _ es X c _ ok h6).1 h3 h2 hl.1 ?_) (by intro _; rfl) (by intro _ _ _ q; cases q)
      case' countS => refine .val (pE_countS ok.hK ok.hu (E.sound T k _ a X c _ ok h5).e (Es.sound T k _ es X c _ ok h6).1 h3 h2 hl.1 ?_) (by intro _; rfl) (by intro _ _ _ q; cases q)
      case' splitS => refine .val (pE_splitS ok.hK ok.hu (E.sound T k _ a X c _ ok h5).e (Es.sound T k _ es X c _ ok h6).1 h3 h2 hl.1 ?_) (by intro _; rfl) (by intro _ _ _ q; cases q)
      case' indexS => refine .val (pE_indexS ok.hK ok.hu (E.sound T k _ a X c _ ok h5).e (Es.sound T k _ es X c _ ok h6).1 h3 h2 hl.1 ?_) (by intro _; rfl) (by intro _ _ _ q; cases q)
      case' count => refine .val (pE_count ok.hK ok.hu (E.sound T k _ a X c _ ok h5).e (Es.sound T k _ es X c _ ok h6).1 h3 h2 hl.1 ?_) (by intro _; rfl) (by intro _ _ _ q; cases q)
      case' index => refine .val (pE_index ok.hK ok.hu (E.sound T k _ a X c _ ok h5).e (Es.sound T k _ es X c _ ok h6).1 h3 h2 hl.1 ?_) (by intro _; rfl) (by intro _ _ _ q; cases q)
      all_goals
        have := hl.2
        rw [List.length_cons] at this
        omega
    · cases h
  | .isi a t, X, c, x, ok, h => by
    unfold E.chk at h
    split at h
    · obtain ⟨h, h7⟩ := and2 h
      obtain ⟨h, h6⟩ := and2 h
      obtain ⟨h, h5⟩ := and2 h
      obtain ⟨h, h4⟩ := and2 h
      obtain ⟨h, h3⟩ := and2 h
      obtain ⟨h1, h2⟩ := and2 h
      have e := of_decide_eq_true h1
      have e2 := of_decide_eq_true h3
      subst e e2
      have hm2 : X.mg (Str.ofString t) = none := by
        have ht : t ∈ ["int", "bool", "str", "list", "tuple"] := List.contains_iff_mem.mp h5
        simp only [List.mem_cons, List.not_mem_nil, or_false] at ht
        rcases ht with rfl | rfl | rfl | rfl | rfl <;> exact ok.bl (by decide +kernel)
      exact .val (pE_isi ok.hK h5 (E.sound T k _ a X c _ ok h7).e h6 (glG h2) (ok.bl (by decide +kernel)) (glG h4) hm2) (by intro _; rfl) (by intro _ _ _ q; cases q)
    · cases h
  | .isx v cl, X, c, x, ok, h => by
    unfold E.chk at h
    split at h
    · obtain ⟨h, h9⟩ := and2 h
      obtain ⟨h, h8⟩ := and2 h
      obtain ⟨h, h7⟩ := and2 h
      obtain ⟨h, h6⟩ := and2 h
      obtain ⟨h, h5⟩ := and2 h
      obtain ⟨h, h4⟩ := and2 h
      obtain ⟨h, h3⟩ := and2 h
      obtain ⟨h1, h2⟩ := and2 h
      have e := of_decide_eq_true h2
      subst e
      subst h1
      exact .val (pE_isx ok (of_decide_eq_true h4) (visV h5) h6 (glG h3) (of_decide_eq_true h7) (glG h8) h9) (by intro _; rfl) (by intro _ _ _ q; cases q)
    · cases h
  | .isv v, X, c, x, ok, h => by
    unfold E.chk at h
    split at h
    · obtain ⟨h, h8⟩ := and2 h
      obtain ⟨h, h7⟩ := and2 h
      obtain ⟨h, h6⟩ := and2 h
      obtain ⟨h, h5⟩ := and2 h
      obtain ⟨h, h4⟩ := and2 h
      obtain ⟨h, h3⟩ := and2 h
      obtain ⟨h1, h2⟩ := and2 h
      have e := of_decide_eq_true h2
      have e2 := of_decide_eq_true h7
      subst e e2
      subst h1
      exact .val (pE_isv ok (of_decide_eq_true h4) (visV h5) h6 (glG h3) (glG h8)) (by intro _; rfl) (by intro _ _ _ q; cases q)
    · cases h
  | .cmpr e t kd is cs own, X, c, x, ok, h => by
    unfold E.chk at h
    split at h
    · rename_i elt tg iter ifs scope pos
      obtain ⟨h, h8⟩ := and2 h
      obtain ⟨h, h7⟩ := and2 h
      obtain ⟨h, h6⟩ := and2 h
      obtain ⟨h, h5⟩ := and2 h
      obtain ⟨h, h4⟩ := and2 h
      obtain ⟨h, h3⟩ := and2 h
      obtain ⟨h, h2⟩ := and2 h
      obtain ⟨h0, h1⟩ := and2 h
      have eh := hotF h0
      subst eh
      have hown : (ownP X.N own).map (·.2) = own := by
        unfold ownP
        rw [List.map_map]
        exact List.map_id' own
      have hi : PI X tg iter (tI c fun ρ => (is.ev T ρ).bind fun ds => (itD kd ds).quiet) := by
        cases q : itForm kd tg X.env.scope iter with
        | none => rw [q] at h5; cases h5
        | some l =>
          rw [q] at h5
          have hl := plL is _ _ _ h5
          have hs := Es.sound T k _ is X c _ ok h5
          refine itPI (r1 := oneEv T is) ok.hK (ok.cm rfl) (fun x hx => ok.bl (by rcases hx with e | e | e <;> rw [e] <;> decide +kernel)) q hs.1 hl.1 (fun ρ ds hd => (evs_len T is ρ ds hd).trans hl.2.symm) fun e1 e2 => ?_
          subst e1
          obtain ⟨a, ea⟩ := seq1 is _ _ iter h5
          have i := (hs.2.2 a iter ea rfl).e
          rw [ea]
          exact ⟨i, oneEv_eq T a⟩
      have hsc : ∀ (C : Addr) (cl : List (Str × Addr)), (compEnvC scope cl C X.env).scope = relS scope X.env.scope := fun _ _ => rfl
      have r : LcP1 X c (.ListComp elt [⟨tg, iter, ifs, 0⟩] scope pos) (fun ρ => ((is.ev T ρ).bind fun ds => (itD kd ds).quiet).bind fun its => grd (few its.length) ((gather (turnD t (fun ρ => (cs.ev T ρ).bind tst) (e.ev T) own ρ) its).map .list)) := by
        have r1 := lcRead ok.hK (X := X) (t := t) (own := ownP X.N own) (ri := fun ρ => (is.ev T ρ).bind fun ds => (itD kd ds).quiet) (rt := fun ρ => (cs.ev T ρ).bind tst) (re := e.ev T)
          (by rw [hown]; intro i hi; exact List.contains_iff_mem.mp (List.all_eq_true.mp h2 i hi))
        refine ⟨elt, tg, iter, ifs, scope, pos, ownP X.N own, _, _, _, _, rfl, ok.cm rfl, hi, blkOk_by h1,
          (fun s H C cl fp => Tg.sound (X := X.blk s H scope (compEnvC scope cl C X.env) fp) (c := c.calm) ok.hK ok.nd (ok.cm rfl) _ (fun _ h => h) t tg h3),
          (fun s H C cl fp => ptsS cs ifs (of_decide_eq_true h7) (fun e' x' q1 q2 => ((Es.sound T k _ cs (X.blk s H scope (compEnvC scope cl C X.env) fp) c.calm ifs (ok.blk s H scope C cl fp) h6).2.2 e' x' q1 q2).t) (plL cs _ _ _ h6).2),
          (fun s H C cl fp => (E.sound T k _ e (X.blk s H scope (compEnvC scope cl C X.env) fp) c.calm elt (ok.blk s H scope C cl fp) h8).e), setI h4, ?_⟩
        rw [hown] at r1 ⊢
        exact r1
      exact ⟨r.e ok.nd, Rf.PT.of_v (pt_val (r.e ok.nd)), (fun _ _ _ q => by cases q), (fun _ _ _ _ _ => r.up)⟩
    · cases h
  | .cme e t kd is own, X, c, x, ok, h => by
    unfold E.chk at h
    split at h
    · rename_i elt tg iter scope pos
      obtain ⟨h, h8⟩ := and2 h
      obtain ⟨h, h7⟩ := and2 h
      obtain ⟨h, h5⟩ := and2 h
      obtain ⟨h, h4⟩ := and2 h
      obtain ⟨h, h3⟩ := and2 h
      obtain ⟨h, h2⟩ := and2 h
      obtain ⟨h0, h1⟩ := and2 h
      have eh := hotF h0
      subst eh
      have hown : (ownP X.N own).map (·.2) = own := by
        unfold ownP
        rw [List.map_map]
        exact List.map_id' own
      have hi : PI X tg iter (tI c fun ρ => (is.ev T ρ).bind fun ds => (itD kd ds).quiet) := by
        cases q : itForm kd tg X.env.scope iter with
        | none => rw [q] at h5; cases h5
        | some l =>
          rw [q] at h5
          have hl := plL is _ _ _ h5
          have hs := Es.sound T k _ is X c _ ok h5
          refine itPI (r1 := oneEv T is) ok.hK (ok.cm rfl) (fun x hx => ok.bl (by rcases hx with e | e | e <;> rw [e] <;> decide +kernel)) q hs.1 hl.1 (fun ρ ds hd => (evs_len T is ρ ds hd).trans hl.2.symm) fun e1 e2 => ?_
          subst e1
          obtain ⟨a, ea⟩ := seq1 is _ _ iter h5
          have i := (hs.2.2 a iter ea rfl).e
          rw [ea]
          exact ⟨i, oneEv_eq T a⟩
      have nf : NoFree scope := fun x hx => by simpa using List.all_eq_true.mp h7 x hx
      have hg : ∀ (s : Shared) (H : Hp) (C : Addr) (cl : List (Str × Addr)) (fp : List Addr) (xe : Value → Shared → Prop), PG (xbk X s H scope C cl fp xe) tg (tT c.calm t) := fun s H C cl fp xe => Tg.sound (X := xbk X s H scope C cl fp xe) (c := c.calm) ok.hK ok.nd (ok.cm rfl) _ (fun _ h => h) t tg h3
      have he : ∀ (σ : L2.St) (s : Shared) (H : Hp) (C : Addr) (cl : List (Str × Addr)) (fp : List Addr) (xe : Value → Shared → Prop), Takes (xbk X s H scope C cl fp xe) (fun k d _ => c.W k d σ) → Pas (xbk X s H scope C cl fp xe) (fun k d _ => c.W k d σ) → PE (xbk X s H scope C cl fp xe) elt (tE (c.wE σ) (e.ev T)) := fun σ s H C cl fp xe tk ps => (E.sound T k _ e (xbk X s H scope C cl fp xe) (c.wE σ) elt (ok.blkE σ s H scope C cl fp xe tk ps) h8).e
      have r1 := lcReadE ok.hK (X := X) (t := t) (own := ownP X.N own) (ri := fun ρ => (is.ev T ρ).bind fun ds => (itD kd ds).quiet) (re := e.ev T)
          (by rw [hown]; intro i hi; exact List.contains_iff_mem.mp (List.all_eq_true.mp h2 i hi))
      rw [hown] at r1
      have pe := pe_lcE (pos := pos) ok.ps (ok.cm rfl) ok.nd hi (blkOk_by h1) nf hg (fun σ s H C cl fp xe _ _ => pts_nil) he (setI h4)
      rw [hown] at pe
      have pe := PE.mono pe r1
      refine ⟨pe, Rf.PT.of_v (pt_val pe), (fun _ _ _ q => by cases q), fun _ _ _ _ _ => ⟨⟨_, _, _, _, rfl⟩, fun _ => pe, fun _ i y py spos g1 g2 hsw => ?_⟩⟩
      have ps := ps_setLcE (spos := spos) ok.ps (ok.cm rfl) ok.nd hi (blkOk_by h1) nf hg (fun σ s H C cl fp xe _ _ => pts_nil) he (setI h4) g1 g2 hsw
      rw [hown] at ps
      exact ⟨fun pins s σ H D I q => ps.run pins s σ H D I (tAsg.mono r1 _ _ _ q)⟩
    · cases h
  | .dsp ks es, X, c, x, ok, h => by
    unfold E.chk at h
    split at h
    · rename_i keys vals pos
      obtain ⟨h1, h⟩ := and2 h
      obtain ⟨h2, h⟩ := and2 h
      obtain ⟨h3, h⟩ := and2 h
      obtain ⟨h4, h5⟩ := and2 h
      have e1 := of_decide_eq_true h1
      have e2 := of_decide_eq_true h2
      have hk : keys.length = ks.length := by simpa using congrArg List.length e1
      have h0 : ks ≠ [] := by rintro rfl; cases h4
      exact .val (pE_dsp e2 (of_decide_eq_true h3) h0 hk ((esLen es _ _ _ h5).trans e2) (keyS_all e1) (Es.soundP T k _ es X c vals ok h5 ks keys e1 e2.symm)) (by intro _; rfl) (by intro _ _ _ q; cases q)
    · cases h
  | .sst e, X, c, x, ok, h => by
    unfold E.chk at h
    split at h
    · obtain ⟨h, h6⟩ := and2 h
      obtain ⟨h, h5⟩ := and2 h
      obtain ⟨h, h4⟩ := and2 h
      obtain ⟨h, h3⟩ := and2 h
      obtain ⟨h, h2⟩ := and2 h
      obtain ⟨h0, h1⟩ := and2 h
      have eh := hotF h0
      subst eh
      have e1 := of_decide_eq_true h1
      have e2 := of_decide_eq_true h3
      subst e1 e2
      exact .val (pE_sst ok.hK (ok.cm rfl) (glG h2) (glG h4) (ok.bl (by decide +kernel)) (ok.bl (by decide +kernel)) h5 (E.sound T k _ e X c _ ok h6).e) (by intro _; rfl) (by intro _ _ _ q; cases q)
    · cases h
  | .ssc ln e t kd is own, X, c, x, ok, h => by
    unfold E.chk at h
    split at h
    · rename_i y yp elt tg iter scope pos pos2
      obtain ⟨h, h9⟩ := and2 h
      obtain ⟨h, h8⟩ := and2 h
      obtain ⟨h, h7⟩ := and2 h
      obtain ⟨h, h6⟩ := and2 h
      obtain ⟨h, h5⟩ := and2 h
      obtain ⟨h, h4⟩ := and2 h
      obtain ⟨h, h3⟩ := and2 h
      obtain ⟨h0, h2⟩ := and2 h
      have eh := hotF h0
      subst eh
      have ey := of_decide_eq_true h2
      have hown : (ownP X.N own).map (·.2) = own := by
        unfold ownP
        rw [List.map_map]
        exact List.map_id' own
      have hi : PI X tg iter (tI c fun ρ => (is.ev T ρ).bind fun ds => (itD kd ds).quiet) := by
        cases q : itForm kd tg X.env.scope iter with
        | none => rw [q] at h8; cases h8
        | some l =>
          rw [q] at h8
          have hl := plL is _ _ _ h8
          have hs := Es.sound T k _ is X c _ ok h8
          refine itPI (r1 := oneEv T is) ok.hK (ok.cm rfl) (fun x hx => ok.bl (by rcases hx with e | e | e <;> rw [e] <;> decide +kernel)) q hs.1 hl.1 (fun ρ ds hd => (evs_len T is ρ ds hd).trans hl.2.symm) fun e1 e2 => ?_
          subst e1
          obtain ⟨a, ea⟩ := seq1 is _ _ iter h8
          have i := (hs.2.2 a iter ea rfl).e
          rw [ea]
          exact ⟨i, oneEv_eq T a⟩
      have nts : ∀ (Y : Cx), PTs Y [] (tBo c.calm fun _ => .ok true) := fun Y => by
        constructor
        intro pins s σ H Q I ⟨ρ, G, sg, e, p⟩
        exact pts_nil.run pins s σ H Q I (p true G H (Stp.refl sg) rfl)
      have hg : ∀ (s : Shared) (H : Hp) (C : Addr) (cl : List (Str × Addr)) (fp : List Addr), PG (X.blk s H scope (compEnvC scope cl C X.env) fp) tg (tT c.calm t) := fun s H C cl fp => Tg.sound (X := X.blk s H scope (compEnvC scope cl C X.env) fp) (c := c.calm) ok.hK ok.nd (ok.cm rfl) _ (fun _ h => h) t tg h6
      have he : ∀ (s : Shared) (H : Hp) (C : Addr) (cl : List (Str × Addr)) (fp : List Addr), PE (X.blk s H scope (compEnvC scope cl C X.env) fp) elt (tE c.calm (e.ev T)) := fun s H C cl fp => (E.sound T k _ e (X.blk s H scope (compEnvC scope cl C X.env) fp) c.calm elt (ok.blk s H scope C cl fp) h9).e
      have pe := pe_sci (pos := pos) (ok.cm rfl) ok.nd hi (blkOk_by h4) hg (fun s H C cl fp => nts _) he (setI h7)
      have hA := pa_cons pe (pa_nil (X := X))
      have ht : ∀ i ∈ t.slots, i ∈ (ownP X.N own).map (·.2) := by rw [hown]; intro i hi; exact List.contains_iff_mem.mp (List.all_eq_true.mp h5 i hi)
      have eqv : (E.ssc ln e t kd is own).ev T = fun ρ => ((is.ev T ρ).bind fun ds => (itD kd ds).quiet).bind fun its => ((gather (turnD t (fun _ => .ok true) (e.ev T) ((ownP X.N own).map (·.2)) ρ) its).bind intsD).quiet.bind (sscD ln) := by rw [hown]; rfl
      rw [eqv]
      have r : PE X (.Call (.Name y yp) [.SetComp elt [⟨tg, iter, [], 0⟩] scope pos] [] pos2) (tE c fun ρ => ((is.ev T ρ).bind fun ds => (itD kd ds).quiet).bind fun its => ((gather (turnD t (fun _ => .ok true) (e.ev T) ((ownP X.N own).map (·.2)) ρ) its).bind intsD).quiet.bind (sscD ln)) := by
        cases ln with
        | true =>
          have ey : y = ("len" : Str) := ey
          subst ey
          refine PE.mono (pe_callB cr_lenI (glG h3) (ok.bl (by decide +kernel)) PySem.boot_len hA) fun σ H Q q => ?_
          unfold tCB tCons tNil
          refine sciRead ok.hK (X := X) ht q fun B G' H' ns sg hB hl hq => ?_
          exact ⟨B, _, _, rfl, hB, hq _ G' H' (Stp.refl sg) (.int _)⟩
        | false =>
          have ey : y = ("sorted" : Str) := ey
          subst ey
          refine PE.mono (pe_callB (cr_sortedSet (ok.cm rfl)) (glG h3) (ok.bl (by decide +kernel)) (by decide +kernel : bootBuiltins ("sorted" : Str) = some (.builtin "sorted")) hA) fun σ H Q q => ?_
          unfold tCB tCons tNil
          refine sciRead ok.hK (X := X) ht q fun B G' H' ns sg hB hl hq => ?_
          refine ⟨B, _, _, rfl, hB, by omega, fun ms p pw hm hlen hp => ?_⟩
          have em : ms = sortU ns := by
            have key : ∀ (a b : List Int), a.Pairwise (· < ·) → b.Pairwise (· < ·) → (∀ k, k ∈ a ↔ k ∈ b) → a = b := by
              intro a
              induction a with
              | nil =>
                intro b _ _ hh
                cases b with
                | nil => rfl
                | cons x b => exact absurd ((hh x).mpr List.mem_cons_self) (by simp)
              | cons x a ih =>
                intro b ha hb hh
                cases b with
                | nil => exact absurd ((hh x).mp List.mem_cons_self) (by simp)
                | cons z b =>
                  rw [List.pairwise_cons] at ha hb
                  have exz : x = z := by
                    rcases List.mem_cons.mp ((hh x).mp List.mem_cons_self) with e1 | e1
                    · exact e1
                    · rcases List.mem_cons.mp ((hh z).mpr List.mem_cons_self) with e2 | e2
                      · exact e2.symm
                      · have := hb.1 x e1
                        have := ha.1 z e2
                        omega
                  subst exz
                  congr 1
                  refine ih b ha.2 hb.2 fun k => ?_
                  have hk := hh k
                  constructor
                  · intro q1
                    rcases List.mem_cons.mp (hk.mp (List.mem_cons_of_mem _ q1)) with e1 | e1
                    · have := ha.1 k q1; omega
                    · exact e1
                  · intro q1
                    rcases List.mem_cons.mp (hk.mpr (List.mem_cons_of_mem _ q1)) with e1 | e1
                    · have := hb.1 k q1; omega
                    · exact e1
            refine key _ _ pw (sortU_pw ns) fun k => ?_
            rw [hm k, mem_sortU]
            simp
          subst em
          refine hq _ (L2.upd G' p (.lst ((sortU ns).map V.int))) _ (Stp.new sg hp) ?_
          refine .lst (SqL.of upd_same) ?_
          have dp : ∀ (G0 : Hp) (l : List Int), DpAll c.K G0 (l.map V.int) (l.map PyData.int) := by
            intro G0 l
            induction l with
            | nil => exact .nil
            | cons a l ih => exact .cons (.int a) ih
          exact dp _ _
      exact .val r (by intro _; rfl) (by intro _ _ _ q; cases q)
    · cases h
  | .cm2 e t kd is t1 kd1 is1 own own1, X, c, x, ok, h => by
    unfold E.chk at h
    split at h
    · rename_i elt tg iter tg1 iter1 scope pos
      obtain ⟨h, h12⟩ := and2 h
      obtain ⟨h, h11⟩ := and2 h
      obtain ⟨h, h10⟩ := and2 h
      obtain ⟨h, h9⟩ := and2 h
      obtain ⟨h, h8⟩ := and2 h
      obtain ⟨h, h7⟩ := and2 h
      obtain ⟨h, h6⟩ := and2 h
      obtain ⟨h, h5⟩ := and2 h
      obtain ⟨h, h4⟩ := and2 h
      obtain ⟨h, h3⟩ := and2 h
      obtain ⟨h0, h1⟩ := and2 h
      have eh := hotF h0
      subst eh
      have hown : (ownP X.N own).map (·.2) = own := by
        unfold ownP
        rw [List.map_map]
        exact List.map_id' own
      have hi : PI X tg iter (tI c fun ρ => (is.ev T ρ).bind fun ds => (itD kd ds).quiet) := by
        cases q : itForm kd tg X.env.scope iter with
        | none => rw [q] at h8; cases h8
        | some l =>
          rw [q] at h8
          have hl := plL is _ _ _ h8
          have hs := Es.sound T k _ is X c _ ok h8
          refine itPI (r1 := oneEv T is) ok.hK (ok.cm rfl) (fun x hx => ok.bl (by rcases hx with e | e | e <;> rw [e] <;> decide +kernel)) q hs.1 hl.1 (fun ρ ds hd => (evs_len T is ρ ds hd).trans hl.2.symm) fun e1 e2 => ?_
          subst e1
          obtain ⟨a, ea⟩ := seq1 is _ _ iter h8
          have i := (hs.2.2 a iter ea rfl).e
          rw [ea]
          exact ⟨i, oneEv_eq T a⟩
      have hi1 : ∀ (s : Shared) (H : Hp) (C : Addr) (cl : List (Str × Addr)) (fp : List Addr), PI (X.blk s H scope (compEnvC scope cl C X.env) fp) tg1 iter1 (tI c.calm fun ρ => (is1.ev T ρ).bind fun ds => (itD kd1 ds).quiet) := by
        intro s H C cl fp
        have ok2 := ok.blk s H scope C cl fp
        cases q : itForm kd1 tg1 (relS scope X.env.scope) iter1 with
        | none => rw [q] at h11; cases h11
        | some l =>
          rw [q] at h11
          have hl := plL is1 _ _ _ h11
          have hs := Es.sound T k _ is1 (X.blk s H scope (compEnvC scope cl C X.env) fp) c.calm _ ok2 h11
          refine itPI (X := X.blk s H scope (compEnvC scope cl C X.env) fp) (r1 := oneEv T is1) ok2.hK (ok2.cm rfl) (fun x hx => ok2.bl (by rcases hx with e | e | e <;> rw [e] <;> decide +kernel)) q hs.1 hl.1 (fun ρ ds hd => (evs_len T is1 ρ ds hd).trans hl.2.symm) fun e1 e2 => ?_
          subst e1
          obtain ⟨a, ea⟩ := seq1 is1 _ _ iter1 h11
          have i := (hs.2.2 a iter1 ea rfl).e
          rw [ea]
          exact ⟨i, oneEv_eq T a⟩
      have r1 := lcRead2 ok.hK (X := X) (t := t) (t1 := t1) (own := ownP X.N own) (own1 := own1) (ri := fun ρ => (is.ev T ρ).bind fun ds => (itD kd ds).quiet) (ri1 := fun ρ => (is1.ev T ρ).bind fun ds => (itD kd1 ds).quiet) (re := e.ev T)
        (by rw [hown]; intro i hi; exact List.contains_iff_mem.mp (List.all_eq_true.mp h3 i hi)) (fun i hi => List.contains_iff_mem.mp (List.all_eq_true.mp h4 i hi))
      have nts : ∀ (Y : Cx), PTs Y [] (tBo c.calm fun _ => .ok true) := fun Y => by
        constructor
        intro pins s σ H Q I ⟨ρ, G, sg, e, p⟩
        exact pts_nil.run pins s σ H Q I (p true G H (Stp.refl sg) rfl)
      have hv : ∀ i ∈ own1, i ∈ (ownP X.N own).map (·.2) := by rw [hown]; intro i hi; exact List.contains_iff_mem.mp (List.all_eq_true.mp h5 i hi)
      have hg : ∀ (s : Shared) (H : Hp) (C : Addr) (cl : List (Str × Addr)) (fp : List Addr), PG (X.blk s H scope (compEnvC scope cl C X.env) fp) tg (tT c.calm t) := fun s H C cl fp => Tg.sound (X := X.blk s H scope (compEnvC scope cl C X.env) fp) (c := c.calm) ok.hK ok.nd (ok.cm rfl) _ (fun _ h => h) t tg h6
      have hg1 : ∀ (s : Shared) (H : Hp) (C : Addr) (cl : List (Str × Addr)) (fp : List Addr), PG (X.blk s H scope (compEnvC scope cl C X.env) fp) tg1 (tT c.calm t1) := fun s H C cl fp => Tg.sound (X := X.blk s H scope (compEnvC scope cl C X.env) fp) (c := c.calm) ok.hK ok.nd (ok.cm rfl) _ (fun _ h => h) t1 tg1 h9
      have he : ∀ (s : Shared) (H : Hp) (C : Addr) (cl : List (Str × Addr)) (fp : List Addr), PE (X.blk s H scope (compEnvC scope cl C X.env) fp) elt (tE c.calm (e.ev T)) := fun s H C cl fp => (E.sound T k _ e (X.blk s H scope (compEnvC scope cl C X.env) fp) c.calm elt (ok.blk s H scope C cl fp) h12).e
      have r2 := PE.mono (pe_lc2 (pos := pos) (ok.cm rfl) ok.nd hi (blkOk_by h1) hv hg (fun s H C cl fp => nts _) hi1 hg1 (fun s H C cl fp => nts _) he (setI h7) (fun env => setI h10)) r1
      rw [hown] at r1 r2
      have r : LcP X c (.ListComp elt [⟨tg, iter, [], 0⟩, ⟨tg1, iter1, [], 0⟩] scope pos) ((E.cm2 e t kd is t1 kd1 is1 own own1).ev T) :=
        ⟨⟨_, _, _, _, rfl⟩, fun _ => r2, fun nd i y py spos q1 s1 hsw => ⟨fun pins s σ H D I q => (ps_setLc2 (ok.cm rfl) nd q1 s1 hsw hi (blkOk_by h1) hv hg (fun s H C cl fp => nts _) hi1 hg1 (fun s H C cl fp => nts _) he (setI h7) (fun env => setI h10)).run pins s σ H D I (by rw [hown]; exact tAsg.mono r1 _ _ _ q)⟩⟩
      exact ⟨r2, Rf.PT.of_v (pt_val r2), (fun _ _ _ q => by cases q), (fun _ _ _ _ _ => r)⟩
    · cases h
theorem Es.sound (T : Tb) (k : Nat) (hot : Bool) : ∀ (es : Es) (X : Cx) (c : Cw) (xs : List Expr), Okx T c k hot X → es.chk T hot X.N X.env.scope xs = true → PA X xs (tL c (es.ev T)) ∧ (∀ kw : List Keyword, kw.map (·.value) = xs → PK X kw (tL c (es.ev T))) ∧ ∀ e x, es = .cons e .nil → xs = [x] → Snd X c x (e.ev T)
  | .nil, X, c, xs, ok, h => by
    unfold Es.chk at h
    split at h
    · refine ⟨pA_nil, fun kw q => ?_, fun e x q _ => nomatch q⟩
      cases kw with
      | nil => exact pK_nil
      | cons => cases q
    · cases h
  | .cons e es, X, c, xs, ok, h => by
    unfold Es.chk at h
    split at h
    · obtain ⟨h, h3⟩ := and2 h
      obtain ⟨h1, h2⟩ := and2 h
      have i := E.sound T k _ e X c _ ok h2
      have j := Es.sound T k _ es X c _ ok h3
      refine ⟨pA_cons i.e j.1 h1, fun kw q => ?_, fun e' x' q q2 => by
        injection q with q1 q3
        injection q2 with q4 q5
        rw [← q1, ← q4]
        exact i⟩
      cases kw with
      | nil => cases q
      | cons a kw =>
        injection q with q1 q2
        exact pK_cons (by have q1 : a.value = _ := q1; rw [q1]; exact i.e) (j.2.1 kw q2)
    · cases h
theorem Es.soundP (T : Tb) (k : Nat) (hot : Bool) : ∀ (es : Es) (X : Cx) (c : Cw) (xs : List Expr), Okx T c k hot X → es.chk T hot X.N X.env.scope xs = true → ∀ (ks : List Str) (keys : List (Option Expr)), keys.map keyS = ks.map some → ks.length = es.len → ∀ {pos : Pos}, PPs X pos keys xs (trsOf c T ks es)
  | .nil, X, c, xs, ok, h, ks, keys, e1, e2, pos => by
    unfold Es.chk at h
    split at h
    · cases ks with
      | nil => cases keys with
        | nil => exact pps_nil
        | cons => cases e1
      | cons => cases e2
    · cases h
  | .cons e es, X, c, xs, ok, h, ks, keys, e1, e2, pos => by
    unfold Es.chk at h
    split at h
    · obtain ⟨h, h3⟩ := and2 h
      obtain ⟨h1, h2⟩ := and2 h
      have i := E.sound T k _ e X c _ ok h2
      cases ks with
      | nil => cases e2
      | cons s ks =>
        cases keys with
        | nil => cases e1
        | cons q keys =>
          rw [List.map_cons, List.map_cons] at e1
          injection e1 with e3 e4
          obtain ⟨j, p, eq⟩ := keyS_str e3
          subst eq
          exact pps_cons pe_str i.e (Es.soundP T k _ es X c _ ok h3 ks keys e4 (by simpa [Es.len] using e2))
    · cases h
end
end Rf
set_option Elab.async false
set_option linter.all false
set_option maxRecDepth 100000
set_option maxHeartbeats 1000000
namespace Rf
open PySem PySem.Spec PyProof.Rows L2
inductive Oe where
  | rng (a : E)
  | cp (a : E)
  | mul (a n : E)
  | cmp (e : E) (t : Tg) (k : It) (is : Es) (c : Es) (own : List Nat)
def cpD : D → Rs (List D)
  | .list xs => .ok xs
  | .tuple xs => .ok xs
  | _ => .no
def mulO : D → D → Rs (List D)
  | .list xs, .int n => grd (tmI n && Nat.ble xs.length 1000) (.ok (rep xs n))
  | _, _ => .no
def Oe.ev (T : Tb) : Oe → Env → Rs (List D)
  | .rng a, ρ => (a.ev T ρ).bind fun x => (itD .rng [x]).quiet
  | .cp a, ρ => (a.ev T ρ).bind cpD
  | .mul a n, ρ => (a.ev T ρ).bind fun x => (n.ev T ρ).bind fun y => mulO x y
  | .cmp e t k is c own, ρ => ((is.ev T ρ).bind fun ds => (itD k ds).quiet).bind fun its => grd (few its.length) (gather (turnD t (fun ρ1 => (c.ev T ρ1).bind tst) (fun ρ1 => e.ev T ρ1) own ρ) its)
def Oe.chk (T : Tb) (hot : Bool) (N : List Str) (sc : Scope) : Oe → Expr → Bool
  | .rng a, x => match x with | .Call (.Name y _) [.Call (.Name z _) [l] [] _] [] _ => !hot && (decide (y = ("list" : Str)) && (glB sc y && (decide (z = ("range" : Str)) && (glB sc z && (plE l && a.chk T hot N sc l))))) | _ => false
  | .cp a, x => match x with | .Call (.Name y _) [l] [] _ => !hot && (decide (y = ("list" : Str)) && (glB sc y && (plE l && a.chk T hot N sc l))) | _ => false
  | .mul a n, x => match x with | .BinOp l .Mult r _ => a.chk T hot N sc l && n.chk T hot N sc r | _ => false
  | .cmp e t k is c own, x => (E.cmpr e t k is c own).chk T hot N sc x
/-- a value, or lists of a name's own -/
def tO (c : Cw) (r : Env → Rs Sl) : TE := fun σ H Q => ∃ ρ G, Same G H ∧ EnvR c.kx G H ρ σ ∧ match r ρ with
  | .ok s => ∀ u G' H', Stp G H G' H' → SlotR c.kx G' H' s (some u) → (∀ b, fp H' s (some u) b → H b = none) → Q u H'
  | .ex e => ∀ G' H', Stp G H G' H' → XW c.ca c.W σ e H'
  | .no => False
/-- a comprehension, with any reading -/
def LcT (X : Cx) (x : Expr) (te' : TE) : Prop := ∃ (elt tg iter : Expr) (ifs : List Expr) (scope : Scope) (pos : Pos) (own : List (Str × Nat)) (wi : TI) (g : TG) (tt : TT) (te : TE), x = .ListComp elt [⟨tg, iter, ifs, 0⟩] scope pos ∧ X.calm = true ∧ PI X tg iter wi ∧ BlkOk X.N X.env.scope scope own ∧
  (∀ (s : Shared) (H : Hp) (C : Addr) (cl : List (Str × Addr)) (fp : List Addr), PG (X.blk s H scope (compEnvC scope cl C X.env) fp) tg g) ∧ (∀ (s : Shared) (H : Hp) (C : Addr) (cl : List (Str × Addr)) (fp : List Addr), PTs (X.blk s H scope (compEnvC scope cl C X.env) fp) ifs tt) ∧
  (∀ (s : Shared) (H : Hp) (C : Addr) (cl : List (Str × Addr)) (fp : List Addr), PE (X.blk s H scope (compEnvC scope cl C X.env) fp) elt te) ∧ (∀ x, foldedSetIterable iter X.env x = pure x) ∧ ∀ σ H Q, te' σ H Q → tLc wi g tt te (own.map (·.2)) σ H Q
theorem LcT.e {X : Cx} {x : Expr} {te' : TE} (nd : X.N.Nodup) (h : LcT X x te') : PE X x te' := by
  obtain ⟨elt, tg, iter, ifs, scope, pos, own, wi, g, tt, te, e, hc, hi, ok, hg, ht, he, hs, hr⟩ := h
  subst e
  exact PE.mono (pe_lc hc nd hi ok hg ht he hs) hr
theorem LcT.f {X : Cx} {x : Expr} {te' : TE} (h : LcT X x te') : ∃ elt gens scope pos, x = .ListComp elt gens scope pos := by
  obtain ⟨elt, tg, iter, ifs, scope, pos, own, wi, g, tt, te, e, _⟩ := h
  exact ⟨_, _, _, _, e⟩
theorem LcT.a {X : Cx} {x : Expr} {te' : TE} (h : LcT X x te') (nd : X.N.Nodup) (i : Nat) (y : Str) (py spos : Pos) (h1 : X.N[i]? = some y) (s1 : X.env.scope.names.lookup y = some .local) (hsw : swapsWith x (some (.Name y py)) spos.line X.env = pure true) : PS X (.Assign [.Name y py] x spos) (tAsg te' (gName i)) := by
  obtain ⟨elt, tg, iter, ifs, scope, pos, own, wi, g, tt, te, e, hc, hi, ok, hg, ht, he, hs, hr⟩ := h
  subst e
  exact ⟨fun pins s σ H D I q => (ps_setLc hc nd h1 s1 hsw hi ok hg ht he hs).run pins s σ H D I (tAsg.mono hr _ _ _ q)⟩
/-- the parts of a comprehension, with any reading of it -/
theorem cmpr_lc {T : Tb} {k : Nat} {X : Cx} {c : Cw} {e : E} {t : Tg} {kd : It} {is cs : Es} {own : List Nat} {x : Expr} (ok : Okx T c k false X) (h : (E.cmpr e t kd is cs own).chk T false X.N X.env.scope x = true) {te' : TE}
    (hr : (∀ i ∈ t.slots, i ∈ own) → ∀ σ H Q, te' σ H Q → tLc (tI c fun ρ => (is.ev T ρ).bind fun ds => (itD kd ds).quiet) (tT c.calm t) (tBo c.calm fun ρ => (cs.ev T ρ).bind tst) (tE c.calm (e.ev T)) own σ H Q) : LcT X x te' := by
  unfold E.chk at h
  split at h
  · rename_i elt tg iter ifs scope pos
    obtain ⟨h, h8⟩ := and2 h
    obtain ⟨h, h7⟩ := and2 h
    obtain ⟨h, h6⟩ := and2 h
    obtain ⟨h, h5⟩ := and2 h
    obtain ⟨h, h4⟩ := and2 h
    obtain ⟨h, h3⟩ := and2 h
    obtain ⟨h, h2⟩ := and2 h
    obtain ⟨h0, h1⟩ := and2 h
    have hown : (ownP X.N own).map (·.2) = own := by
      unfold ownP
      rw [List.map_map]
      exact List.map_id' own
    have hi : PI X tg iter (tI c fun ρ => (is.ev T ρ).bind fun ds => (itD kd ds).quiet) := by
      cases q : itForm kd tg X.env.scope iter with
      | none => rw [q] at h5; cases h5
      | some l =>
        rw [q] at h5
        have hl := plL is _ _ _ h5
        have hs := Es.sound T k _ is X c _ ok h5
        refine itPI (r1 := oneEv T is) ok.hK (ok.cm rfl) (fun x hx => ok.bl (by rcases hx with e | e | e <;> rw [e] <;> decide +kernel)) q hs.1 hl.1 (fun ρ ds hd => (evs_len T is ρ ds hd).trans hl.2.symm) fun e1 e2 => ?_
        subst e1
        obtain ⟨a, ea⟩ := seq1 is _ _ iter h5
        have i := (hs.2.2 a iter ea rfl).e
        rw [ea]
        exact ⟨i, oneEv_eq T a⟩
    refine ⟨elt, tg, iter, ifs, scope, pos, ownP X.N own, _, _, _, _, rfl, ok.cm rfl, hi, blkOk_by h1,
      (fun s H C cl fp => Tg.sound (X := X.blk s H scope (compEnvC scope cl C X.env) fp) (c := c.calm) ok.hK ok.nd (ok.cm rfl) _ (fun _ h => h) t tg h3),
      (fun s H C cl fp => ptsS cs ifs (of_decide_eq_true h7) (fun e' x' q1 q2 => ((Es.sound T k _ cs (X.blk s H scope (compEnvC scope cl C X.env) fp) c.calm ifs (ok.blk s H scope C cl fp) h6).2.2 e' x' q1 q2).t) (plL cs _ _ _ h6).2),
      (fun s H C cl fp => (E.sound T k _ e (X.blk s H scope (compEnvC scope cl C X.env) fp) c.calm elt (ok.blk s H scope C cl fp) h8).e), setI h4, ?_⟩
    rw [hown]
    exact hr fun i hi => List.contains_iff_mem.mp (List.all_eq_true.mp h2 i hi)
  · cases h
section
variable {X : Cx} {c : Cw}
/-- the end of a new list -/
theorem tO_new {K : Kx} {G H G1 H1 : Hp} {ds : List D} {vs : List V} {q : Addr} {Q : VK} (st : Stp G H G1 H1) (hq : H1 q = none) (rd : DpAll K.1 G1 vs ds)
    (p : ∀ u G' H', Stp G H G' H' → SlotR K G' H' (.ow ds) (some u) → (∀ b, fp H' (.ow ds) (some u) b → H b = none) → Q u H') : Q (.ref q) (upd H1 q (.lst vs)) :=
  p (.ref q) G1 _ (st.trans (Stp.beside st.gh hq)) ⟨q, vs, rfl, upd_same, st.gh.free hq, rd⟩ fun b f => by
    have f : (some (V.ref q)) = some (.ref b) := f
    have f := Option.some.inj f
    injection f with f
    rw [← f]
    exact st.hh.free hq
/-- reading first what comes first -/
theorem tO.firstG {α β : Type} {R : Hp → β → α → Prop} {r : Env → Rs α} {r2 : Env → Rs Sl} {f : Env → α → Rs Sl} {σ : L2.St} {H : Hp} {Q : VK} {Q1 : β → Hp → Prop} (h : tO c r2 σ H Q) (hr : ∀ ρ, r2 ρ = (r ρ).bind (f ρ))
    (hq : ∀ ρ G a u G1 H1, Same G1 H1 → EnvR c.kx G1 H1 ρ σ → Stp G H G1 H1 → R G1 u a → (match f ρ a with
      | .ok s => ∀ u G' H', Stp G H G' H' → SlotR c.kx G' H' s (some u) → (∀ b, fp H' s (some u) b → H b = none) → Q u H'
      | .ex e => ∀ G' H', Stp G H G' H' → XW c.ca c.W σ e H'
      | .no => False) → Q1 u H1) : tG R c r σ H Q1 := by
  obtain ⟨ρ, G, sg, en, p⟩ := h
  refine ⟨ρ, G, sg, en, ?_⟩
  rw [hr ρ] at p
  cases q : r ρ with
  | ok d => rw [q] at p; exact fun u G1 H1 st rd => hq ρ G d u G1 H1 st.gh (en.step st) st rd p
  | ex e => rw [q] at p; exact p
  | no => rw [q] at p; exact p
theorem bind_map {α β γ : Type} (x : Rs α) (f : α → Rs β) (g : β → γ) : (x.bind f).map g = x.bind fun a => (f a).map g := by cases x <;> rfl
/-- reading a value first -/
theorem tO.first {α : Type} {r : Env → Rs D} {f : D → Rs (List D)} {σ : L2.St} {H : Hp} {Q Q1 : VK} (h : tO c (fun ρ => ((r ρ).bind f).map .ow) σ H Q)
    (hq : ∀ ρ G d u G1 H1, Same G1 H1 → EnvR c.kx G1 H1 ρ σ → Stp G H G1 H1 → Dp c.K G1 u d → (match (f d).map Sl.ow with
      | .ok s => ∀ u G' H', Stp G H G' H' → SlotR c.kx G' H' s (some u) → (∀ b, fp H' s (some u) b → H b = none) → Q u H'
      | .ex e => ∀ G' H', Stp G H G' H' → XW c.ca c.W σ e H'
      | .no => False) → Q1 u H1) : tE c r σ H Q1 := by
  obtain ⟨ρ, G, sg, en, p⟩ := h
  refine ⟨ρ, G, sg, en, ?_⟩
  dsimp only at p
  cases q : r ρ with
  | ok d => rw [q] at p; exact fun u G1 H1 st rd => hq ρ G d u G1 H1 st.gh (en.step st) st rd p
  | ex e => rw [q] at p; exact p
  | no => rw [q] at p; exact p
theorem pO_cp {T : Tb} {k : Nat} (ok : Okx T c k false X) {a : E} {l : Expr} {p pos : Pos} (hg : Gl X "list") (hp : plE l = true) (ha : PE X l (tE c (a.ev T))) : PE X (.Call (.Name "list" p) [l] [] pos) (tO c fun ρ => ((a.ev T ρ).bind cpD).map .ow) := by
  refine PE.mono (pe_callTy call_list_of hg (ok.bl (by decide +kernel)) (by decide +kernel) (pa_cons ha pa_nil (starB hp)) (by decide) (by decide) (starB hp) (backF rfl)) fun σ H Q h => ?_
  refine tO.first (α := Unit) h fun ρ G d u G1 H1 sg en st rd q => ?_
  rw [ok.hK] at rd
  cases rd with
  | lst qa ra => exact ⟨_, _, rfl, .inl (sg.seq qa), fun w hw => tO_new st hw (by rw [show c.kx.1 = X.K from ok.hK]; exact ra) q⟩
  | tup qa ra => exact ⟨_, _, rfl, .inr (Same.seqT sg qa), fun w hw => tO_new st hw (by rw [show c.kx.1 = X.K from ok.hK]; exact ra) q⟩
  | non => exact (show False from q).elim
  | dct => exact (show False from q).elim
  | bl => exact (show False from q).elim
  | int => exact (show False from q).elim
  | str => exact (show False from q).elim
theorem pO_rng {T : Tb} {k : Nat} (ok : Okx T c k false X) {a : E} {l : Expr} {p pos p2 pos2 : Pos} (hg : Gl X "list") (hg2 : Gl X "range") (hp : plE l = true) (ha : PE X l (tE c (a.ev T))) : PE X (.Call (.Name "list" p) [.Call (.Name "range" p2) [l] [] pos2] [] pos) (tO c fun ρ => ((a.ev T ρ).bind fun x => (itD .rng [x]).quiet).map .ow) := by
  refine PE.mono (pe_lrg (tp := false) (ok.cm rfl) rfl hg (ok.bl (by decide +kernel)) (prg_1 hg2 (ok.bl (by decide +kernel)) ha (starB hp)) (starB rfl)) fun σ H Q h => ?_
  refine tO.first (α := Unit) h fun ρ G d u G1 H1 sg en st rd q => ?_
  cases rd with
  | int j =>
    refine ⟨j, rfl, ?_⟩
    by_cases g : (inRng j && few j.toNat) = true
    · have e2 : (itD .rng [.int j]).quiet = .ok (rngD 0 j) := by
        show (grd (inRng j && few j.toNat) (Rs.ok (rngD 0 j))).quiet = _
        rw [g]; rfl
      rw [e2] at q
      rw [Bool.and_eq_true] at g
      have g3 := few_iff.mp g.2
      exact ⟨rngOk rfl g.1 (few_iff.mpr (by omega)), fun w hw => tO_new st hw (dpRng _ _ 0 j) q⟩
    · have e2 : (itD .rng [.int j]).quiet = .no := by
        show (grd (inRng j && few j.toNat) (Rs.ok (rngD 0 j))).quiet = _
        rw [Bool.eq_false_iff.mpr g]; rfl
      rw [e2] at q
      exact (show False from q).elim
  | non => exact (show False from q).elim
  | dct => exact (show False from q).elim
  | bl => exact (show False from q).elim
  | str => exact (show False from q).elim
  | lst => exact (show False from q).elim
  | tup => exact (show False from q).elim
theorem pO_mul {T : Tb} {k : Nat} (ok : Okx T c k false X) {a n : E} {l r : Expr} {pos : Pos} (ha : PE X l (tE c (a.ev T))) (hn : PE X r (tE c (n.ev T))) : PE X (.BinOp l .Mult r pos) (tO c fun ρ => ((a.ev T ρ).bind fun x => (n.ev T ρ).bind fun y => mulO x y).map .ow) := by
  refine PE.mono (pe_op opTimesL ha hn) fun σ H Q h => ?_
  refine tO.firstG h (fun ρ => bind_map _ _ _) fun ρ G d u G1 H1 sg en st rd q => ?_
  refine ⟨ρ, G1, sg, en, ?_⟩
  rw [bind_map] at q
  cases z : n.ev T ρ with
  | ex e => rw [z] at q; exact fun G2 H2 st2 => q G2 H2 (st.trans st2)
  | no => rw [z] at q; exact q.elim
  | ok y =>
    rw [z] at q
    intro u2 G2 H2 st2 rd2
    have stt := st.trans st2
    rw [ok.hK] at rd rd2
    cases rd with
    | lst qa ra =>
      rename_i ad vs ds
      cases rd2 with
      | int kk =>
        have q : (match (grd (tmI kk && Nat.ble ds.length 1000) (Rs.ok (rep ds kk))).map Sl.ow with
          | .ok s => ∀ u G' H', Stp G H G' H' → SlotR c.kx G' H' s (some u) → (∀ b, fp H' s (some u) b → H b = none) → Q u H'
          | .ex e => ∀ G' H', Stp G H G' H' → XW c.ca c.W σ e H'
          | .no => False) := q
        by_cases g : (tmI kk && Nat.ble ds.length 1000) = true
        · rw [g] at q
          simp only [Bool.and_eq_true, tmI_iff, Nat.ble_eq] at g
          refine ⟨ad, kk, vs, rfl, rfl, st2.gh.seq (st2.gg.seq qa), g.1.1, g.1.2, by rw [DpAll_len ra]; exact g.2, fun w hw => ?_⟩
          exact tO_new stt hw (by rw [show c.kx.1 = X.K from ok.hK]; exact DpAll_rep (DpAll_mono st2.gg ra) _) q
        · rw [Bool.eq_false_iff.mpr g] at q; exact q.elim
      | non => exact (show False from q).elim
      | dct => exact (show False from q).elim
      | bl => exact (show False from q).elim
      | str => exact (show False from q).elim
      | lst => exact (show False from q).elim
      | tup => exact (show False from q).elim
    | non => cases y <;> exact (show False from q).elim
    | dct => cases y <;> exact (show False from q).elim
    | bl => cases y <;> exact (show False from q).elim
    | int => cases y <;> exact (show False from q).elim
    | str => cases y <;> exact (show False from q).elim
    | tup => cases y <;> exact (show False from q).elim
/-- a comprehension's list is new -/
theorem lcReadW (hK : c.K = X.K) {own : List Nat} {t : Tg} {ri : Env → Rs (List D)} {rt : Env → Rs Bool} {re : Env → Rs D} (ht : ∀ i ∈ t.slots, i ∈ own) :
    ∀ σ H Q, tO c (fun ρ => ((ri ρ).bind fun its => grd (few its.length) (gather (turnD t rt re own ρ) its)).map .ow) σ H Q → tLc (tI c ri) (tT c.calm t) (tBo c.calm rt) (tE c.calm re) own σ H Q := by
  intro σ H Q h
  refine tO.firstG h (fun ρ => bind_map _ _ _) fun ρ G its J G1 H1 s1 e1 st wk p1 => ?_
  intro Da hD
  generalize hw : own = vs at *
  generalize hf : turnD t rt re vs ρ = f at *
  by_cases g : few its.length = true
  · rw [g] at p1
    cases q : gather f its with
    | ex x => exact absurd q (gather_nx its x)
    | no => rw [q] at p1; exact p1.elim
    | ok ds =>
      rw [q] at p1
      have p2 : ∀ u G' H', Stp G H G' H' → SlotR c.kx G' H' (.ow ds) (some u) → (∀ b, fp H' (.ow ds) (some u) b → H b = none) → Q u H' := p1
      refine ⟨fun i m H => m = its.length - i ∧ i ≤ its.length ∧ ∃ G' acc pre, Stp G1 H1 G' H ∧ G' Da = none ∧ H Da = some (.lst acc) ∧ DpAll c.K G' acc pre ∧ gather f (its.take i) = .ok pre,
        ⟨its.length, by simp, Nat.zero_le _, G1, [], [], Stp.beside s1 hD, s1.free hD, upd_same, .nil, rfl⟩, fun i m H2 hW => ?_⟩
      obtain ⟨hm, hi2, G', acc, pre, st2, hG, hA, hda, hpre⟩ := hW
      by_cases hlt : i < its.length
      · refine .inr ⟨wk.go i H2 hlt (st2.gg.trans st2.gh), fun H' => ∃ G' acc pre, Stp G1 H1 G' H' ∧ G' Da = none ∧ H' Da = some (.lst acc) ∧ DpAll c.K G' acc pre ∧ gather f (its.take (i + 1)) = .ok pre, fun H' hN' => ⟨its.length - (i + 1), by omega, rfl, by omega, hN'⟩, fun x H3 hy => ?_⟩
        obtain ⟨d, G3, ed, st3, hx⟩ := wk.yld i H2 x H3 G' hlt st2.gg st2.gh hy
        have hsplit : its = its.take i ++ ([d] ++ its.drop (i + 1)) := by
          have h1 : its[i] = d := by
            have := List.getElem?_eq_getElem hlt
            rw [this] at ed
            exact Option.some.inj ed
          rw [← h1, List.singleton_append, List.getElem_cons_drop, List.take_append_drop]
        obtain ⟨pa, qa, ea, eb, ec⟩ := gather_app (f := f) (its.take i) ([d] ++ its.drop (i + 1)) ds (by rw [← hsplit]; exact q)
        obtain ⟨pb, qb, ea2, eb2, ec2⟩ := gather_app (f := f) [d] (its.drop (i + 1)) qa eb
        obtain ⟨o, eo, eo2⟩ := gather_one ea2
        have hpa : pa = pre := by
          rw [hpre] at ea
          injection ea with ea
          exact ea.symm
        subst hpa
        have hnext : gather f (its.take (i + 1)) = .ok (pa ++ o.toList) := by
          have h1 : its.take (i + 1) = its.take i ++ [d] := by
            rw [List.take_add_one, ed]; rfl
          rw [h1]
          have : ∀ (as : List D) (l : List D), gather f as = .ok l → gather f (as ++ [d]) = .ok (l ++ o.toList) := by
            intro as
            induction as with
            | nil => intro l hl; cases hl; rw [List.nil_append, gather_cons, eo]; simp [Rs.map, gather]
            | cons a as ih =>
              intro l hl
              rw [List.cons_append, gather_cons]
              rw [gather_cons] at hl
              obtain ⟨o', h1, h2⟩ := bind_okI hl
              obtain ⟨l', h3, h4⟩ := map_okI h2
              rw [h1, Rs.bind_ok, ih l' h3]
              show Rs.ok (o'.toList ++ (l' ++ o.toList)) = _
              rw [← h4, List.append_assoc]
          exact this _ _ hpre
        have hd3 : H3 Da = some (.lst acc) := st3.hh Da _ hA
        have hG3 : G3 Da = none := by
          cases z : G3 Da with
          | none => rfl
          | some o' =>
            have := st3.nw Da o' z hG
            rw [hA] at this; cases this
        have st13 := st2.trans st3
        -- the turn
        have eo := eo
        rw [← hf] at eo
        unfold turnD at eo
        obtain ⟨ρ1, h1, h2⟩ := bind_okI eo
        obtain ⟨bs, h3, h4⟩ := map_okI h1
        obtain ⟨b, h5, h6⟩ := bind_okI h2
        have E3 : EnvR c.kx G3 H3 (wipeE ρ vs) (wipe σ vs) := (e1.step st13).wipe vs
        refine ⟨G3, d, st3.gh, hx, ?_⟩
        rw [h3]
        intro us hb
        have E4 : EnvR c.kx G3 H3 ρ1 (setAllV (wipe σ vs) us) := by
          rw [← h4]; exact E3.all hb
        refine ⟨by rw [wipe_setAll vs _ hb fun z hz => ht z.1 (bind_slots t d bs h3 z hz), wipe_twice], ⟨ρ1, G3, st3.gh, E4, ?_⟩⟩
        rw [h5]
        intro b' G4 H4 st4 eb'
        subst eb'
        have hd4 : H4 Da = some (.lst acc) := st4.hh Da _ hd3
        have hG4 : G4 Da = none := by
          cases z : G4 Da with
          | none => rfl
          | some o' =>
            have := st4.nw Da o' z hG3
            rw [hd3] at this; cases this
        cases b with
        | false =>
          rw [if_neg Bool.false_ne_true]
          rw [if_neg Bool.false_ne_true] at h6
          injection h6 with h6
          refine ⟨G4, acc, pa, st13.trans st4, hG4, hd4, DpAll_mono (st3.gg.trans st4.gg) hda, ?_⟩
          rw [hnext, ← h6]; simp
        | true =>
          rw [if_pos rfl]
          rw [if_pos rfl] at h6
          obtain ⟨y, h7, h8⟩ := map_okI h6
          refine ⟨ρ1, G4, st4.gh, E4.step st4, ?_⟩
          rw [h7]
          intro u G5 H5 st5 hu
          have hd5 : H5 Da = some (.lst acc) := st5.hh Da _ hd4
          have hG5 : G5 Da = none := by
            cases z : G5 Da with
            | none => rfl
            | some o' =>
              have := st5.nw Da o' z hG4
              rw [hd4] at this; cases this
          have st15 := (st13.trans st4).trans st5
          refine ⟨acc, hd5, ?_, ?_⟩
          · have := gather_len (its.take i) pa hpre
            rw [List.length_take] at this
            have hl := DpAll_len hda
            have := few_lt g
            omega
          · have sG : Same G5 (upd H5 Da (.lst (acc ++ [u]))) := fun a o' z => by
              have ne : a ≠ Da := fun e => by rw [e, hG5] at z; cases z
              rw [upd_ne ne]
              exact st15.gh a o' z
            refine ⟨G5, acc ++ [u], pa ++ [y], ⟨fun a o' z => ?_, st15.gg, sG, st15.nw⟩, hG5, upd_same, DpAll_app (DpAll_mono ((st3.gg.trans st4.gg).trans st5.gg) hda) (.cons hu .nil), ?_⟩
            · have ne : a ≠ Da := fun e => by rw [e, hD] at z; cases z
              rw [upd_ne ne]
              exact st15.hh a o' z
            · rw [hnext, ← h8]; rfl
      · have ei : i = its.length := by omega
        subst ei
        refine .inl ⟨wk.stop H2 (st2.gg.trans st2.gh), ?_⟩
        rw [List.take_length, q] at hpre
        injection hpre with hpre
        subst hpre
        refine p2 (.ref Da) G' H2 (st.trans st2) ⟨Da, acc, rfl, hA, hG, hda⟩ fun b' f' => ?_
        have f' : (some (V.ref Da)) = some (.ref b') := f'
        have f' := Option.some.inj f'
        injection f' with f'
        rw [← f']
        exact st.hh.free hD
  · rw [Bool.eq_false_iff.mpr g] at p1; exact p1.elim
end
def gathR (f : D → Rs (List D)) : List D → Rs (List (List D))
  | [] => .ok []
  | d :: ds => (f d).quiet.bind fun l => (gathR f ds).map fun r => l :: r
theorem gathR_cons (f : D → Rs (List D)) (d : D) (ds : List D) : gathR f (d :: ds) = (f d).quiet.bind fun l => (gathR f ds).map fun r => l :: r := rfl
theorem gathR_nx {f : D → Rs (List D)} : ∀ (its : List D) (e : Xn), gathR f its ≠ .ex e
  | [], e, h => by cases h
  | d :: ds, e, h => by
    rw [gathR_cons] at h
    cases q : f d with
    | ok o =>
      rw [q] at h
      cases r : gathR f ds with
      | ok l => rw [r] at h; cases h
      | ex e' => exact gathR_nx ds e' r
      | no => rw [r] at h; cases h
    | ex e' => rw [q] at h; cases h
    | no => rw [q] at h; cases h
theorem gathR_at {f : D → Rs (List D)} {d : D} : ∀ {its : List D} {ds : List (List D)} {i : Nat}, gathR f its = .ok ds → its[i]? = some d → ∃ l p, f d = .ok l ∧ gathR f (its.take i) = .ok p ∧ gathR f (its.take (i + 1)) = .ok (p ++ [l])
  | [], _, i, _, h => by simp at h
  | x :: its, ds, 0, h, e => by
    have e : x = d := by simpa using e
    subst e
    rw [gathR_cons] at h
    obtain ⟨l, h1, h2⟩ := bind_okI h
    have h1 := quiet_okE h1
    refine ⟨l, [], h1, rfl, ?_⟩
    show (f x).quiet.bind _ = _
    rw [h1]; rfl
  | x :: its, ds, i + 1, h, e => by
    rw [gathR_cons] at h
    obtain ⟨l0, h1, h2⟩ := bind_okI h
    obtain ⟨r, h3, h4⟩ := map_okI h2
    have e : its[i]? = some d := by simpa using e
    obtain ⟨l, p, k1, k2, k3⟩ := gathR_at h3 e
    refine ⟨l, l0 :: p, k1, ?_, ?_⟩
    · show (f x).quiet.bind _ = _
      rw [h1]
      show (gathR f (its.take i)).map _ = _
      rw [k2]; rfl
    · show (f x).quiet.bind _ = _
      rw [h1]
      show (gathR f (its.take (i + 1))).map _ = _
      rw [k3]; rfl
theorem RowsR.snoc {K : PySem.W.Frag} {G H : Hp} {p : Addr} {vs : List V} {l : List D} (hp : H p = some (.lst vs)) (gp : G p = none) (r : DpAll K G vs l) : ∀ {as : List Addr} {dss : List (List D)}, RowsR K G H as dss → RowsR K G H (as ++ [p]) (dss ++ [l])
  | _, _, .nil => .cons hp gp r .nil
  | _, _, .cons h g r' t => .cons h g r' (RowsR.snoc hp gp r t)
section
variable {X : Cx} {c : Cw}
theorem nlRead (hK : c.K = X.K) {own : List Nat} {t : Tg} {ri : Env → Rs (List D)} {ro : Env → Rs (List D)} (ht : ∀ i ∈ t.slots, i ∈ own) :
    ∀ σ H Q, tO c (fun ρ => ((ri ρ).bind fun its => grd (few its.length) (gathR (fun d => (setTg t d (wipeE ρ own)).bind ro) its)).map .nw) σ H Q → tLc (tI c ri) (tT c.calm t) (tBo c.calm fun _ => .ok true) (tO c.calm fun ρ => (ro ρ).map .ow) own σ H Q := by
  intro σ H Q h
  refine tO.firstG h (fun ρ => bind_map _ _ _) fun ρ G its J G1 H1 s1 e1 st wk p1 => ?_
  intro Da hD
  generalize hf : (fun d => (setTg t d (wipeE ρ own)).bind ro) = f at *
  by_cases g : few its.length = true
  · rw [g] at p1
    cases q : gathR f its with
    | ex x => exact absurd q (gathR_nx its x)
    | no => rw [q] at p1; exact p1.elim
    | ok ds =>
      rw [q] at p1
      have p2 : ∀ u G' H', Stp G H G' H' → SlotR c.kx G' H' (.nw ds) (some u) → (∀ b, fp H' (.nw ds) (some u) b → H b = none) → Q u H' := p1
      refine ⟨fun i m H => m = its.length - i ∧ i ≤ its.length ∧ ∃ (G' : Hp) (as : List Addr) (pre : List (List D)), Stp G1 H1 G' H ∧ G' Da = none ∧ H Da = some (.lst (as.map V.ref)) ∧ RowsR c.K G' H as pre ∧ (Da :: as).Nodup ∧ (∀ b ∈ as, H1 b = none) ∧ gathR f (its.take i) = .ok pre,
        ⟨its.length, by simp, Nat.zero_le _, G1, [], [], Stp.beside s1 hD, s1.free hD, upd_same, .nil, by simp, by simp, rfl⟩, fun i m H2 hW => ?_⟩
      obtain ⟨hm, hi2, G', as, pre, st2, hG, hA, hda, nd, nw1, hpre⟩ := hW
      by_cases hlt : i < its.length
      · refine .inr ⟨wk.go i H2 hlt (st2.gg.trans st2.gh), fun H' => ∃ (G' : Hp) (as : List Addr) (pre : List (List D)), Stp G1 H1 G' H' ∧ G' Da = none ∧ H' Da = some (.lst (as.map V.ref)) ∧ RowsR c.K G' H' as pre ∧ (Da :: as).Nodup ∧ (∀ b ∈ as, H1 b = none) ∧ gathR f (its.take (i + 1)) = .ok pre, fun H' hN' => ⟨its.length - (i + 1), by omega, rfl, by omega, hN'⟩, fun x H3 hy => ?_⟩
        obtain ⟨d, G3, ed, st3, hx⟩ := wk.yld i H2 x H3 G' hlt st2.gg st2.gh hy
        obtain ⟨l, pa, k1, k2, k3⟩ := gathR_at q ed
        have hpa : pa = pre := by
          rw [hpre] at k2
          injection k2 with k2
          exact k2.symm
        subst hpa
        have hda3 := hda.step st3
        have keepG : ∀ {Ga Ha Gb Hb : Hp} {o : HO}, Stp Ga Ha Gb Hb → Ga Da = none → Ha Da = some o → Gb Da = none := fun {Ga Ha Gb Hb o} s g h => by
          cases z : Gb Da with
          | none => rfl
          | some o' => have := s.nw Da o' z g; rw [h] at this; cases this
        have hd3 := st3.hh Da _ hA
        have hG3 := keepG st3 hG hA
        have st13 := st2.trans st3
        rw [← hf] at k1
        obtain ⟨ρ1, h1, h2⟩ := bind_okI k1
        obtain ⟨bs, h3, h4⟩ := map_okI h1
        have E3 : EnvR c.kx G3 H3 (wipeE ρ own) (wipe σ own) := (e1.step st13).wipe own
        refine ⟨G3, d, st3.gh, hx, ?_⟩
        rw [h3]
        intro us hb
        have E4 : EnvR c.kx G3 H3 ρ1 (setAllV (wipe σ own) us) := by
          rw [← h4]; exact E3.all hb
        refine ⟨by rw [wipe_setAll own _ hb fun z hz => ht z.1 (bind_slots t d bs h3 z hz), wipe_twice], ⟨ρ1, G3, st3.gh, E4, ?_⟩⟩
        intro b' G4 H4 st4 eb'
        subst eb'
        rw [if_pos rfl]
        have hd4 := st4.hh Da _ hd3
        have hG4 := keepG st4 hG3 hd3
        refine ⟨ρ1, G4, st4.gh, E4.step st4, ?_⟩
        dsimp only
        rw [h2]
        intro u G5 H5 st5 sr fr
        obtain ⟨p, vs, eu, hp, gp, rd⟩ := sr
        have eu := Option.some.inj eu
        subst eu
        have hd5 := st5.hh Da _ hd4
        have hG5 := keepG st5 hG4 hd4
        have st15 := (st13.trans st4).trans st5
        have p4 : H4 p = none := fr p rfl
        have pD : p ≠ Da := fun e => by rw [e, hd4] at p4; cases p4
        have da4 := hda3.step st4
        have pas : p ∉ as := fun hm => by
          obtain ⟨_, vs', hv⟩ := da4.mem hm
          rw [hv] at p4; cases p4
        have Das : Da ∉ as := (List.nodup_cons.mp nd).1
        refine ⟨as.map V.ref, hd5, ?_, ?_⟩
        · have := hda.len
          have : pa.length = (its.take i).length := by
            have : ∀ (l : List D) (p : List (List D)), gathR f l = .ok p → p.length = l.length := by
              intro l
              induction l with
              | nil => intro p h; cases h; rfl
              | cons x l ih =>
                intro p h
                rw [gathR_cons] at h
                obtain ⟨_, _, h2⟩ := bind_okI h
                obtain ⟨r, h3, h4⟩ := map_okI h2
                rw [← h4, List.length_cons, List.length_cons, ih r h3]
            exact this _ _ hpre
          rw [List.length_take] at this
          have := few_lt g
          rw [List.length_map]
          omega
        · have sG : Same G5 (upd H5 Da (.lst (as.map V.ref ++ [.ref p]))) := fun a o' z => by
            have ne : a ≠ Da := fun e => by rw [e, hG5] at z; cases z
            rw [upd_ne ne]
            exact st15.gh a o' z
          refine ⟨G5, as ++ [p], pa ++ [l], ⟨fun a o' z => ?_, st15.gg, sG, st15.nw⟩, hG5, by rw [upd_same, List.map_append]; rfl, ?_, ?_, fun b hb => ?_, ?_⟩
          · have ne : a ≠ Da := fun e => by rw [e, hD] at z; cases z
            rw [upd_ne ne]
            exact st15.hh a o' z
          · refine RowsR.snoc (by rw [upd_ne pD]; exact hp) gp rd ((da4.step st5).same (Same.refl G5) fun b hb => ⟨?_, ((da4.step st5).mem hb).1⟩)
            exact upd_ne fun e => Das (e ▸ hb)
          · rw [List.nodup_cons] at nd ⊢
            refine ⟨?_, ?_⟩
            · rw [List.mem_append, List.mem_singleton]
              rintro (e | e)
              · exact nd.1 e
              · exact pD e.symm
            · rw [List.nodup_append]
              exact ⟨nd.2, by simp, fun a ha b hb => by rw [List.mem_singleton.mp hb]; exact fun e => pas (e ▸ ha)⟩
          · rcases List.mem_append.mp hb with hb | hb
            · exact nw1 b hb
            · rw [List.mem_singleton.mp hb]
              exact (st13.trans st4).hh.free p4
          · exact k3
      · have ei : i = its.length := by omega
        subst ei
        refine .inl ⟨wk.stop H2 (st2.gg.trans st2.gh), ?_⟩
        rw [List.take_length, q] at hpre
        injection hpre with hpre
        subst hpre
        refine p2 (.ref Da) G' H2 (st.trans st2) ⟨Da, as, rfl, hA, hG, hda, nd⟩ fun b' f' => ?_
        obtain ⟨a', as', e1, e2, e3⟩ := f'
        have e1 := Option.some.inj e1
        injection e1 with e1
        subst e1
        rw [hA] at e2
        injection e2 with e2
        injection e2 with e2
        have e2 := refs_inj e2
        subst e2
        rcases e3 with e3 | e3
        · rw [e3]; exact st.hh.free hD
        · exact st.hh.free (nw1 b' e3)
  · rw [Bool.eq_false_iff.mpr g] at p1; exact p1.elim
theorem Oe.sound {T : Tb} {k : Nat} (ok : Okx T c k false X) {oe : Oe} {e : Expr} (h : oe.chk T false X.N X.env.scope e = true) : PE X e (tO c fun ρ => (oe.ev T ρ).map .ow) := by
  cases oe with
  | rng a =>
    dsimp only [Oe.chk] at h
    split at h
    · obtain ⟨_, h⟩ := and2 h
      obtain ⟨h1, h⟩ := and2 h
      obtain ⟨h2, h⟩ := and2 h
      obtain ⟨h3, h⟩ := and2 h
      obtain ⟨h4, h⟩ := and2 h
      obtain ⟨h5, h6⟩ := and2 h
      have e1 := of_decide_eq_true h1
      have e3 := of_decide_eq_true h3
      subst e1 e3
      exact pO_rng ok (glG h2) (glG h4) h5 (E.sound T k false a X c _ ok h6).e
    · cases h
  | cp a =>
    dsimp only [Oe.chk] at h
    split at h
    · obtain ⟨_, h⟩ := and2 h
      obtain ⟨h1, h⟩ := and2 h
      obtain ⟨h2, h⟩ := and2 h
      obtain ⟨h5, h6⟩ := and2 h
      have e1 := of_decide_eq_true h1
      subst e1
      exact pO_cp ok (glG h2) h5 (E.sound T k false a X c _ ok h6).e
    · cases h
  | mul a n =>
    dsimp only [Oe.chk] at h
    split at h
    · obtain ⟨h1, h2⟩ := and2 h
      exact pO_mul ok (E.sound T k false a X c _ ok h1).e (E.sound T k false n X c _ ok h2).e
    · cases h
  | cmp e' t kd is cs own =>
    have h : (E.cmpr e' t kd is cs own).chk T false X.N X.env.scope e = true := h
    exact LcT.e ok.nd (cmpr_lc ok h fun ht => lcReadW ok.hK ht)
/-- [new list for ..] -/
def nlChk (T : Tb) (N : List Str) (sc : Scope) (oe : Oe) (t : Tg) (k : It) (is : Es) (own : List Nat) (x : Expr) : Bool := match x with
  | .ListComp elt [⟨tg, iter, [], 0⟩] scope _ => blkC N sc scope (ownP N own) && (t.slots.all (own.contains ·) && (t.chk N (relS scope sc) (fun x => scope.names.lookup x == some .cell) tg && (plE iter &&
      ((match itForm k tg sc iter with | some l => is.chk T false N sc l | none => false) && oe.chk T false N (relS scope sc) elt))))
  | _ => false
theorem nl_lc {T : Tb} {k : Nat} {oe : Oe} {t : Tg} {kd : It} {is : Es} {own : List Nat} {x : Expr} (ok : Okx T c k false X) (h : nlChk T X.N X.env.scope oe t kd is own x = true) :
    LcT X x (tO c fun ρ => (((is.ev T ρ).bind fun ds => (itD kd ds).quiet).bind fun its => grd (few its.length) (gathR (fun d => (setTg t d (wipeE ρ own)).bind (oe.ev T)) its)).map .nw) := by
  unfold nlChk at h
  split at h
  · rename_i elt tg iter scope pos
    obtain ⟨h1, h⟩ := and2 h
    obtain ⟨h2, h⟩ := and2 h
    obtain ⟨h3, h⟩ := and2 h
    obtain ⟨h4, h⟩ := and2 h
    obtain ⟨h5, h8⟩ := and2 h
    have hown : (ownP X.N own).map (·.2) = own := by
      unfold ownP
      rw [List.map_map]
      exact List.map_id' own
    have hi : PI X tg iter (tI c fun ρ => (is.ev T ρ).bind fun ds => (itD kd ds).quiet) := by
      cases q : itForm kd tg X.env.scope iter with
      | none => rw [q] at h5; cases h5
      | some l =>
        rw [q] at h5
        have hl := plL is _ _ _ h5
        have hs := Es.sound T k _ is X c _ ok h5
        refine itPI (r1 := oneEv T is) ok.hK (ok.cm rfl) (fun x hx => ok.bl (by rcases hx with e | e | e <;> rw [e] <;> decide +kernel)) q hs.1 hl.1 (fun ρ ds hd => (evs_len T is ρ ds hd).trans hl.2.symm) fun e1 e2 => ?_
        subst e1
        obtain ⟨a, ea⟩ := seq1 is _ _ iter h5
        have i := (hs.2.2 a iter ea rfl).e
        rw [ea]
        exact ⟨i, oneEv_eq T a⟩
    refine ⟨elt, tg, iter, [], scope, pos, ownP X.N own, _, _, _, _, rfl, ok.cm rfl, hi, blkOk_by h1,
      (fun s H C cl fp => Tg.sound (X := X.blk s H scope (compEnvC scope cl C X.env) fp) (c := c.calm) ok.hK ok.nd (ok.cm rfl) _ (fun _ h => h) t tg h3),
      (fun s H C cl fp => ptsS (T := T) (c := c.calm) .nil [] (by decide) (fun e' x' q1 q2 => by cases q1) rfl),
      (fun s H C cl fp => Oe.sound (ok.blk s H scope C cl fp) h8), setI h4, ?_⟩
    rw [hown]
    exact nlRead ok.hK fun i hi => List.contains_iff_mem.mp (List.all_eq_true.mp h2 i hi)
  · cases h
end
end Rf
set_option Elab.async false
set_option linter.all false
set_option maxRecDepth 100000
set_option maxHeartbeats 4000000
namespace Rf
open PySem PySem.Spec PyProof.Rows L2
inductive Fl where
  | nx (ρ : Env) | rt (d : D) | bk (ρ : Env) | ct (ρ : Env)
  /-- back from a def that writes its first argument -/
  | rd (d : D) (ps : List (D × D))
/-- a value, or a list that is the name's own -/
inductive Pv where
  | v (x : E) | o (es : Es) | w (oe : Oe) | n (oe : Oe) (t : Tg) (k : It) (is : Es) (own : List Nat)
mutual
inductive S where
  | asg (t : Tg) (e : E) (fr : List Nat)
  | own (i : Nat) (es : Es) (fr : List Nat)
  | par (i j : Nat) (a b : Pv) (fr : List Nat)
  | par3 (i j l : Nat) (a b d : Pv) (fr : List Nat)
  | star (o : Bool) (i j : Nat) (e : E) (fr : List Nat)
  | aug (i : Nat) (o : Operator) (e : E)
  | app (i : Nat) (e : E) (fr : List Nat)
  | pop (t : Tg) (i : Nat)
  | rpl (i : Nat) (a : E) (qs : List (Str × Str))
  | asp (i : Nat) (a : Pv) (fr : List Nat)
  | asv (t : Tg) (e : E)
  | ost (i : Nat) (y e : E)
  | nst (i : Nat) (y j e : E)
  | npp (i : Nat) (y : E) (j : Nat) (z x e : E)
  | npz (i a b : Nat) (e : E)
  | dcp (i : Nat) (e : E)
  | dst (i : Nat) (k : Str) (e : E) (fr : List Nat)
  | dup (i : Nat) (e : E)
  | dml (j f i : Nat) (es : Es)
  | rtd (e : E)
  | exp (e : E)
  | ret (e : E) (fr : List Nat)
  | ite (c : E) (a b : Ss)
  | forl (t : Tg) (k : It) (is : Es) (b : Ss) (fr : List Nat)
  | whl (n : Nat) (c : E) (b : Ss)
  | rais (cl : Nat)
  | brk
  | pass
  | tryx (b : Ss) (cl : Nat) (i : Nat) (h : Ss)
inductive Ss where
  | nil
  | cons (s : S) (ss : Ss)
end
def vw : Sl → Sl
  | .ow ds => .fz (.list ds)
  | .nw dss => .fz (.list (dss.map .list))
  | .od _ ps => .fz (.dict ps)
  | s => s
def frzP (p : Nat → Bool) (ρ : Env) : Env := ρ.mapIdx fun i s => if p i = true then vw s else s
def frzL (fr : List Nat) (ρ : Env) : Env := match fr with
  | [] => ρ
  | _ => frzP (fun i => fr.contains i) ρ
@[simp] theorem frzL_nil (ρ : Env) : frzL [] ρ = ρ := id rfl
def viewE (ρ : Env) : Env := ρ.map vw
def blank (ρ : Env) : Env := ρ.map fun _ => .un
def forD (step : D → Env → Rs Fl) : List D → Env → Rs Fl
  | [], ρ => .ok (.nx ρ)
  | d :: ds, ρ => (step d ρ).bind fun f => match f with
    | .nx ρ1 => forD step ds ρ1
    | .ct ρ1 => forD step ds ρ1
    | .bk ρ1 => .ok (.nx ρ1)
    | .rt x => .ok (.rt x)
    | .rd _ _ => .no
def whlD (c : Env → Rs Bool) (b : Env → Rs Fl) : Nat → Env → Rs Fl
  | 0, _ => .no
  | n + 1, ρ => (c ρ).bind fun k => if k = true then (b ρ).bind fun f => match f with
      | .nx ρ1 => whlD c b n ρ1
      | .ct ρ1 => whlD c b n ρ1
      | .bk ρ1 => .ok (.nx ρ1)
      | .rt x => .ok (.rt x)
      | .rd _ _ => .no
    else .ok (.nx ρ)
def Pv.ev (T : Tb) : Pv → Env → Rs Sl
  | .v x, ρ => (x.ev T ρ).map .fz
  | .o es, ρ => (es.ev T ρ).map .ow
  | .w oe, ρ => (oe.ev T ρ).map .ow
  | .n oe t k is own, ρ => (((is.ev T ρ).bind fun ds => (itD k ds).quiet).bind fun its => grd (few its.length) (gathR (fun d => (setTg t d (wipeE ρ own)).bind (oe.ev T)) its)).map .nw
def tstE (T : Tb) (c : E) (ρ : Env) : Rs Bool := (c.ev T (viewE ρ)).bind asB
/-- an except suite's end -/
def caught : Rs Fl → Rs Fl
  | .ok (.rt d) => .ok (.rt d)
  | _ => .no
def tryD (T : Tb) (cl : Nat) (h : Xn → Rs Fl) : Rs Fl → Rs Fl
  | .ok f => .ok f
  | .no => .no
  | .ex e => grd (decide (e.1 < T.cls.length) && decide (cl < T.cls.length) && e.2.isNone) (if T.isa e.1 cl = true then caught (h e) else .ex e)
def binIntD : Operator → D → D → Rs D
  | .Add, .int a, .int b => .ok (.int (a + b))
  | .Sub, .int a, .int b => .ok (.int (a - b))
  | _, _, _ => .no
/-- the first item, and the others -/
def starD : D → Rs (D × List D)
  | .list (x :: xs) => .ok (x, xs)
  | .tuple (x :: xs) => .ok (x, xs)
  | _ => .no
def starS (o : Bool) (xs : List D) : Sl := if o = true then .ow xs else .fz (.list xs)
def appD (r : Env → Rs D) (i : Nat) (ρ : Env) : Rs Fl := match ρ[i]? with
  | some (.ow ds) => (r ρ).bind fun d => grd (few (ds.length + 1)) (.ok (.nx (ρ.set i (.ow (ds ++ [d])))))
  | _ => .no
def popD (t : Tg) (i : Nat) (ρ : Env) : Rs Fl := match ρ[i]? with
  | some (.ow ds) => (match ds.getLast? with | some d => (setTg t d (ρ.set i (.ow ds.dropLast))).quiet.map .nx | none => .no)
  | _ => .no
def opt {α β : Type} (o : Option α) (f : α → Rs β) : Rs β := match o with
  | some a => f a
  | none => .no
def owAt (ρ : Env) (i : Nat) : Option (List D) := match ρ[i]? with
  | some (.ow ds) => some ds
  | _ => none
def nwAt (ρ : Env) (i : Nat) : Option (List (List D)) := match ρ[i]? with
  | some (.nw ds) => some ds
  | _ => none
def intO : D → Option Int
  | .int n => some n
  | _ => none
def flatT : D → Bool
  | .tuple ds => ds.all flatD
  | d => flatD d
/-- x[k] = v -/
def ostD (i : Nat) (ρ : Env) (y : Env → Rs D) (v : D) : Rs Fl := opt (owAt ρ i) fun ds => (y ρ).bind fun k => opt (intO k) fun n => opt (ixN ds.length n) fun j => .ok (.nx (ρ.set i (.ow (ds.set j v))))
/-- x[a][b] = v -/
def nstD (i : Nat) (ρ : Env) (y z : Env → Rs D) (v : D) : Rs Fl := opt (nwAt ρ i) fun dss => (y ρ).bind fun a => opt (intO a) fun m => opt (ixN dss.length m) fun p => opt dss[p]? fun r =>
  (z ρ).bind fun b => opt (intO b) fun n => opt (ixN r.length n) fun q => .ok (.nx (ρ.set i (.nw (dss.set p (r.set q v)))))
/-- x[a][y[b].pop(c)] = v -/
def nppD (i j : Nat) (ρ : Env) (ya yb yc : Env → Rs D) (v : D) : Rs Fl := opt (nwAt ρ i) fun dss => (ya ρ).bind fun a => opt (intO a) fun m => opt (ixN dss.length m) fun p => opt dss[p]? fun r =>
  opt (nwAt ρ j) fun ess => (yb ρ).bind fun b => opt (intO b) fun m2 => opt (ixN ess.length m2) fun p2 => opt ess[p2]? fun r2 =>
  (yc ρ).bind fun c => opt (intO c) fun m3 => opt (ixN r2.length m3) fun q2 => opt r2[q2]? fun d => opt (intO d) fun n => opt (ixN r.length n) fun q =>
  grd (few r2.length) (.ok (.nx ((ρ.set j (.nw (ess.set p2 (r2.eraseIdx q2)))).set i (.nw (dss.set p (r.set q v))))))
/-- from each row what stands at its place goes -/
def popZ : List (List D) → List D → Option (List (List D))
  | r :: rs, .int n :: xs => if few r.length = true then (ixN r.length n).bind fun j => (popZ rs xs).map fun t => r.eraseIdx j :: t else none
  | [], [] => some []
  | _, _ => none
def npzD (i a b : Nat) (ρ : Env) (re : Env → Rs D) : Rs Fl := opt (nwAt ρ i) fun dss => (re ρ).bind fun d => (itsD d).quiet.bind fun xs => opt (popZ dss xs) fun t => grd (Nat.blt a ρ.length && Nat.blt b ρ.length) (.ok (.nx (((ρ.set i (.nw t)).set a .un).set b .un)))
def odAt (ρ : Env) (i : Nat) : Option (Bool × List (D × D)) := match ρ[i]? with
  | some (.od m ps) => some (m, ps)
  | _ => none
/-- x = dict(e) -/
def dcpD (i : Nat) (ρ : Env) : D → Rs Fl
  | .dict ps => .ok (.nx (ρ.set i (.od false ps)))
  | _ => .no
/-- x[k] = v -/
def dstD (i : Nat) (k : Str) (ρ : Env) (v : D) : Rs Fl := opt (odAt ρ i) fun q => grd (few q.2.length) (.ok (.nx (ρ.set i (.od q.1 (kvPut q.2 k v)))))
/-- x.update({..}) -/
def dupD (i : Nat) (ρ : Env) : D → Rs Fl
  | .dict qs => opt (odAt ρ i) fun q => grd (few q.2.length && few qs.length) (.ok (.nx (ρ.set i (.od q.1 (kvMrg q.2 qs)))))
  | _ => .no
/-- what a def that writes its first argument tells -/
def mutD (i j : Nat) (m : Bool) (ρ : Env) : D → Rs Fl
  | .tuple [d, .dict ps] => .ok (.nx ((ρ.set i (.od m ps)).set j (.fz d)))
  | _ => .no
def seqF (f : Fl) (k : Env → Rs Fl) : Rs Fl := match f with
  | .nx ρ => k ρ
  | f => .ok f
mutual
def S.ex (T : Tb) : S → Env → Rs Fl
  | .asg t e fr, ρ => (e.ev T (frzL fr ρ)).bind fun d => (setTg t d (frzL fr ρ)).quiet.map .nx
  | .own i es fr, ρ => (es.ev T (frzL fr ρ)).map fun ds => .nx ((frzL fr ρ).set i (.ow ds))
  | .par i j a b fr, ρ => (a.ev T (frzL fr ρ)).bind fun x => (b.ev T (frzL fr ρ)).map fun y => .nx (((frzL fr ρ).set i x).set j y)
  | .par3 i j l a b d fr, ρ => (a.ev T (frzL fr ρ)).bind fun x => (b.ev T (frzL fr ρ)).bind fun y => (d.ev T (frzL fr ρ)).map fun z => .nx ((((frzL fr ρ).set i x).set j y).set l z)
  | .star o i j e fr, ρ => (e.ev T (frzL fr ρ)).bind fun d => (starD d).map fun q => .nx (((frzL fr ρ).set i (.fz q.1)).set j (starS o q.2))
  | .aug i o e, ρ => (varD ρ[i]?).bind fun x => (e.ev T ρ).bind fun y => (binIntD o x y).quiet.map fun z => .nx (ρ.set i (.fz z))
  | .app i e fr, ρ => appD (e.ev T) i (frzL fr ρ)
  | .pop t i, ρ => popD t i ρ
  | .asp i a fr, ρ => (a.ev T (frzL fr ρ)).map fun s => .nx ((frzL fr ρ).set i s)
  | .asv t e, ρ => (e.ev T (viewE ρ)).bind fun d => grd (flatT d) ((setTg t d ρ).quiet.map .nx)
  | .ost i y e, ρ => (e.ev T ρ).bind fun v => ostD i ρ (y.ev T) v
  | .nst i y j e, ρ => (e.ev T ρ).bind fun v => nstD i ρ (y.ev T) (j.ev T) v
  | .npp i y j z x e, ρ => (e.ev T ρ).bind fun v => nppD i j ρ (y.ev T) (z.ev T) (x.ev T) v
  | .npz i a b e, ρ => npzD i a b ρ (e.ev T)
  | .rpl i a qs, ρ => (a.ev T ρ).bind fun d => (rplAll qs d).map fun z => .nx (ρ.set i (.fz z))
  | .dcp i e, ρ => (e.ev T ρ).bind (dcpD i ρ)
  | .dst i k e fr, ρ => (e.ev T (frzL fr ρ)).bind (dstD i k (frzL fr ρ))
  | .dup i e, ρ => opt (odAt ρ i) fun _ => (e.ev T ρ).bind (dupD i ρ)
  | .dml j f i es, ρ => opt (odAt ρ i) fun q => (es.ev T ρ).bind fun ds => (T.fn f (.dict q.2 :: ds)).quiet.bind (mutD i j q.1 ρ)
  | .rtd e, ρ => opt (odAt ρ 0) fun q => grd q.1 ((e.ev T ρ).map fun d => .rd d q.2)
  | .exp e, ρ => (e.ev T ρ).map fun _ => .nx ρ
  | .ret e fr, ρ => (e.ev T (frzL fr ρ)).map .rt
  | .ite c a b, ρ => (tstE T c ρ).bind fun k => if k = true then a.ex T ρ else b.ex T ρ
  | .forl t k is b fr, ρ => ((is.ev T (frzL fr ρ)).bind fun ds => (itD k ds).quiet).bind fun its => forD (fun d ρ1 => (setTg t d ρ1).quiet.bind fun ρ2 => b.ex T ρ2) its (frzL fr ρ)
  | .whl n c b, ρ => whlD (tstE T c) (fun ρ1 => b.ex T ρ1) n ρ
  | .rais cl, _ => grd (decide (cl < T.cls.length)) (.ex (cl, none))
  | .brk, ρ => .ok (.bk ρ)
  | .pass, ρ => .ok (.nx ρ)
  | .tryx b cl i h, ρ => tryD T cl (fun e => h.ex T ((blank ρ).set i (.xn e))) (b.ex T ρ)
def Ss.ex (T : Tb) : Ss → Env → Rs Fl
  | .nil, ρ => .ok (.nx ρ)
  | .cons s ss, ρ => (s.ex T ρ).bind fun f => seqF f (ss.ex T)
end
/-- a def: its body run at its arguments -/
def runD (T : Tb) (n : Nat) (loc : Nat) (b : Ss) (ds : List D) : Rs D := if ds.length = n then (b.ex T (ds.map .fz ++ List.replicate (loc - n) .un)).bind fun f => match f with
    | .nx _ => .ok .none
    | .rt d => .ok d
    | _ => .no
  else .no
def notComp : Expr → Bool
  | .ListComp .. => false
  | .SetComp .. => false
  | .DictComp .. => false
  | _ => true
def isNm : Tg → Bool
  | .nm _ => true
  | _ => false
def tgt : Expr → Bool
  | .Tuple .. => false
  | .List .. => false
  | _ => true
/-- two plain local names on one line, stored from the right (some true), or one after another (some false) -/
def swap2 (sc : Scope) (x y : Str) (px py : Pos) (a b : Expr) : Option Bool :=
  if (locB sc x && (locB sc y && (py.line == px.line))) = false then some false
  else if (x == y) = true then none
  else if [a, b].all (foldedForSure 8) = true then some false
  else if [a, b].all (constantsAlone 8) = true then none
  else some true
theorem kindLoc {sc : Scope} {x : Str} : (sc.names.lookup x == some .local) = locB sc x := by
  unfold locB
  cases sc.names.lookup x with
  | none => rfl
  | some k => cases k <;> rfl
theorem st_of : ∀ {a : Expr}, plE a = true → (match a with | .Starred .. => true | _ => false) = false := by
  intro a h
  cases a <;> first | rfl | cases h
theorem swapped2 {env : PySem.Env} {x y : Str} {px py pt pt2 : Pos} {kt k2 : Nat} {a b : Expr} {r : Bool} (hk : env.scope.kind = .function) (pa : plE a = true) (pb : plE b = true) (h : swap2 env.scope x y px py a b = some r) :
    swappedStores [.Tuple [.Name x px, .Name y py] kt pt] (.Tuple [a, b] k2 pt2) env = pure (if r = true then some [x, y] else none) := by
  have hb : env.blockKind = .function := by unfold Env.blockKind; rw [hk]; rfl
  have s1 := st_of pa
  have s2 := st_of pb
  have hst : ([a, b].any fun | .Starred .. => true | _ => false) = false := by
    rw [List.any_cons, List.any_cons, List.any_nil, s1, s2]; rfl
  have kx : (env.kindOf x = some .local) ↔ locB env.scope x = true := by rw [← kindLoc]; exact beq_iff_eq.symm
  have ky : (env.kindOf y = some .local) ↔ locB env.scope y = true := by rw [← kindLoc]; exact beq_iff_eq.symm
  have kl : (py.line = px.line) ↔ (py.line == px.line) = true := beq_iff_eq.symm
  unfold swappedStores
  simp only [hb, hst]
  unfold swap2 at h
  split at h
  · rename_i g
    injection h with h
    subst h
    cases hx : locB env.scope x <;> cases hy : locB env.scope y <;> cases hl : (py.line == px.line) <;> rw [hx, hy, hl] at g <;> first | (cases g; done) | skip
    all_goals (rw [hx] at kx; rw [hy] at ky; rw [hl] at kl; simp [s1, s2, List.filterMap_cons, kx, ky, kl, Expr.pos])
  · rename_i g
    cases hx : locB env.scope x <;> cases hy : locB env.scope y <;> cases hl : (py.line == px.line) <;> rw [hx, hy, hl] at g <;> first | exact absurd rfl g | skip
    rw [hx] at kx
    rw [hy] at ky
    rw [hl] at kl
    split at h
    · cases h
    · rename_i hne
      have hne : x ≠ y := fun e => hne (by rw [e]; exact beq_self_eq_true y)
      have hne2 : y ≠ x := fun e => hne e.symm
      split at h
      · rename_i hf
        injection h with h
        subst h
        simp only [List.all_cons, List.all_nil, Bool.and_true, Bool.and_eq_true] at hf
        simp [s1, s2, List.filterMap_cons, kx, ky, kl, Expr.pos, hne, hne2, hf, List.eraseDups_cons]
      · rename_i hf
        split at h
        · cases h
        · rename_i hcn
          injection h with h
          subst h
          simp only [List.all_cons, List.all_nil, Bool.and_true, Bool.and_eq_true] at hf hcn
          simp [s1, s2, List.filterMap_cons, kx, ky, kl, Expr.pos, hne, hne2, hf, hcn, List.eraseDups_cons]
          intro hh
          rcases hh with hh | hh
          · exact nomatch (show false = true from s1.symm.trans hh)
          · exact nomatch (show false = true from s2.symm.trans hh)

/-- three plain local names on one line, stored from the right -/
def swap3 (sc : Scope) (x y z : Str) (px py pz : Pos) (a b d : Expr) : Bool :=
  (locB sc x && (locB sc y && (locB sc z && ((py.line == px.line) && (pz.line == px.line))))) && (!(x == y) && (!(x == z) && (!(y == z) && (!([a, b, d].all (foldedForSure 8)) && !([a, b, d].all (constantsAlone 8))))))
theorem swapped3 {env : PySem.Env} {x y z : Str} {px py pz pt pt2 : Pos} {kt k2 : Nat} {a b d : Expr} (hk : env.scope.kind = .function) (pa : plE a = true) (pb : plE b = true) (pd : plE d = true) (h : swap3 env.scope x y z px py pz a b d = true) :
    swappedStores [.Tuple [.Name x px, .Name y py, .Name z pz] kt pt] (.Tuple [a, b, d] k2 pt2) env = pure (some [x, y, z]) := by
  have hb : env.blockKind = .function := by unfold Env.blockKind; rw [hk]; rfl
  have s1 := st_of pa
  have s2 := st_of pb
  have s3 := st_of pd
  have hst : ([a, b, d].any fun | .Starred .. => true | _ => false) = false := by
    rw [List.any_cons, List.any_cons, List.any_cons, List.any_nil, s1, s2, s3]; rfl
  unfold swap3 at h
  simp only [Bool.and_eq_true, Bool.not_eq_true'] at h
  obtain ⟨⟨hx, hy, hz, l1, l2⟩, n1, n2, n3, hf, hcn⟩ := h
  have kx : env.kindOf x = some .local := by rw [← kindLoc] at hx; exact beq_iff_eq.mp hx
  have ky : env.kindOf y = some .local := by rw [← kindLoc] at hy; exact beq_iff_eq.mp hy
  have kz : env.kindOf z = some .local := by rw [← kindLoc] at hz; exact beq_iff_eq.mp hz
  have m1 : py.line = px.line := beq_iff_eq.mp l1
  have m2 : pz.line = px.line := beq_iff_eq.mp l2
  have q1 : x ≠ y := fun e => by rw [e, beq_self_eq_true] at n1; cases n1
  have q2 : x ≠ z := fun e => by rw [e, beq_self_eq_true] at n2; cases n2
  have q3 : y ≠ z := fun e => by rw [e, beq_self_eq_true] at n3; cases n3
  have q4 : y ≠ x := fun e => q1 e.symm
  have q5 : z ≠ x := fun e => q2 e.symm
  have q6 : z ≠ y := fun e => q3 e.symm
  simp only [List.all_cons, List.all_nil, Bool.and_true, Bool.and_eq_false_iff] at hf hcn
  have hf : ¬ (foldedForSure 8 a = true ∧ foldedForSure 8 b = true ∧ foldedForSure 8 d = true) := fun ⟨f1, f2, f3⟩ => by
    rcases hf with e | e | e
    · rw [f1] at e; cases e
    · rw [f2] at e; cases e
    · rw [f3] at e; cases e
  have hcn : ¬ (constantsAlone 8 a = true ∧ constantsAlone 8 b = true ∧ constantsAlone 8 d = true) := fun ⟨f1, f2, f3⟩ => by
    rcases hcn with e | e | e
    · rw [f1] at e; cases e
    · rw [f2] at e; cases e
    · rw [f3] at e; cases e
  unfold swappedStores
  simp only [hb, hst]
  simp [s1, s2, s3, List.filterMap_cons, kx, ky, kz, m1, m2, Expr.pos, q1, q2, q3, q4, q5, q6, hf, hcn, List.eraseDups_cons]
  intro hh
  rcases hh with hh | hh | hh
  · exact nomatch (show false = true from s1.symm.trans hh)
  · exact nomatch (show false = true from s2.symm.trans hh)
  · exact nomatch (show false = true from s3.symm.trans hh)
theorem swapped3n {env : PySem.Env} {x y z : Str} {px py pz pt pt2 : Pos} {kt k2 : Nat} {a b d : Expr} (hk : env.scope.kind = .function) (pa : plE a = true) (pb : plE b = true) (pd : plE d = true) (h : (locB env.scope x && (locB env.scope y && locB env.scope z)) = false) :
    swappedStores [.Tuple [.Name x px, .Name y py, .Name z pz] kt pt] (.Tuple [a, b, d] k2 pt2) env = pure none := by
  have hb : env.blockKind = .function := by unfold Env.blockKind; rw [hk]; rfl
  have s1 := st_of pa
  have s2 := st_of pb
  have s3 := st_of pd
  have hst : ([a, b, d].any fun | .Starred .. => true | _ => false) = false := by
    rw [List.any_cons, List.any_cons, List.any_cons, List.any_nil, s1, s2, s3]; rfl
  have kx : (env.kindOf x = some .local) ↔ locB env.scope x = true := by rw [← kindLoc]; exact beq_iff_eq.symm
  have ky : (env.kindOf y = some .local) ↔ locB env.scope y = true := by rw [← kindLoc]; exact beq_iff_eq.symm
  have kz : (env.kindOf z = some .local) ↔ locB env.scope z = true := by rw [← kindLoc]; exact beq_iff_eq.symm
  have len : (([Expr.Name x px, Expr.Name y py, Expr.Name z pz] : List Expr).filterMap fun
    | .Name id pos => if env.kindOf id = some .local ∧ pos.line = px.line then some id else none
    | _ => none).length ≠ 3 := by
    cases hx : locB env.scope x <;> cases hy : locB env.scope y <;> cases hz : locB env.scope z <;> rw [hx, hy, hz] at h <;> first | (cases h; done) | skip
    all_goals (rw [hx] at kx; rw [hy] at ky; rw [hz] at kz; by_cases l1 : py.line = px.line <;> by_cases l2 : pz.line = px.line <;> simp [List.filterMap_cons, kx, ky, kz, l1, l2])
  unfold swappedStores
  simp only [hb, hst]
  simp [Expr.pos]
  intro _ _ _ hl
  exact absurd hl len
def swp3 (sc : Scope) (x y z : Str) (px py pz : Pos) (a b d : Expr) : Bool := !(locB sc x && (locB sc y && locB sc z)) || swap3 sc x y z px py pz a b d
def Pv.chk (T : Tb) (hot : Bool) (N : List Str) (sc : Scope) : Pv → Expr → Bool
  | .v x, e => x.chk T hot N sc e
  | .o es, e => match e with | .List l _ => es.chk T hot N sc l && decide (es.len ≤ 1000) | _ => false
  | .w oe, e => !hot && oe.chk T false N sc e
  | .n oe t k is own, e => !hot && nlChk T N sc oe t k is own e
def Pv.isLc : Pv → Bool
  | .w (.cmp ..) => true
  | .n .. => true
  | _ => false
def itChk (T : Tb) (hot : Bool) (N : List Str) (sc : Scope) (k : It) (is : Es) (tg iter : Expr) : Bool := match itForm k tg sc iter with | some l => is.chk T hot N sc l | none => false
mutual
def S.chk (T : Tb) (hot : Bool) (N : List Str) (sc : Scope) : S → Stmt → Bool
  | .asg t e fr, st => match st with
    | .Assign [tg] v _ => plE v && e.chk T hot N sc v && t.chk N sc (fun _ => true) tg && (!hot || isNm t) && plT tg &&
      (match v with
        | .ListComp _ _ _ _ => isNm t
        | .SetComp _ _ _ _ => false
        | .DictComp _ _ _ _ _ => false
        | .Tuple _ _ _ => isNm t
        | _ => true)
    | _ => false
  | .own i es fr, st => match st with
    | .Assign [.Name y _] (.List l _) _ => decide (N[i]? = some y) && lcB sc (fun _ => true) y && es.chk T hot N sc l && decide (es.len ≤ 1000)
    | _ => false
  | .par i j a b fr, st => match st with
    | .Assign [.Tuple [.Name x px, .Name y py] _ _] (.Tuple [l, r] _ _) _ => !hot && decide (i ≠ j) && decide (N[i]? = some x) && decide (N[j]? = some y) && lcB sc (fun _ => true) x && lcB sc (fun _ => true) y && plE l && plE r && (swap2 sc x y px py l r).isSome && a.chk T hot N sc l && b.chk T hot N sc r
    | _ => false
  | .par3 i j l a b d fr, st => match st with
    | .Assign [.Tuple [.Name x px, .Name y py, .Name z pz] _ _] (.Tuple [e1, e2, e3] _ _) _ => !hot && decide (i ≠ j) && decide (i ≠ l) && decide (j ≠ l) && decide (N[i]? = some x) && decide (N[j]? = some y) && decide (N[l]? = some z) && plE e1 && plE e2 && plE e3 && (lcB sc (fun _ => true) x && (lcB sc (fun _ => true) y && (lcB sc (fun _ => true) z && swp3 sc x y z px py pz e1 e2 e3))) && a.chk T hot N sc e1 && b.chk T hot N sc e2 && d.chk T hot N sc e3
    | _ => false
  | .star o i j e fr, st => match st with
    | .Assign [.Tuple [.Name x px, .Starred (.Name y py) _] _ _] v _ => !hot && decide (i ≠ j) && decide (N[i]? = some x) && decide (N[j]? = some y) && lcB sc (fun _ => true) x && lcB sc (fun _ => true) y && plE v && notComp v && (match v with | .Tuple _ _ _ => false | _ => true) && e.chk T hot N sc v
    | _ => false
  | .aug i o e, st => match st with
    | .AugAssign (.Name y _) p v _ => opB o p && (match o with | .Add => true | .Sub => true | _ => false) && decide (N[i]? = some y) && lcB sc (fun _ => true) y && plE v && e.chk T hot N sc v
    | _ => false
  | .app i e fr, st => match st with
    | .Expr (.Call (.Attribute (.Name y _) m ap) [v] [] cp) _ => !hot && decide (m = ("append" : Str)) && (ap.endLine == cp.line) && decide (N[i]? = some y) && visB sc y && ndb y && plE v && e.chk T hot N sc v
    | _ => false
  | .rpl i a qs, st => match st with | _ => false
  | .dcp i e, st => match st with
    | .Assign [.Name y _] (.Call (.Name z _) [v] [] _) _ => !hot && (decide (z = ("dict" : Str)) && (glB sc z && (decide (N[i]? = some y) && (lcB sc (fun _ => true) y && (plE v && e.chk T hot N sc v)))))
    | _ => false
  | .dst i k e fr, st => match st with
    | .Assign [.Subscript (.Name x _) (.Constant (.str kk) _ _) _] v _ => !hot && (decide (kk = k) && (decide (N[i]? = some x) && (visB sc x && (ndb x && (notComp v && (plE v && e.chk T hot N sc v))))))
    | _ => false
  | .dup i e, st => match st with
    | .Expr (.Call (.Attribute (.Name x _) m ap) [v] [] cp) _ => !hot && (decide (m = ("update" : Str)) && ((ap.endLine == cp.line) && (decide (N[i]? = some x) && (visB sc x && (ndb x && (plE v && e.chk T hot N sc v))))))
    | _ => false
  | .dml j f i es, st => match st with
    | .Assign [.Name y _] (.Call (.Name z _) (.Name x _ :: ls) [] _) _ => !hot && (T.mus.contains f && (decide (T.fns[f]?.map (fun f => (f.name, f.ar)) = some (z, es.len + 1)) && (glB sc z && (ndb z && (decide (i ≠ j) && (decide (N[i]? = some x) && (visB sc x && (ndb x && (decide (N[j]? = some y) && (lcB sc (fun _ => true) y && es.chk T hot N sc ls))))))))))
    | _ => false
  | .rtd e, st => match st with
    | .Return (some v) _ => e.chk T hot N sc v
    | _ => false
  | .asp i a fr, st => match st with
    | .Assign [.Name y _] v _ => !hot && (decide (N[i]? = some y) && (lcB sc (fun _ => true) y && (a.chk T hot N sc v && (a.isLc || notComp v))))
    | _ => false
  | .asv t e, st => match st with
    | .Assign [tg] v _ => !hot && (plE v && (e.chk T hot N sc v && (t.chk N sc (fun _ => true) tg && (plT tg && (notComp v && (match v with | .Tuple .. => isNm t | _ => true))))))
    | _ => false
  | .ost i y e, st => match st with
    | .Assign [.Subscript (.Name x _) yy _] v _ => !hot && (decide (N[i]? = some x) && (visB sc x && (ndb x && (plE yy && (y.chk T hot N sc yy && (notComp v && (plE v && (e.chk T hot N sc v))))))))
    | _ => false
  | .nst i y j e, st => match st with
    | .Assign [.Subscript (.Subscript (.Name x _) yy _) jj _] v _ => !hot && (decide (N[i]? = some x) && (visB sc x && (ndb x && (plE yy && (plE jj && (y.chk T hot N sc yy && (j.chk T hot N sc jj && (notComp v && (plE v && (e.chk T hot N sc v))))))))))
    | _ => false
  | .npp i y j z x e, st => match st with
    | .Assign [.Subscript (.Subscript (.Name w _) yy _) (.Call (.Attribute (.Subscript (.Name w2 _) zz _) m ap) [xx] [] cp) _] v _ => !hot && (decide (i ≠ j) && (decide (N[i]? = some w) && (decide (N[j]? = some w2) && (visB sc w && (visB sc w2 && (ndb w && (ndb w2 && (decide (m = ("pop" : Str)) && ((ap.endLine == cp.line) && (plE yy && (plE zz && (plE xx && (y.chk T hot N sc yy && (z.chk T hot N sc zz && (x.chk T hot N sc xx && (notComp v && (plE v && (e.chk T hot N sc v))))))))))))))))))
    | _ => false
  | .npz i a b e, st => match st with
    | .For (.Tuple [.Name ra _, .Name xb _] _ _) (.Call (.Name z _) [.Name rw _, ee] [] _) [.Expr (.Call (.Attribute (.Name ra2 _) m ap) [.Name xb2 _] [] cp) _] [] _ =>
      !hot && (decide (a ≠ b) && (decide (i ≠ a) && (decide (i ≠ b) && (decide (z = ("zip" : Str)) && (glB sc z && (decide (N[a]? = some ra) && (decide (N[b]? = some xb) && (decide (N[i]? = some rw) && (decide (ra2 = ra) && (decide (xb2 = xb) && (decide (m = ("pop" : Str)) && ((ap.endLine == cp.line) && (lcB sc (fun _ => true) ra && (lcB sc (fun _ => true) xb && (visB sc rw && (visB sc ra && (visB sc xb && (ndb rw && (ndb ra && (ndb xb && (plE ee && (e.chk T hot N sc ee))))))))))))))))))))))
    | _ => false
  | .pop t i, st => match st with
    | .Assign [tg] (.Call (.Attribute (.Name y _) m ap) [] [] cp) _ => !hot && decide (m = ("pop" : Str)) && (ap.endLine == cp.line) && decide (N[i]? = some y) && visB sc y && ndb y && t.chk N sc (fun _ => true) tg && plT tg
    | _ => false
  | .exp e, st => match st with
    | .Expr v _ => notComp v && plE v && e.chk T hot N sc v
    | _ => false
  | .ret e fr, st => match st with
    | .Return (some v) _ => e.chk T hot N sc v
    | _ => false
  | .ite c a b, st => match st with
    | .If t x y _ => c.chk T hot N sc t && a.chk T hot N sc x && b.chk T hot N sc y
    | _ => false
  | .forl t k is b fr, st => match st with
    | .For tg iter bd [] _ => !hot && plE iter && itChk T hot N sc k is tg iter && t.chk N sc (fun _ => true) tg && b.chk T hot N sc bd
    | _ => false
  | .whl n c b, st => match st with
    | .While t bd [] _ => !hot && c.chk T hot N sc t && b.chk T hot N sc bd
    | _ => false
  | .rais cl, st => match st with
    | .Raise (some (.Call (.Name y _) [.Constant (.str _) _ _] [] _)) none _ => !hot && decide (T.cls[cl]? = some y) && glB sc y && ndb y && !decide (y = ("NoRoom" : Str))
    | _ => false
  | .brk, st => match st with | .Break _ => true | _ => false
  | .pass, st => match st with | .Pass _ => true | _ => false
  | .tryx b cl i h, st => match st with
    | .Try bd [.ExceptHandler (some (.Name y _)) (some n) (h0 :: hs) _] [] [] _ => !hot && decide (T.cls[cl]? = some y) && glB sc y && ndb y && decide (N[i]? = some n) && locB sc n && b.chk T false N sc bd && h.chk T true N sc (h0 :: hs)
    | _ => false
def Ss.chk (T : Tb) (hot : Bool) (N : List Str) (sc : Scope) : Ss → List Stmt → Bool
  | .nil, l => match l with | [] => true | .Expr (.Constant (.str _) _ _) _ :: r => false | _ => false
  | .cons s ss, l => match l with | st :: r => s.chk T hot N sc st && ss.chk T hot N sc r | [] => false
end
/-- a def's own text behind its first row's remark -/
def undoc : List Stmt → List Stmt
  | .Expr (.Constant (.str _) _ _) _ :: r => r
  | l => l
end Rf
set_option Elab.async false
set_option linter.all false
set_option maxRecDepth 100000
set_option maxHeartbeats 4000000
namespace Rf
open PySem PySem.Spec PyProof.Rows L2
structure StR (K : Kx) (n : Nat) (G₀ H₀ : Hp) (ρ : Env) (σ : L2.St) (G H : Hp) : Prop where
  ln : ρ.length = n
  st : Stp G₀ H₀ G H
  en : EnvR K G H ρ σ
  ow : ∀ (i : Nat) (s : Sl) (v : Option V) b, ρ[i]? = some s → σ[i]? = some v → fp H s v b → H₀ b = none
  dj : ∀ (i j : Nat) (s t : Sl) (v w : Option V) b, i ≠ j → ρ[i]? = some s → ρ[j]? = some t → σ[i]? = some v → σ[j]? = some w → fp H s v b → fp H t w b → False
section
variable {K : Kx} {n : Nat} {G₀ H₀ G H G1 H1 : Hp} {ρ : Env} {σ : L2.St}
theorem StR.step (h : StR K n G₀ H₀ ρ σ G H) (s : Stp G H G1 H1) : StR K n G₀ H₀ ρ σ G1 H1 :=
  ⟨h.ln, h.st.trans s, h.en.step s, fun i sl v b e1 e2 f => h.ow i sl v b e1 e2 (fp_same (h.en.at_ i sl v e1 e2) s.hh f),
    fun i j sl t v w b ne e1 e2 e3 e4 f1 f2 => h.dj i j sl t v w b ne e1 e2 e3 e4 (fp_same (h.en.at_ i sl v e1 e3) s.hh f1) (fp_same (h.en.at_ j t w e2 e4) s.hh f2)⟩
theorem getset {α : Type} {l : List α} {i j : Nat} {x y : α} (h : (l.set i x)[j]? = some y) : (i = j ∧ y = x) ∨ (i ≠ j ∧ l[j]? = some y) := by
  by_cases e : i = j
  · subst e
    rw [List.getElem?_set_self'] at h
    cases q : l[i]? with
    | none => rw [q] at h; cases h
    | some z => rw [q] at h; exact .inl ⟨rfl, (Option.some.inj h).symm⟩
  · rw [List.getElem?_set_ne e] at h
    exact .inr ⟨e, h⟩
/-- a slot is written: a value, or lists that are new since H -/
theorem StR.set (h : StR K n G₀ H₀ ρ σ G H) (s : Stp G H G1 H1) {i : Nat} {sl : Sl} {u : V} (r : SlotR K G1 H1 sl (some u)) (nw : ∀ b, fp H1 sl (some u) b → H b = none) : StR K n G₀ H₀ (ρ.set i sl) (σ.set i (some u)) G1 H1 := by
  have h1 := h.step s
  have old : ∀ (m : Nat) t w b, ρ[m]? = some t → σ[m]? = some w → fp H1 t w b → H b ≠ none := fun m t w b m1 m2 f => by
    have sr := h.en.at_ m t w m1 m2
    obtain ⟨_, vs, hb⟩ := fp_own sr (fp_same sr s.hh f)
    rw [hb]
    exact Option.some_ne_none _
  refine ⟨by rw [List.length_set]; exact h.ln, h1.st, h1.en.set r, fun j t w b e1 e2 f => ?_, fun j k t t' w w' b ne e1 e2 e3 e4 f1 f2 => ?_⟩
  · rcases getset e1 with ⟨q, e⟩ | ⟨q, e⟩
    · rcases getset e2 with ⟨_, e'⟩ | ⟨q', _⟩
      · rw [e, e'] at f
        exact h.st.hh.free (nw b f)
      · exact absurd q q'
    · rcases getset e2 with ⟨q', _⟩ | ⟨_, e'⟩
      · exact absurd q' q
      · exact h1.ow j t w b e e' f
  · rcases getset e1 with ⟨q, e⟩ | ⟨q, e⟩
    · rcases getset e3 with ⟨_, e'⟩ | ⟨q', _⟩
      · rcases getset e2 with ⟨q2, _⟩ | ⟨_, e''⟩
        · exact ne (q.symm.trans q2)
        · rcases getset e4 with ⟨q2, _⟩ | ⟨_, e4'⟩
          · exact ne (q.symm.trans q2)
          · rw [e, e'] at f1
            exact old k t' w' b e'' e4' f2 (nw b f1)
      · exact absurd q q'
    · rcases getset e3 with ⟨q', _⟩ | ⟨_, e'⟩
      · exact absurd q' q
      · rcases getset e2 with ⟨q2, e''⟩ | ⟨q2, e''⟩
        · rcases getset e4 with ⟨_, e4'⟩ | ⟨q3, _⟩
          · rw [e'', e4'] at f2
            exact old j t w b e e' f1 (nw b f2)
          · exact absurd q2 q3
        · rcases getset e4 with ⟨q3, _⟩ | ⟨_, e4'⟩
          · exact absurd q3 q2
          · exact h1.dj j k t t' w w' b ne e e'' e' e4' f1 f2
theorem StR.setF (h : StR K n G₀ H₀ ρ σ G H) (s : Stp G H G1 H1) {i : Nat} {u : V} {d : D} (r : Dp K.1 G1 u d) : StR K n G₀ H₀ (ρ.set i (.fz d)) (σ.set i (some u)) G1 H1 := h.set s ⟨u, rfl, r⟩ fun _ f => f.elim
theorem StR.setAll : ∀ {bs : List (Nat × D)} {vs : List (Nat × V)} {ρ : Env} {σ : L2.St}, StR K n G₀ H₀ ρ σ G H → Bnd K.1 G bs vs → StR K n G₀ H₀ (setAllE ρ bs) (setAllV σ vs) G H
  | _, _, _, _, h, .nil => h
  | (i, d) :: bs, (_, v) :: vs, ρ, σ, h, .cons a b => StR.setAll (ρ := ρ.set i (.fz d)) (σ := σ.set i (some v)) (h.setF (Stp.refl h.st.gh) a) b
theorem frzP_at {p : Nat → Bool} {ρ : Env} {i : Nat} : (frzP p ρ)[i]? = ρ[i]?.map fun s => if p i = true then vw s else s := by
  unfold frzP
  rw [List.getElem?_mapIdx]
theorem rows_frz {K : PySem.W.Frag} {G H G' : Hp} (GG : Same G G') : ∀ {as : List Addr} {dss : List (List D)}, RowsR K G H as dss → (∀ b ∈ as, G' b = H b) → DpAll K G' (as.map V.ref) (dss.map PyData.list)
  | _, _, .nil, _ => .nil
  | _, _, .cons (a := a) h g r t, e => .cons (.lst (SqL.of (by rw [e a List.mem_cons_self]; exact h)) (DpAll_mono GG r)) (rows_frz GG t fun b hb => e b (List.mem_cons_of_mem _ hb))
/-- lists are handed on: from here on they stand still -/
theorem StR.frzX (h : StR K n G₀ H₀ ρ σ G H) (p : Nat → Bool) : ∃ G', (Same G G' ∧ ∀ a o, G' a = some o → G a = none → (∃ vs, o = .lst vs) ∨ ∃ xs, o = .dK xs) ∧ Stp G₀ H₀ G' H ∧ StR K n G₀ H₀ (frzP p ρ) σ G' H := by
  classical
  let P : Addr → Prop := fun a => ∃ (i : Nat) (s : Sl) (v : Option V), p i = true ∧ ρ[i]? = some s ∧ σ[i]? = some v ∧ fp H s v a
  let G' : Hp := fun a => if P a then H a else G a
  have hP : ∀ a, P a → G a = none ∧ H₀ a = none ∧ ((∃ vs, H a = some (.lst vs)) ∨ ∃ xs, H a = some (.dK xs)) := by
    rintro a ⟨i, s, v, _, e1, e2, f⟩
    obtain ⟨k1, k2⟩ := fp_kind (h.en.at_ i s v e1 e2) f
    exact ⟨k1, h.ow i s v a e1 e2 f, k2⟩
  have gP : ∀ a, P a → G' a = H a := fun a q => if_pos q
  have gN : ∀ a, ¬ P a → G' a = G a := fun a q => if_neg q
  have GG : Same G G' := fun a o e => by
    rw [gN a fun q => by rw [(hP a q).1] at e; cases e]
    exact e
  have st : Stp G₀ H₀ G' H := by
    refine ⟨h.st.hh, h.st.gg.trans GG, fun a o e => ?_, fun a o e z => ?_⟩
    · by_cases q : P a
      · rw [gP a q] at e; exact e
      · rw [gN a q] at e; exact h.st.gh a o e
    · by_cases q : P a
      · exact (hP a q).2.1
      · rw [gN a q] at e; exact h.st.nw a o e z
  have back : ∀ (i : Nat) s, (frzP p ρ)[i]? = some s → ∃ s0, ρ[i]? = some s0 ∧ s = (if p i = true then vw s0 else s0) := fun i s e => by
    rw [frzP_at] at e
    cases q : ρ[i]? with
    | none => rw [q] at e; cases e
    | some s0 => rw [q] at e; exact ⟨s0, rfl, (Option.some.inj e).symm⟩
  have owned : ∀ (i : Nat) s v b, (frzP p ρ)[i]? = some s → fp H s v b → p i = false ∧ ρ[i]? = some s := fun i s v b e f => by
    obtain ⟨s0, q, es⟩ := back i s e
    cases hp : p i with
    | true =>
      rw [hp, if_pos rfl] at es
      rw [es] at f
      cases s0 <;> exact f.elim
    | false =>
      rw [hp, if_neg Bool.false_ne_true] at es
      subst es
      exact ⟨rfl, q⟩
  refine ⟨G', ⟨GG, fun a o e z => ?_⟩, st, ⟨by unfold frzP; rw [List.length_mapIdx]; exact h.ln, st, ⟨by unfold frzP; rw [List.length_mapIdx]; exact h.en.len, fun i s v e1 e2 => ?_⟩, fun i s v b e1 e2 f => h.ow i s v b (owned i s v b e1 f).2 e2 f, fun i j s t v w b ne e1 e2 e3 e4 f1 f2 => h.dj i j s t v w b ne (owned i s v b e1 f1).2 (owned j t w b e2 f2).2 e3 e4 f1 f2⟩⟩
  · by_cases q : P a
    · obtain ⟨_, _, ⟨vs, hv⟩ | ⟨vs, hv⟩⟩ := hP a q
      · rw [gP a q, hv] at e
        exact .inl ⟨vs, (Option.some.inj e).symm⟩
      · rw [gP a q, hv] at e
        exact .inr ⟨vs, (Option.some.inj e).symm⟩
    · rw [gN a q, z] at e; cases e
  obtain ⟨s0, q, es⟩ := back i s e1
  have r0 := h.en.at_ i s0 v q e2
  cases hp : p i with
  | false =>
    rw [hp, if_neg Bool.false_ne_true] at es
    subst es
    refine r0.other GG fun c fc => ⟨rfl, ?_⟩
    rw [gN c]
    · exact (fp_own r0 fc).1
    · rintro ⟨j, t, w, hj, j1, j2, f⟩
      have ne : i ≠ j := fun z => by rw [z, hj] at hp; cases hp
      exact h.dj i j s t v w c ne q j1 e2 j2 fc f
  | true =>
    rw [hp, if_pos rfl] at es
    subst es
    cases s0 with
    | un => trivial
    | xn x => exact r0
    | pt k => exact r0
    | fz d =>
      obtain ⟨u, e, r⟩ := r0
      exact ⟨u, e, Dp_mono GG r⟩
    | od m ps =>
      obtain ⟨a, xs, e, hA, gA, r, _⟩ := r0
      have q2 : P a := ⟨i, _, v, hp, q, e2, e⟩
      exact ⟨.ref a, e, .dct (by rw [gP a q2]; exact hA) (DpKv_mono GG r)⟩
    | ow ds =>
      obtain ⟨a, vs, e, hA, gA, r⟩ := r0
      have q2 : P a := ⟨i, _, v, hp, q, e2, e⟩
      exact ⟨.ref a, e, .lst (SqL.of (by rw [gP a q2]; exact hA)) (DpAll_mono GG r)⟩
    | nw dss =>
      obtain ⟨a, as, e, hA, gA, r, nd⟩ := r0
      have q2 : P a := ⟨i, _, v, hp, q, e2, a, as, e, hA, .inl rfl⟩
      exact ⟨.ref a, e, .lst (SqL.of (by rw [gP a q2]; exact hA)) (rows_frz GG r fun b hb => gP b ⟨i, _, v, hp, q, e2, a, as, e, hA, .inr hb⟩)⟩
theorem StR.frz (h : StR K n G₀ H₀ ρ σ G H) (p : Nat → Bool) : ∃ G', Stp G₀ H₀ G' H ∧ StR K n G₀ H₀ (frzP p ρ) σ G' H := by
  obtain ⟨G', _, a, b⟩ := h.frzX p
  exact ⟨G', a, b⟩
theorem StR.frzL (h : StR K n G₀ H₀ ρ σ G H) (fr : List Nat) : ∃ G', StR K n G₀ H₀ (frzL fr ρ) σ G' H := by
  cases fr with
  | nil => exact ⟨G, h⟩
  | cons a l => obtain ⟨G', _, h2⟩ := h.frz fun i => (a :: l).contains i; exact ⟨G', h2⟩
theorem view_eq (ρ : Env) : viewE ρ = frzP (fun _ => true) ρ := by
  unfold viewE frzP
  apply List.ext_getElem?
  intro i
  rw [List.getElem?_map, List.getElem?_mapIdx]
  rfl
/-- back from a test: what was its own is so still -/
theorem StR.keep {G' : Hp} (h : StR K n G₀ H₀ ρ σ G H) (s : Stp G' H G1 H1) : StR K n G₀ H₀ ρ σ G H1 := by
  have s2 : Stp G H G H1 := ⟨s.hh, Same.refl G, h.st.gh.trans s.hh, fun a o e z => by rw [e] at z; cases z⟩
  exact h.step s2
end
/-- what is wanted behind a statement, by what it does -/
def PoS (c : Cw) (n : Nat) (G₀ H₀ : Hp) (D : Ends) : Rs Fl → Prop
  | .ok (.nx ρ) => ∀ σ G H, StR c.kx n G₀ H₀ ρ σ G H → D.nx σ H
  | .ok (.rt d) => ∀ u G H, Stp G₀ H₀ G H → Dp c.K G u d → D.rt u H
  | .ok (.bk ρ) => ∀ σ G H, StR c.kx n G₀ H₀ ρ σ G H → D.bk σ H
  | .ok (.ct ρ) => ∀ σ G H, StR c.kx n G₀ H₀ ρ σ G H → D.ct σ H
  | .ok (.rd d ps) => ∀ u xs G H, Stp G₀ H₀ G H → Dp c.K G u d → H (c.th 0) = some (.dK xs) → G (c.th 0) = none → DpKv c.K G xs ps → D.rt u H
  | .ex e => ∀ (σ : L2.St) G H, σ.length = n → Stp G₀ H₀ G H → XW c.ca c.W σ e H
  | .no => False
def tS (c : Cw) (n : Nat) (r : Env → Rs Fl) : TS := fun D σ H => ∃ ρ G₀ H₀ G, StR c.kx n G₀ H₀ ρ σ G H ∧ PoS c n G₀ H₀ D (r ρ)
theorem PS.mono {X : Cx} {s : Stmt} {t t' : TS} (h : PS X s t) (i : ∀ D σ H, t' D σ H → t D σ H) : PS X s t' := ⟨fun pins s σ H D I q => h.run pins s σ H D I (i _ _ _ q)⟩
theorem PSs.mono {X : Cx} {s : List Stmt} {t t' : TS} (h : PSs X s t) (i : ∀ D σ H, t' D σ H → t D σ H) : PSs X s t' := ⟨fun pins s σ H D I q => h.run pins s σ H D I (i _ _ _ q)⟩
section
variable {c : Cw} {n : Nat} {G₀ H₀ G H : Hp} {D' : Ends} {ρ : Env} {σ : L2.St}
/-- an expression in a statement -/
theorem PoS.expr {α β : Type} {R : Hp → β → α → Prop} {x : Rs α} {k : α → Rs Fl} {Q : β → Hp → Prop} (h : StR c.kx n G₀ H₀ ρ σ G H) (p : PoS c n G₀ H₀ D' (x.bind k))
    (hq : ∀ a u G1 H1, x = .ok a → Stp G H G1 H1 → R G1 u a → PoS c n G₀ H₀ D' (k a) → Q u H1) : PoG R c σ G H x Q := by
  cases x with
  | ok a => exact fun u G1 H1 s r => hq a u G1 H1 rfl s r p
  | ex e => exact fun G1 H1 s => p σ G1 H1 (h.en.len.symm.trans h.ln) (h.st.trans s)
  | no => exact p
theorem tS.expr {α β : Type} {R : Hp → β → α → Prop} {r : Env → Rs α} {k : α → Rs Fl} {Q : β → Hp → Prop} (h : StR c.kx n G₀ H₀ ρ σ G H) (p : PoS c n G₀ H₀ D' ((r ρ).bind k))
    (hq : ∀ a u G1 H1, r ρ = .ok a → Stp G H G1 H1 → R G1 u a → PoS c n G₀ H₀ D' (k a) → Q u H1) : tG R c r σ H Q := ⟨ρ, G, h.st.gh, h.en, PoS.expr h p hq⟩
theorem StR.rebase {G1 H1 Ga Ha : Hp} {K : Kx} {ρ' : Env} {σ' : L2.St} (b : Stp G₀ H₀ G1 H1) (h : StR K n G1 H₀ ρ' σ' Ga Ha) : StR K n G₀ H₀ ρ' σ' Ga Ha :=
  ⟨h.ln, ⟨h.st.hh, b.gg.trans h.st.gg, h.st.gh, fun a o e z => by
    cases q : G1 a with
    | none => exact h.st.nw a o e q
    | some u => exact b.nw a u q z⟩, h.en, h.ow, h.dj⟩
theorem PoS.rebase {G1 H1 : Hp} {r : Rs Fl} (b : Stp G₀ H₀ G1 H1) (p : PoS c n G₀ H₀ D' r) : PoS c n G1 H₀ D' r := by
  have back : ∀ {Ga Ha}, Stp G1 H₀ Ga Ha → Stp G₀ H₀ Ga Ha := fun {Ga Ha} h => ⟨h.hh, b.gg.trans h.gg, h.gh, fun a o e z => by
    cases q : G1 a with
    | none => exact h.nw a o e q
    | some u => exact b.nw a u q z⟩
  cases r with
  | ok f =>
    cases f with
    | nx ρ' => exact fun σ' G' H' h => p σ' G' H' (StR.rebase b h)
    | bk ρ' => exact fun σ' G' H' h => p σ' G' H' (StR.rebase b h)
    | ct ρ' => exact fun σ' G' H' h => p σ' G' H' (StR.rebase b h)
    | rt d => exact fun u G' H' h => p u G' H' (back h)
    | rd d ps => exact fun u xs G' H' h => p u xs G' H' (back h)
  | ex e => exact fun σ' G' H' l h => p σ' G' H' l (back h)
  | no => exact p
/-- other ends behind a statement -/
theorem PoS.ends {D2 : Ends} {x : Rs Fl} {k : Fl → Rs Fl} (p : PoS c n G₀ H₀ D' (x.bind k)) (h : ∀ f, x = .ok f → PoS c n G₀ H₀ D' (k f) → PoS c n G₀ H₀ D2 (.ok f)) : PoS c n G₀ H₀ D2 x := by
  cases x with
  | ok f => exact h f rfl p
  | ex e => exact p
  | no => exact p
end
/-- what stands around a body -/
structure Oks (T : Tb) (c : Cw) (k : Nat) (hot : Bool) (X : Cx) : Prop extends Okx T c k hot X where
  kd : X.env.scope.kind = .function
  po : PassesOwn (model X.prog X.w) X.A X.env X.xe
  hs : X.stack = X.env :: X.outer
  hf : X.env.frame = some X.env.locals
  fn : X.fn = fun _ => true
section
variable {X : Cx} {c : Cw} {n : Nat}
theorem pSs_nil : PSs X [] (tS c n fun ρ => .ok (.nx ρ)) := PSs.mono pss_nil fun D σ H ⟨ρ, G₀, H₀, G, h, p⟩ => p σ G H h
theorem pSs_cons {s : Stmt} {ss : List Stmt} {r r2 : Env → Rs Fl} (h1 : PS X s (tS c n r)) (h2 : PSs X ss (tS c n r2)) : PSs X (s :: ss) (tS c n fun ρ => (r ρ).bind fun f => seqF f r2) := by
  refine PSs.mono (pss_cons h1 h2) fun D σ H ⟨ρ, G₀, H₀, G, h, p⟩ => ⟨ρ, G₀, H₀, G, h, PoS.ends p fun f e p1 => ?_⟩
  cases f with
  | nx ρ1 => exact fun σ' G' H' h' => ⟨ρ1, G₀, H₀, G', h', p1⟩
  | rt d => exact p1
  | bk ρ1 => exact p1
  | ct ρ1 => exact p1
  | rd d ps => exact p1
theorem pS_brk {pos : Pos} : PS X (.Break pos) (tS c n fun ρ => .ok (.bk ρ)) := PS.mono ps_break fun D σ H ⟨ρ, G₀, H₀, G, h, p⟩ => p σ G H h
theorem pS_pass {pos : Pos} : PS X (.Pass pos) (tS c n fun ρ => .ok (.nx ρ)) := PS.mono ps_pass fun D σ H ⟨ρ, G₀, H₀, G, h, p⟩ => p σ G H h
theorem pS_ret {e : Expr} {r : Env → Rs PyData} {fr : List Nat} {pos : Pos} (he : PE X e (tE c r)) : PS X (.Return (some e) pos) (tS c n fun ρ => (r (frzL fr ρ)).map .rt) := by
  refine PS.mono (ps_ret he) fun D σ H ⟨ρ, G₀, H₀, G, h, p⟩ => ?_
  obtain ⟨G', h'⟩ := h.frzL fr
  exact tS.expr h' p fun d u G1 H1 _ s rd p1 => p1 u G1 H1 (h'.st.trans s) rd
theorem pS_exp {e : Expr} {r : Env → Rs PyData} {pos : Pos} (he : PE X e (tE c r)) (hs : swapsWith e none pos.line X.env = pure false) : PS X (.Expr e pos) (tS c n fun ρ => (r ρ).map fun _ => .nx ρ) := by
  refine PS.mono (ps_expr he hs) fun D σ H ⟨ρ, G₀, H₀, G, h, p⟩ => ?_
  exact tS.expr h p fun d u G1 H1 _ s rd p1 => p1 σ G1 H1 (h.step s)
theorem pS_ite {t : Expr} {a b : List Stmt} {rt : Env → Rs PyData} {ra rb : Env → Rs Fl} {pos : Pos} (ht : PT X t (tTs c rt)) (ha : PSs X a (tS c n ra)) (hb : PSs X b (tS c n rb)) :
    PS X (.If t a b pos) (tS c n fun ρ => ((rt (viewE ρ)).bind asB).bind fun k => if k = true then ra ρ else rb ρ) := by
  refine PS.mono (ps_if ht ha hb) fun D σ H ⟨ρ, G₀, H₀, G, h, p⟩ => ?_
  obtain ⟨G', s', h'⟩ := h.frz fun _ => true
  rw [← view_eq] at h'
  refine tS.expr (r := fun ρ => (rt ρ).bind asB) h' p fun k u G1 H1 _ s rd p1 => ?_
  subst rd
  have h2 := h.keep s
  cases k with
  | true => rw [if_pos rfl] at p1 ⊢; exact ⟨ρ, G₀, H₀, G, h2, p1⟩
  | false => rw [if_neg Bool.false_ne_true] at p1 ⊢; exact ⟨ρ, G₀, H₀, G, h2, p1⟩
theorem pS_whl (po : PassesOwn (model X.prog X.w) X.A X.env X.xe) {t : Expr} {b : List Stmt} {rt : Env → Rs PyData} {rb : Env → Rs Fl} {m : Nat} {pos : Pos} (ht : PT X t (tTs c rt)) (hb : PSs X b (tS c n rb)) :
    PS X (.While t b [] pos) (tS c n fun ρ => whlD (fun ρ => (rt (viewE ρ)).bind asB) rb m ρ) := by
  refine PS.mono (ps_while po ht hb) fun D σ H ⟨ρ, G₀, H₀, G, h, p⟩ => ?_
  refine ⟨fun k σ H => ∃ ρ G, StR c.kx n G₀ H₀ ρ σ G H ∧ PoS c n G₀ H₀ D (whlD (fun ρ => (rt (viewE ρ)).bind asB) rb k ρ), ⟨m, ρ, G, h, p⟩, fun k σ H ⟨ρ, G, h, p⟩ => ?_⟩
  cases k with
  | zero => exact p.elim
  | succ k =>
    obtain ⟨G', s', h'⟩ := h.frz fun _ => true
    rw [← view_eq] at h'
    refine tS.expr (r := fun ρ => (rt ρ).bind asB) h' p fun q u G1 H1 _ s rd p1 => ?_
    subst rd
    have h2 := h.keep s
    cases q with
    | true =>
      rw [if_pos rfl] at p1 ⊢
      refine ⟨fun σ' H' => ∃ ρ G, StR c.kx n G₀ H₀ ρ σ' G H' ∧ PoS c n G₀ H₀ D (whlD (fun ρ => (rt (viewE ρ)).bind asB) rb k ρ), fun σ' H' hN => ⟨k, Nat.lt_succ_self k, hN⟩, ρ, G₀, H₀, G, h2, ?_⟩
      refine PoS.ends p1 fun f e p2 => ?_
      cases f with
      | nx ρ1 => exact fun σ' G' H' h' => ⟨ρ1, G', h', p2⟩
      | ct ρ1 => exact fun σ' G' H' h' => ⟨ρ1, G', h', p2⟩
      | bk ρ1 => exact p2
      | rt d => exact p2
      | rd d ps => exact (show False from p2).elim
    | false =>
      rw [if_neg Bool.false_ne_true] at p1 ⊢
      exact p1 σ G H1 h2
theorem quiet_okI {α : Type} {x : Rs α} {a : α} (h : x.quiet = .ok a) : x = .ok a := by
  cases x <;> first | exact h | cases h
/-- a target in a statement -/
theorem tT_of {t : Tg} {K : Kx} {G₀ H₀ G H : Hp} {ρ ρ' : Env} {σ : L2.St} {v : V} {d : PyData} {Q : L2.St → Hp → Prop} (hk : c.K = K.1) (h : StR K n G₀ H₀ ρ σ G H) (r : Dp c.K G v d) (e : (setTg t d ρ).quiet = .ok ρ')
    (hq : ∀ σ', StR K n G₀ H₀ ρ' σ' G H → Q σ' H) : tT c t v σ H Q := by
  obtain ⟨bs, e1, e2⟩ := map_okI (quiet_okI e)
  refine ⟨G, d, h.st.gh, r, ?_⟩
  rw [e1]
  intro vs hb
  refine hq _ ?_
  rw [← e2]
  exact StR.setAll h (by rw [← hk]; exact hb)
theorem pS_for (po : PassesOwn (model X.prog X.w) X.A X.env X.xe) (hc : X.calm = true) {tg iter : Expr} {b : List Stmt} {t : Tg} {ri : Env → Rs (List PyData)} {rb : Env → Rs Fl} {fr : List Nat} {pos : Pos} (hi : PI X tg iter (tI c ri)) (hg : PG X tg (tT c t)) (hb : PSs X b (tS c n rb)) (hp : plE iter = true) :
    PS X (.For tg iter b [] pos) (tS c n fun ρ => (ri (frzL fr ρ)).bind fun its => forD (fun d ρ1 => (setTg t d ρ1).quiet.bind fun ρ2 => rb ρ2) its (frzL fr ρ)) := by
  refine PS.mono (ps_for po hc hi hg hb (setI hp)) fun D σ H ⟨ρ, G₀, H₀, G, h, p⟩ => ?_
  obtain ⟨G', h'⟩ := h.frzL fr
  refine tS.expr h' p fun its J G1 H1 _ s wk p1 => ?_
  have h1 := h'.step s
  generalize frzL fr ρ = ρ0 at h1 p1
  generalize hst : (fun d ρ1 => (setTg t d ρ1).quiet.bind fun ρ2 => rb ρ2) = step at p1
  have h2 : StR c.kx n G1 H₀ ρ0 σ G1 H1 := ⟨h1.ln, ⟨h1.st.hh, Same.refl G1, h1.st.gh, fun a o e z => by rw [e] at z; cases z⟩, h1.en, h1.ow, h1.dj⟩
  have p2 : PoS c n G1 H₀ D (forD step its ρ0) := PoS.rebase h1.st p1
  refine ⟨fun i m σ H => m = its.length - i ∧ i ≤ its.length ∧ ∃ ρ G, StR c.kx n G1 H₀ ρ σ G H ∧ PoS c n G1 H₀ D (forD step (its.drop i) ρ), ⟨its.length, by simp, Nat.zero_le _, ρ0, G1, h2, p2⟩, fun i m σ2 H2 hW => ?_⟩
  obtain ⟨hm, hi2, ρ2, G2, h3, p3⟩ := hW
  by_cases hlt : i < its.length
  · have sGH : Same G1 H2 := h3.st.gg.trans h3.st.gh
    refine .inr ⟨wk.go i H2 hlt sGH, fun σ' H' => ∃ ρ G, StR c.kx n G1 H₀ ρ σ' G H' ∧ PoS c n G1 H₀ D (forD step (its.drop (i + 1)) ρ), fun σ' H' hN => ⟨its.length - (i + 1), by omega, rfl, by omega, hN⟩, fun x H3 hy => ?_⟩
    obtain ⟨d, G3, ed, st3, hx⟩ := wk.yld i H2 x H3 G2 hlt h3.st.gg h3.st.gh hy
    have hdrop : its.drop i = d :: its.drop (i + 1) := by
      have e1 : its[i] = d := by
        have := List.getElem?_eq_getElem hlt
        rw [this] at ed
        exact Option.some.inj ed
      rw [List.drop_eq_getElem_cons hlt, e1]
    rw [hdrop] at p3
    have p3 : PoS c n G1 H₀ D ((step d ρ2).bind fun f => match f with
      | .nx ρ1 => forD step (its.drop (i + 1)) ρ1
      | .ct ρ1 => forD step (its.drop (i + 1)) ρ1
      | .bk ρ1 => .ok (.nx ρ1)
      | .rt x => .ok (.rt x)
      | .rd _ _ => .no) := p3
    rw [← hst] at p3
    cases e : (setTg t d ρ2).quiet with
    | ok ρ3 =>
      rw [hst] at p3
      have e4 : step d ρ2 = rb ρ3 := by rw [← hst]; show ((setTg t d ρ2).quiet.bind fun ρ2 => rb ρ2) = _; rw [e]; rfl
      rw [e4] at p3
      refine tT_of rfl (h3.step st3) hx e fun σ4 h4 => ⟨ρ3, G1, H₀, G3, h4, PoS.ends p3 fun f ef p5 => ?_⟩
      cases f with
      | nx ρ1 => exact fun σ' G' H' h' => ⟨ρ1, G', h', p5⟩
      | ct ρ1 => exact fun σ' G' H' h' => ⟨ρ1, G', h', p5⟩
      | bk ρ1 => exact p5
      | rt d => exact p5
      | rd d ps => exact (show False from p5).elim
    | ex y => cases q : (setTg t d ρ2) <;> rw [q] at e <;> cases e
    | no => dsimp only at p3; rw [e] at p3; exact p3.elim
  · have ei : i = its.length := by omega
    subst ei
    rw [List.drop_length] at p3
    exact .inl ⟨wk.stop H2 (h3.st.gg.trans h3.st.gh), p3 σ2 G2 H2 h3⟩
end
end Rf
set_option Elab.async false
set_option linter.all false
set_option maxRecDepth 100000
set_option maxHeartbeats 4000000
namespace Rf
open PySem PySem.Spec PyProof.Rows L2
section
variable {X : Cx} {c : Cw} {n : Nat}
theorem swapN {e : Expr} {t : Option Expr} {l : Nat} {env : PySem.Env} (h : notComp e = true) : swapsWith e t l env = pure false := by
  cases e <;> first | rfl | cases h
theorem swapSole {e tg : Expr} {l : Nat} {env : PySem.Env} (h : notComp e = true) : swapsWithSole [tg] e l env = pure false := swapN h
theorem storesN {e tg : Expr} {env : PySem.Env} (h : (tgt tg = true) ∨ (∀ a b d, e ≠ .Tuple a b d)) (h2 : tgt tg = true ∨ ∃ a b d, tg = .Tuple a b d) : swappedStores [tg] e env = pure none := by
  rcases h with h | h
  · cases tg <;> first | rfl | (cases h; done)
  · rcases h2 with h2 | ⟨a, b, d, rfl⟩
    · cases tg <;> first | rfl | (cases h2; done)
    · cases e <;> first | rfl | exact absurd rfl (h _ _ _)
/-- target = value -/
theorem asgRead {tg : TG} {t : Tg} {te : TE} {r : Env → Rs PyData} {fr : List Nat} (hg : ∀ v σ H Q, tT c t v σ H Q → tg v σ H Q) (he : ∀ σ H Q, tE c r σ H Q → te σ H Q) : ∀ D σ H, tS c n (fun ρ => (r (frzL fr ρ)).bind fun d => (setTg t d (frzL fr ρ)).quiet.map .nx) D σ H → tAsg te tg D σ H := by
  intro D σ H ⟨ρ, G₀, H₀, G, h, p⟩
  obtain ⟨G', h'⟩ := h.frzL fr
  refine he _ _ _ (tS.expr h' p fun d u G1 H1 _ s rd p1 => hg _ _ _ _ ?_)
  have h1 := h'.step s
  cases e : (setTg t d (frzL fr ρ)).quiet with
  | ok ρ' =>
    rw [e] at p1
    exact tT_of rfl h1 rd e fun σ' h2 => p1 σ' G1 H1 h2
  | ex y => cases q : setTg t d (frzL fr ρ) <;> rw [q] at e <;> cases e
  | no => rw [e] at p1; exact p1.elim
theorem pS_asg {tg e : Expr} {t : Tg} {r : Env → Rs PyData} {fr : List Nat} {pos : Pos} (he : PE X e (tE c r)) (hg : PG X tg (tT c t)) (hc : notComp e = true) (hp : plT tg = true) (hs : swappedStores [tg] e X.env = pure none) :
    PS X (.Assign [tg] e pos) (tS c n fun ρ => (r (frzL fr ρ)).bind fun d => (setTg t d (frzL fr ρ)).quiet.map .nx) :=
  PS.mono (ps_asg he hg (swapSole hc) hs (by rw [asg_cons hp]; rfl)) (asgRead (fun _ _ _ _ q => q) fun _ _ _ q => q)
/-- name = [.. for ..] -/
theorem pS_asgLc (nd : X.N.Nodup) (kd : X.env.scope.kind = .function) {e : Expr} {i : Nat} {y : Str} {py pos : Pos} {r : Env → Rs PyData} {fr : List Nat} (he : LcP X c e r) (hi : X.N[i]? = some y) (hl : X.env.scope.names.lookup y = some .local ∨ (X.env.scope.names.lookup y = some .cell ∧ X.fn y = true)) :
    PS X (.Assign [.Name y py] e pos) (tS c n fun ρ => (r (frzL fr ρ)).bind fun d => (setTg (.nm i) d (frzL fr ρ)).quiet.map .nx) := by
  have heE := he.e nd
  obtain ⟨⟨elt, gens, scope, lp, e1⟩, _, ha⟩ := he
  subst e1
  have hb : X.env.blockKind = .function := by unfold Env.blockKind; rw [kd]; rfl
  have nm : ∀ v σ H Q, tT c (.nm i) v σ H Q → gName i v σ H Q := fun v σ H Q ⟨G, d, sg, h, p⟩ => p [(i, v)] (.cons h .nil)
  have lx : Loc X.env.scope y := by rcases hl with h | h; exact .inl h; exact .inr h.1
  have fx : X.fn y = true ∨ X.env.scope.names.lookup y = some .local := by rcases hl with h | h; exact .inr h; exact .inl h.2
  by_cases sw : ((X.env.kindOf y == some .local) && (py.line == lp.line) && !(scope.names.any fun (n, k) => n == y && (k == .local || k == .cell))) = true
  · have hsw : swapsWith (.ListComp elt gens scope lp) (some (.Name y py)) pos.line X.env = pure true := by
      show (pure (X.env.blockKind == .function && X.env.kindOf y == some .local && py.line == lp.line && !(scope.names.any fun (n, k) => n == y && (k == .local || k == .cell))) : Sem Bool) = pure true
      rw [hb]
      congr 1
    simp only [Bool.and_eq_true, Bool.not_eq_true', beq_iff_eq] at sw
    obtain ⟨⟨s1, s2⟩, s3⟩ := sw
    exact PS.mono (ha nd i y py pos hi s1 hsw) (asgRead nm fun _ _ _ q => q)
  · have hsw : swapsWith (.ListComp elt gens scope lp) (some (.Name y py)) pos.line X.env = pure false := by
      have sw := Bool.eq_false_iff.mpr sw
      show (pure (X.env.blockKind == .function && X.env.kindOf y == some .local && py.line == lp.line && !(scope.names.any fun (n, k) => n == y && (k == .local || k == .cell))) : Sem Bool) = pure false
      rw [hb]
      congr 1
    exact PS.mono (ps_set nd hi lx heE hsw fx) (asgRead nm fun _ _ _ q => q)
theorem pS_aug (hK : c.K = X.K) {i : Nat} {o : Operator} {y : Str} {e : Expr} {r : Env → Rs PyData} {py pos : Pos} (nd : X.N.Nodup) (hi : X.N[i]? = some y) (hl : Loc X.env.scope y) (fl : X.fn y = true ∨ X.env.scope.names.lookup y = some .local) (ho : o = .Add ∨ o = .Sub) (he : PE X e (tE c r)) :
    PS X (.AugAssign (.Name y py) o e pos) (tS c n fun ρ => (varD ρ[i]?).bind fun x => (r ρ).bind fun z => (binIntD o x z).quiet.map fun w => .nx (ρ.set i (.fz w))) := by
  have key : ∀ D σ H, tS c n (fun ρ => (varD ρ[i]?).bind fun x => (r ρ).bind fun z => (binIntD o x z).quiet.map fun w => .nx (ρ.set i (.fz w))) D σ H → tAug i (tE c r) (ipI fun a b => match o with | .Add => a + b | _ => a - b) D σ H := by
    intro D σ H ⟨ρ, G₀, H₀, G, h, p⟩
    dsimp only at p
    cases q : ρ[i]? with
    | none => rw [q] at p; exact p.elim
    | some s =>
      rw [q] at p
      cases s with
      | fz d =>
        obtain ⟨v, hv, u, e1, rd⟩ := h.en.get q
        subst e1
        have p : PoS c n G₀ H₀ D ((r ρ).bind fun z => (binIntD o d z).quiet.map fun w => .nx (ρ.set i (.fz w))) := p
        refine ⟨u, hv, tS.expr h p fun z w G1 H1 _ s rz p1 => ?_⟩
        have rd : Dp c.K G u d := rd
        cases d with
        | int a =>
          cases z with
          | int b =>
            refine ⟨a, b, dp_int rd, dp_int rz, ?_⟩
            have h1 : StR c.kx n G₀ H₀ (ρ.set i (.fz (.int (match o with | .Add => a + b | _ => a - b)))) (σ.set i (some (.int (match o with | .Add => a + b | _ => a - b)))) G1 H1 := h.setF s (.int _)
            rcases ho with rfl | rfl
            · exact p1 _ _ _ h1
            · exact p1 _ _ _ h1
          | _ => rcases ho with rfl | rfl <;> exact p1.elim
        | _ => rcases ho with rfl | rfl <;> exact p1.elim
      | un => exact p.elim
      | ow ds => exact p.elim
      | nw => exact p.elim
      | xn e => exact p.elim
      | pt k => exact p.elim
      | od => exact p.elim
  rcases ho with rfl | rfl
  · exact PS.mono (ps_aug nd hi hl he ip_add fl) key
  · exact PS.mono (ps_aug nd hi hl he ip_sub fl) key
theorem pO_v {e : Expr} {r : Env → Rs PyData} (h : PE X e (tE c r)) : PE X e (tO c fun ρ => (r ρ).map .fz) := by
  refine PE.mono h fun σ H Q ⟨ρ, G, sg, en, p⟩ => ⟨ρ, G, sg, en, ?_⟩
  dsimp only at p
  cases q : r ρ with
  | ok d => rw [q] at p; exact fun u G' H' s rd => p u G' H' s ⟨u, rfl, rd⟩ fun _ f => f.elim
  | ex y => rw [q] at p; exact p
  | no => rw [q] at p; exact p
theorem pO_o {es : List Expr} {rs : Env → Rs (List PyData)} {pos : Pos} (m : Nat) (hm : m ≤ 1000) (hl : ∀ ρ ds, rs ρ = .ok ds → ds.length = m) (hs : PA X es (tL c rs)) : PE X (.List es pos) (tO c fun ρ => (rs ρ).map .ow) := by
  refine PE.mono (pe_lst hs) fun σ H Q ⟨ρ, G, sg, en, p⟩ => ⟨ρ, G, sg, en, ?_⟩
  dsimp only at p
  cases q : rs ρ with
  | ok ds =>
    rw [q] at p
    intro us G1 H1 s rd
    refine ⟨by rw [DpAll_len rd, hl ρ ds q]; exact Nat.le_trans hm (by decide), fun a ha => ?_⟩
    have s2 := Stp.beside (o := .lst us) s.gh ha
    exact p (.ref a) G1 _ (s.trans s2) ⟨a, us, rfl, upd_same, s.gh.free ha, rd⟩ fun b f => by
      have f := Option.some.inj f
      have e3 : a = b := by injection f
      rw [← e3]
      exact s.hh.free ha
  | ex y => rw [q] at p; exact p
  | no => rw [q] at p; exact p
/-- such a value in a statement -/
theorem tO.stmt {r : Env → Rs Sl} {k : Sl → Rs Fl} {G₀ H₀ G H : Hp} {ρ : Env} {σ : L2.St} {D : Ends} {Q : VK} (h : StR c.kx n G₀ H₀ ρ σ G H) (p : PoS c n G₀ H₀ D ((r ρ).bind k))
    (hq : ∀ s u G1 H1, r ρ = .ok s → Stp G H G1 H1 → SlotR c.kx G1 H1 s (some u) → (∀ b, fp H1 s (some u) b → H b = none) → PoS c n G₀ H₀ D (k s) → Q u H1) : tO c r σ H Q := by
  refine ⟨ρ, G, h.st.gh, h.en, ?_⟩
  cases q : r ρ with
  | ok s => rw [q] at p; exact fun u G1 H1 st sr nw => hq s u G1 H1 q st sr nw p
  | ex e => rw [q] at p; exact fun G1 H1 s => p σ G1 H1 (h.en.len.symm.trans h.ln) (h.st.trans s)
  | no => rw [q] at p; exact p
theorem pS_own {i : Nat} {y : Str} {es : List Expr} {rs : Env → Rs (List PyData)} {py lp pos : Pos} {fr : List Nat} (nd : X.N.Nodup) (hi : X.N[i]? = some y) (hl : Loc X.env.scope y) (fl : X.fn y = true ∨ X.env.scope.names.lookup y = some .local) (m : Nat) (hm : m ≤ 1000) (hln : ∀ ρ ds, rs ρ = .ok ds → ds.length = m) (hs : PA X es (tL c rs)) :
    PS X (.Assign [.Name y py] (.List es lp) pos) (tS c n fun ρ => (rs (frzL fr ρ)).map fun ds => .nx ((frzL fr ρ).set i (.ow ds))) := by
  refine PS.mono (ps_set nd hi hl (pO_o m hm hln hs) rfl fl) fun D σ H ⟨ρ, G₀, H₀, G, h, p⟩ => ?_
  obtain ⟨G', h'⟩ := h.frzL fr
  have p : PoS c n G₀ H₀ D (((rs (frzL fr ρ)).map Sl.ow).bind fun s => .ok (.nx ((frzL fr ρ).set i s))) := by
    dsimp only at p
    cases q : rs (frzL fr ρ) with
    | ok ds => rw [q] at p; exact p
    | ex e => rw [q] at p; exact p
    | no => rw [q] at p; exact p
  exact tO.stmt (r := fun ρ => (rs ρ).map .ow) h' p fun s u G1 H1 _ st sr nw p1 => p1 _ _ _ (h'.set st sr nw)
/-- x, y = a, b -/
theorem pS_par (hc : X.calm = true) (kd : X.env.scope.kind = .function) (nd : X.N.Nodup) {i j : Nat} {x y : Str} {a b : Expr} {ra rb : Env → Rs Sl} {fr : List Nat} {px py pt pt2 pos : Pos} {kt k2 : Nat} (hij : i ≠ j) (hi : X.N[i]? = some x) (hj : X.N[j]? = some y)
    (hx : Loc X.env.scope x) (hy : Loc X.env.scope y) (fx : X.fn x = true ∨ X.env.scope.names.lookup x = some .local) (fy : X.fn y = true ∨ X.env.scope.names.lookup y = some .local) (pa : plE a = true) (pb : plE b = true) (hw : (swap2 X.env.scope x y px py a b).isSome = true) (ha : PE X a (tO c ra)) (hb : PE X b (tO c rb)) :
    PS X (.Assign [.Tuple [.Name x px, .Name y py] kt pt] (.Tuple [a, b] k2 pt2) pos) (tS c n fun ρ => (ra (frzL fr ρ)).bind fun s => (rb (frzL fr ρ)).map fun t => .nx (((frzL fr ρ).set i s).set j t)) := by
  have hA : PA X [a, b] (tCons (tO c ra) (tCons (tO c rb) tNil)) := pa_cons ha (pa_cons hb pa_nil (starB pb)) (starB pa)
  have key : ∀ (D : Ends) σ H (Q : List V → Hp → Prop), tS c n (fun ρ => (ra (frzL fr ρ)).bind fun s => (rb (frzL fr ρ)).map fun t => .nx (((frzL fr ρ).set i s).set j t)) D σ H →
      (∀ v w H1 G₀ H₀ G1 ρ', StR c.kx n G₀ H₀ ρ' ((σ.set i (some v)).set j (some w)) G1 H1 → (∀ σ2 G2 H2, StR c.kx n G₀ H₀ ρ' σ2 G2 H2 → D.nx σ2 H2) → Q [v, w] H1) → tCons (tO c ra) (tCons (tO c rb) tNil) σ H Q := by
    intro D σ H Q ⟨ρ, G₀, H₀, G, h, p⟩ hQ
    obtain ⟨G', h'⟩ := h.frzL fr
    refine tO.stmt h' p fun s u G1 H1 _ st sr nw p1 => ?_
    have h1 := h'.step st
    refine tO.stmt (k := fun t => .ok (.nx (((frzL fr ρ).set i s).set j t))) h1 p1 fun t w G2 H2 _ st2 sr2 nw2 p2 => ?_
    exact hQ u w H2 G₀ H₀ G2 _ ((h'.set st sr nw).set st2 sr2 nw2) p2
  cases q : swap2 X.env.scope x y px py a b with
  | none => rw [q] at hw; cases hw
  | some r =>
    have sw := swapped2 (kt := kt) (k2 := k2) (pt := pt) (pt2 := pt2) kd pa pb q
    cases r with
    | true =>
      rw [if_pos rfl] at sw
      have lx : X.env.scope.names.lookup x = some .local ∧ X.env.scope.names.lookup y = some .local := by
        unfold swap2 at q
        split at q
        · cases q
        · rename_i g
          cases hx : locB X.env.scope x <;> cases hy : locB X.env.scope y <;> rw [hx, hy] at g <;> first | exact absurd rfl g | skip
          exact ⟨locL hx, locL hy⟩
      refine PS.mono (ps_par hc nd hi hj hij lx.1 lx.2 hA sw) fun D σ H q => ?_
      exact key D σ H _ q fun v w H1 G₀ H₀ G1 ρ' h hn => ⟨v, w, rfl, hn _ _ _ h⟩
    | false =>
      rw [if_neg Bool.false_ne_true] at sw
      refine PS.mono (ps_asg (pe_tup hA) (pg_tup (n := 2) hc (pgs_cons (pg_name nd hi hx fx) (pgs_cons (pg_name nd hj hy fy) pgs_nil))) rfl sw) fun D σ H q => ?_
      refine key D σ H (fun xs H1 => xs.length ≤ sizeLine ∧ ∀ p, H1 p = none → gTup X.K 2 (gCons (gName i) (gCons (gName j) gNil)) (.ref p) σ (upd H1 p (.tup xs)) D.nx) q fun v w H1 G₀ H₀ G1 ρ' h hn => ⟨by show 2 ≤ sizeLine; decide, fun p hp => ⟨p, [v, w], rfl, SqT.of upd_same, rfl, v, [w], rfl, w, [], rfl, rfl, ?_⟩⟩
      exact hn _ G1 _ (h.step (Stp.beside h.st.gh hp))
/-- x, y, z = a, b, d -/
theorem pS_par3 (hc : X.calm = true) (kd : X.env.scope.kind = .function) (nd : X.N.Nodup) {i j l : Nat} {x y z : Str} {a b d : Expr} {ra rb rd : Env → Rs Sl} {fr : List Nat} {px py pz pt pt2 pos : Pos} {kt k2 : Nat} (hij : i ≠ j) (hil : i ≠ l) (hjl : j ≠ l) (hi : X.N[i]? = some x) (hj : X.N[j]? = some y) (hz : X.N[l]? = some z)
    (hx : Loc X.env.scope x) (hy : Loc X.env.scope y) (hzl : Loc X.env.scope z) (fx : X.fn x = true ∨ X.env.scope.names.lookup x = some .local) (fy : X.fn y = true ∨ X.env.scope.names.lookup y = some .local) (fz : X.fn z = true ∨ X.env.scope.names.lookup z = some .local)
    (pa : plE a = true) (pb : plE b = true) (pd : plE d = true) (hw : swp3 X.env.scope x y z px py pz a b d = true) (ha : PE X a (tO c ra)) (hb : PE X b (tO c rb)) (hd : PE X d (tO c rd)) :
    PS X (.Assign [.Tuple [.Name x px, .Name y py, .Name z pz] kt pt] (.Tuple [a, b, d] k2 pt2) pos) (tS c n fun ρ => (ra (frzL fr ρ)).bind fun s => (rb (frzL fr ρ)).bind fun t => (rd (frzL fr ρ)).map fun w => .nx ((((frzL fr ρ).set i s).set j t).set l w)) := by
  have hA : PA X [a, b, d] (tCons (tO c ra) (tCons (tO c rb) (tCons (tO c rd) tNil))) := pa_cons ha (pa_cons hb (pa_cons hd pa_nil (starB pd)) (starB pb)) (starB pa)
  have key : ∀ (D : Ends) σ H (Q : List V → Hp → Prop), tS c n (fun ρ => (ra (frzL fr ρ)).bind fun s => (rb (frzL fr ρ)).bind fun t => (rd (frzL fr ρ)).map fun w => .nx ((((frzL fr ρ).set i s).set j t).set l w)) D σ H →
      (∀ v w u H1 G₀ H₀ G1 ρ', StR c.kx n G₀ H₀ ρ' (((σ.set i (some v)).set j (some w)).set l (some u)) G1 H1 → (∀ σ2 G2 H2, StR c.kx n G₀ H₀ ρ' σ2 G2 H2 → D.nx σ2 H2) → Q [v, w, u] H1) → tCons (tO c ra) (tCons (tO c rb) (tCons (tO c rd) tNil)) σ H Q := by
    intro D σ H Q ⟨ρ, G₀, H₀, G, h, p⟩ hQ
    obtain ⟨G', h'⟩ := h.frzL fr
    refine tO.stmt h' p fun s u G1 H1 _ st sr nw p1 => ?_
    have h1 := h'.step st
    refine tO.stmt (k := fun t => (rd (frzL fr ρ)).map fun w => .nx ((((frzL fr ρ).set i s).set j t).set l w)) h1 p1 fun t w G2 H2 _ st2 sr2 nw2 p2 => ?_
    have h2 := h1.step st2
    refine tO.stmt (k := fun w => .ok (.nx ((((frzL fr ρ).set i s).set j t).set l w))) h2 p2 fun w' v3 G3 H3 _ st3 sr3 nw3 p3 => ?_
    exact hQ u w v3 H3 G₀ H₀ G3 _ (((h'.set st sr nw).set st2 sr2 nw2).set st3 sr3 nw3) p3
  unfold swp3 at hw
  rw [Bool.or_eq_true] at hw
  rcases hw with hw | hw
  · have sw := swapped3n (px := px) (py := py) (pz := pz) (kt := kt) (k2 := k2) (pt := pt) (pt2 := pt2) kd pa pb pd ((Bool.not_eq_true' _).mp hw)
    refine PS.mono (ps_asg (pe_tup hA) (pg_tup (n := 3) hc (pgs_cons (pg_name nd hi hx fx) (pgs_cons (pg_name nd hj hy fy) (pgs_cons (pg_name nd hz hzl fz) pgs_nil)))) rfl sw) fun D σ H q => ?_
    refine key D σ H (fun xs H1 => xs.length ≤ sizeLine ∧ ∀ p, H1 p = none → gTup X.K 3 (gCons (gName i) (gCons (gName j) (gCons (gName l) gNil))) (.ref p) σ (upd H1 p (.tup xs)) D.nx) q fun v w u H1 G₀ H₀ G1 ρ' h hn => ⟨by show 3 ≤ sizeLine; decide, fun p hp => ⟨p, [v, w, u], rfl, SqT.of upd_same, rfl, v, [w, u], rfl, w, [u], rfl, u, [], rfl, rfl, ?_⟩⟩
    exact hn _ G1 _ (h.step (Stp.beside h.st.gh hp))
  · have sw := swapped3 (kt := kt) (k2 := k2) (pt := pt) (pt2 := pt2) kd pa pb pd hw
    have lx : locB X.env.scope x = true ∧ locB X.env.scope y = true ∧ locB X.env.scope z = true := by
      unfold swap3 at hw
      simp only [Bool.and_eq_true] at hw
      exact ⟨hw.1.1, hw.1.2.1, hw.1.2.2.1⟩
    refine PS.mono (ps_par3 hc nd hi hj hz hij hil hjl (locL lx.1) (locL lx.2.1) (locL lx.2.2) hA sw) fun D σ H q => ?_
    exact key D σ H _ q fun v w u H1 G₀ H₀ G1 ρ' h hn => ⟨v, w, u, rfl, hn _ _ _ h⟩
set_option maxHeartbeats 200000 in
theorem pS_star (hc : X.calm = true) (hK : c.K = X.K) (nd : X.N.Nodup) (o : Bool) {i j : Nat} {x y : Str} {e : Expr} {r : Env → Rs PyData} {fr : List Nat} {px py sp pt pos : Pos} {kt : Nat} (hij : i ≠ j) (hi : X.N[i]? = some x) (hj : X.N[j]? = some y)
    (hx : Loc X.env.scope x) (hy : Loc X.env.scope y) (fx : X.fn x = true ∨ X.env.scope.names.lookup x = some .local) (fy : X.fn y = true ∨ X.env.scope.names.lookup y = some .local) (hn : notComp e = true) (ht : ∀ a b d, e ≠ .Tuple a b d) (he : PE X e (tE c r)) :
    PS X (.Assign [.Tuple [.Name x px, .Starred (.Name y py) sp] kt pt] e pos) (tS c n fun ρ => (r (frzL fr ρ)).bind fun d => (starD d).map fun q => .nx (((frzL fr ρ).set i (.fz q.1)).set j (starS o q.2))) := by
  refine PS.mono (ps_asg he (pg_star hc (pgs_cons (pg_name nd hi hx fx) (pgs_cons (pg_name nd hj hy fy) pgs_nil)) rfl) (swapSole hn) (storesN (.inr ht) (.inr ⟨_, _, _, rfl⟩)) rfl) fun D σ H ⟨ρ, G₀, H₀, G, h, p⟩ => ?_
  obtain ⟨G', h'⟩ := h.frzL fr
  refine tS.expr h' p fun d u G1 H1 _ s rd p1 => ?_
  have h1 := h'.step s
  have fin : ∀ (dx : PyData) (ds : List PyData) (vx : V) (vs : List V), Dp c.K G1 vx dx → DpAll c.K G1 vs ds → PoS c n G₀ H₀ D (.ok (.nx (((frzL fr ρ).set i (.fz dx)).set j (starS o ds)))) → ∀ q, H1 q = none → gCons (gName i) (gCons (gName j) gNil) [vx, .ref q] σ (L2.upd H1 q (.lst vs)) D.nx := by
    intro dx ds vx vs hx hs p2 q hq
    refine ⟨vx, [.ref q], rfl, .ref q, [], rfl, rfl, ?_⟩
    have hA := h1.setF (Stp.refl h1.st.gh) hx (i := i)
    cases o with
    | true =>
      have st := Stp.beside (o := .lst vs) h1.st.gh hq
      exact p2 _ G1 _ (hA.set st (sl := .ow ds) (u := .ref q) ⟨q, vs, rfl, upd_same, h1.st.gh.free hq, hs⟩ fun b f => by
        have f := Option.some.inj f
        have e3 : q = b := by injection f
        rw [← e3]; exact hq)
    | false =>
      have st := Stp.new (o := .lst vs) h1.st.gh hq
      exact p2 _ _ _ (hA.setF st (.lst (SqL.of upd_same) (DpAll_mono st.gg hs)))
  cases d with
  | list l =>
    cases l with
    | cons dx ds =>
      cases rd with
      | lst q rr =>
        cases rr with
        | cons a b =>
          rw [hK] at q
          exact ⟨_, _, _, rfl, .inl (h1.st.gh.seq q), fin dx ds _ _ a b p1⟩
    | nil => exact p1.elim
  | tuple l =>
    cases l with
    | cons dx ds =>
      cases rd with
      | tup q rr =>
        cases rr with
        | cons a b =>
          rw [hK] at q
          exact ⟨_, _, _, rfl, .inr (Same.seqT h1.st.gh q), fin dx ds _ _ a b p1⟩
    | nil => exact p1.elim
  | _ => exact p1.elim
/-- one of a slot's own lists is written anew -/
theorem StR.write {K : Kx} {n : Nat} {G₀ H₀ G H : Hp} {ρ : Env} {σ : L2.St} (h : StR K n G₀ H₀ ρ σ G H) {i : Nat} {s s' : Sl} {v : Option V} {a : Addr} {o' : HO} (q : ρ[i]? = some s) (hv : σ[i]? = some v) (fa : fp H s v a) (r : SlotR K G (upd H a o') s' v) (sub : ∀ b, fp (upd H a o') s' v b → fp H s v b) :
    StR K n G₀ H₀ (ρ.set i s') σ G (upd H a o') := by
  have hH₀ : H₀ a = none := h.ow i s v a q hv fa
  have gA : G a = none := (fp_own (h.en.at_ i s v q hv) fa).1
  have stN : Stp G₀ H₀ G (upd H a o') := ⟨fun b o e => by
      have ne : b ≠ a := fun z => by rw [z, hH₀] at e; cases e
      rw [upd_ne ne]
      exact h.st.hh b o e, h.st.gg, fun b o e => by
      have ne : b ≠ a := fun z => by rw [z, gA] at e; cases e
      rw [upd_ne ne]
      exact h.st.gh b o e, h.st.nw⟩
  have stay : ∀ (k : Nat) t w, k ≠ i → ρ[k]? = some t → σ[k]? = some w → ∀ c, fp H t w c → upd H a o' c = H c := fun k t w nk k1 k2 c f => upd_ne fun z => by
    subst z
    exact h.dj k i t s w v c nk k1 q k2 hv f fa
  refine ⟨by rw [List.length_set]; exact h.ln, stN, ⟨by rw [List.length_set]; exact h.en.len, fun k t w k1 k2 => ?_⟩, fun k t w b k1 k2 f => ?_, fun k m t u w x b nk k1 k2 k3 k4 f1 f2 => ?_⟩
  · rcases getset k1 with ⟨e, e'⟩ | ⟨e, e'⟩
    · subst e e'
      rw [hv] at k2
      rw [← Option.some.inj k2]
      exact r
    · have r0 := h.en.at_ k t w e' k2
      exact r0.other (Same.refl G) fun c f => ⟨stay k t w (Ne.symm e) e' k2 c f, (fp_own r0 f).1⟩
  · rcases getset k1 with ⟨e, e'⟩ | ⟨e, e'⟩
    · subst e e'
      rw [hv] at k2
      rw [← Option.some.inj k2] at f
      exact h.ow i s v b q hv (sub b f)
    · exact h.ow k t w b e' k2 (fp_eq (h.en.at_ k t w e' k2) (stay k t w (Ne.symm e) e' k2) f)
  · rcases getset k1 with ⟨e1, e1'⟩ | ⟨e1, e1'⟩
    · rcases getset k2 with ⟨e2, _⟩ | ⟨e2, e2'⟩
      · exact nk (e1.symm.trans e2)
      · subst e1 e1'
        rw [hv] at k3
        rw [← Option.some.inj k3] at f1
        exact h.dj i m s u v x b nk q e2' hv k4 (sub b f1) (fp_eq (h.en.at_ m u x e2' k4) (stay m u x (Ne.symm e2) e2' k4) f2)
    · rcases getset k2 with ⟨e2, e2'⟩ | ⟨e2, e2'⟩
      · subst e2 e2'
        rw [hv] at k4
        rw [← Option.some.inj k4] at f2
        exact h.dj k i t s w v b nk e1' q k3 hv (fp_eq (h.en.at_ k t w e1' k3) (stay k t w (Ne.symm e1) e1' k3) f1) (sub b f2)
      · exact h.dj k m t u w x b nk e1' e2' k3 k4 (fp_eq (h.en.at_ k t w e1' k3) (stay k t w (Ne.symm e1) e1' k3) f1) (fp_eq (h.en.at_ m u x e2' k4) (stay m u x (Ne.symm e2) e2' k4) f2)
/-- a list of a name's own is written anew -/
theorem StR.rewr {K : Kx} {n : Nat} {G₀ H₀ G H : Hp} {ρ : Env} {σ : L2.St} (h : StR K n G₀ H₀ ρ σ G H) {i : Nat} {ds ds' : List PyData} {a : Addr} {vs' : List V} (q : ρ[i]? = some (.ow ds)) (hv : σ[i]? = some (some (.ref a))) (rd : DpAll K.1 G vs' ds') : StR K n G₀ H₀ (ρ.set i (.ow ds')) σ G (upd H a (.lst vs')) :=
  h.write q hv rfl ⟨a, vs', rfl, upd_same, (fp_own (h.en.at_ i _ _ q hv) (show fp H (.ow ds) (some (.ref a)) a from rfl)).1, rd⟩ fun _ f => f
theorem pS_app (hc : X.calm = true) {i : Nat} {y : Str} {e : Expr} {r : Env → Rs PyData} {yp ap cp pos : Pos} {fr : List Nat} (hi : X.N[i]? = some y) (hv : Vis X.env.scope y) (hd : ndb y = true) (hl : (ap.endLine == cp.line) = true) (hp : plE e = true) (he : PE X e (tE c r)) :
    PS X (.Expr (.Call (.Attribute (.Name y yp) "append" ap) [e] [] cp) pos) (tS c n fun ρ => appD r i (frzL fr ρ)) := by
  have hfew : ((backTo cp (starEach [e] X.env)).all (fun x => !x.1) && (backToKw cp (keywordEach [] X.env)).all (fun x => x.1.isSome)
      && decide ([e].length + ([] : List Keyword).length + (if ([] : List Keyword).isEmpty then 0 else 1) < 30)) = true := by
    rw [backA (by rw [List.all_cons, hp]; rfl)]; rfl
  refine PS.mono (ps_expr (pe_bm PySem.F.plainAttrs_list PySem.F.slot_list_append PySem.F.type_list_append mt_append (pe_var hi hv (ndb1 hd).1 (ndb1 hd).2) (pa_cons he pa_nil (starB hp)) rfl hfew hl (starB hp) rfl) rfl) fun D σ H ⟨ρ, G₀, H₀, G, h, p⟩ => ?_
  obtain ⟨G', h'⟩ := h.frzL fr
  dsimp only at p
  generalize frzL fr ρ = ρ0 at h' p
  unfold appD at p
  cases q : ρ0[i]? with
  | none => rw [q] at p; exact p.elim
  | some s =>
    rw [q] at p
    cases s with
    | ow ds =>
      have p : PoS c n G₀ H₀ D ((r ρ0).bind fun d => grd (few (ds.length + 1)) (.ok (.nx (ρ0.set i (.ow (ds ++ [d])))))) := p
      obtain ⟨v, hv', a, vs, ev, hA, gA, rd⟩ := h'.en.get q
      subst ev
      refine ⟨.ref a, hv', .inl ⟨rfl, vs, SqL.of hA⟩, tS.expr h' p fun d u G1 H1 _ st rd2 p1 => ?_⟩
      have h1 := h'.step st
      obtain ⟨v2, hv2, a2, vs2, ev2, hA2, gA2, rd3⟩ := h1.en.get q
      rw [hv'] at hv2
      have e5 := Option.some.inj hv2
      rw [← e5] at ev2
      have e6 : V.ref a = V.ref a2 := Option.some.inj ev2
      injection e6 with e6
      subst e6
      rw [st.hh a _ hA] at hA2
      have e7 : vs = vs2 := by injection hA2 with e7; injection e7
      subst e7
      by_cases g : few (ds.length + 1) = true
      · rw [g] at p1
        have hlt : vs.length < sizeLine := by
          have := few_lt g
          rw [DpAll_len rd3]
          omega
        refine ⟨a, vs, u, rfl, rfl, st.hh a _ hA, hlt, ?_⟩
        exact p1 σ G1 _ (h1.rewr q hv' (DpAll_app rd3 (.cons rd2 .nil)))
      · rw [Bool.eq_false_iff.mpr g] at p1; exact p1.elim
    | un => exact p.elim
    | fz => exact p.elim
    | nw => exact p.elim
    | xn => exact p.elim
    | pt => exact p.elim
    | od => exact p.elim
theorem DpAll_dropLast {K : PySem.W.Frag} {G : Hp} {vs : List V} {ds : List PyData} (h : DpAll K G vs ds) : DpAll K G vs.dropLast ds.dropLast := by
  rw [List.dropLast_eq_take, List.dropLast_eq_take, DpAll_len h]
  exact DpAll_take _ h
theorem pS_pop {i : Nat} {y : Str} {t : Tg} {tg : Expr} {yp ap cp pos : Pos} (hi : X.N[i]? = some y) (hv : Vis X.env.scope y) (hd : ndb y = true) (hl : (ap.endLine == cp.line) = true) (hg : PG X tg (tT c t)) (hp : plT tg = true)
    (hs : swappedStores [tg] (.Call (.Attribute (.Name y yp) "pop" ap) [] [] cp) X.env = pure none) :
    PS X (.Assign [tg] (.Call (.Attribute (.Name y yp) "pop" ap) [] [] cp) pos) (tS c n (popD t i)) := by
  refine PS.mono (ps_asg (pe_bm0 PySem.F.plainAttrs_list PySem.F.slot_list_pop PySem.F.type_list_pop mt_pop (pe_var hi hv (ndb1 hd).1 (ndb1 hd).2) rfl hl) hg (swapSole rfl) hs (by rw [asg_cons hp]; rfl)) fun D σ H ⟨ρ, G₀, H₀, G, h, p⟩ => ?_
  unfold popD at p
  cases q : ρ[i]? with
  | none => rw [q] at p; exact p.elim
  | some s =>
    rw [q] at p
    cases s with
    | ow ds =>
      dsimp only at p
      cases q2 : ds.getLast? with
      | none => rw [q2] at p; exact p.elim
      | some d =>
        rw [q2] at p
        dsimp only at p
        obtain ⟨v, hv', a, vs, ev, hA, gA, rd⟩ := h.en.get q
        subst ev
        rw [List.getLast?_eq_getElem?] at q2
        obtain ⟨u, hu, ru⟩ := DpAll_get rd q2
        rw [← DpAll_len rd] at hu
        refine ⟨.ref a, hv', .inl ⟨rfl, vs, SqL.of hA⟩, a, vs, u, rfl, rfl, hA, hu, ?_⟩
        have h1 := h.rewr q hv' (DpAll_dropLast rd)
        cases e : (setTg t d (ρ.set i (.ow ds.dropLast))).quiet with
        | ok ρ' =>
          rw [e] at p
          exact tT_of rfl h1 ru e fun σ' h2 => p σ' G _ h2
        | ex y => cases q : setTg t d (ρ.set i (.ow ds.dropLast)) <;> rw [q] at e <;> cases e
        | no => rw [e] at p; exact p.elim
    | un => exact p.elim
    | fz => exact p.elim
    | nw => exact p.elim
    | xn => exact p.elim
    | pt => exact p.elim
    | od => exact p.elim
theorem pS_rais {T : Tb} {k : Nat} (ok : Okx T c k false X) {cl : Nat} {y m : Str} {yp mp cp pos : Pos} {j : Nat} (hc : T.cls[cl]? = some y) (hg : Gl X y) (hd : ndb y = true) (hne : y ≠ ("NoRoom" : Str)) :
    PS X (.Raise (some (.Call (.Name y yp) [.Constant (.str m) j mp] [] cp)) none pos) (tS c n fun _ => grd (decide (cl < T.cls.length)) (.ex (cl, none))) := by
  have x := ok.tb.cls cl y hc
  refine PS.mono (ps_raise (ok.cm rfl) ok.tk (pmk_own PySem.F.excBase_ValueError (x.xi hne) x.mg x.kp (raises_own x.sb x.ty) hg (ndb1 hd).1)) fun D σ H ⟨ρ, G₀, H₀, G, h, p⟩ => ?_
  dsimp only at p
  by_cases g : decide (cl < T.cls.length) = true
  · rw [g] at p
    exact p σ G H (h.en.len.symm.trans h.ln) h.st
  · rw [Bool.eq_false_iff.mpr g] at p; exact p.elim
end
end Rf
set_option Elab.async false
set_option linter.all false
set_option maxRecDepth 100000
set_option maxHeartbeats 1000000
namespace Rf
open PySem PySem.Spec PyProof.Rows L2
section
variable {X : Cx} {c : Cw} {n : Nat} {G₀ H₀ G H : Hp} {D' : Ends} {ρ : Env} {σ : L2.St}
theorem PoS.opt {α : Type} {o : Option α} {f : α → Rs Fl} (p : PoS c n G₀ H₀ D' (opt o f)) : ∃ a, o = some a ∧ PoS c n G₀ H₀ D' (f a) := by
  cases o with
  | none => exact p.elim
  | some a => exact ⟨a, rfl, p⟩
theorem owAt_some {i : Nat} {ds : List D} (h : owAt ρ i = some ds) : ρ[i]? = some (.ow ds) := by
  unfold owAt at h
  split at h
  · rename_i q; rw [q]; rw [Option.some.inj h]
  · cases h
theorem nwAt_some {i : Nat} {ds : List (List D)} (h : nwAt ρ i = some ds) : ρ[i]? = some (.nw ds) := by
  unfold nwAt at h
  split at h
  · rename_i q; rw [q]; rw [Option.some.inj h]
  · cases h
theorem intO_some {d : D} {n : Int} (h : intO d = some n) : d = .int n := by
  unfold intO at h
  split at h
  · rw [Option.some.inj h]
  · cases h
/-- x = a value, or lists of its own -/
theorem pS_asp {i : Nat} {y : Str} {e : Expr} {r : Env → Rs Sl} {py pos : Pos} {fr : List Nat} (nd : X.N.Nodup) (kd : X.env.scope.kind = .function) (hi : X.N[i]? = some y) (hl : Loc X.env.scope y) (fl : X.fn y = true ∨ X.env.scope.names.lookup y = some .local) (he : LcT X e (tO c r) ∨ (notComp e = true ∧ PE X e (tO c r))) :
    PS X (.Assign [.Name y py] e pos) (tS c n fun ρ => (r (frzL fr ρ)).map fun s => .nx ((frzL fr ρ).set i s)) := by
  have key : ∀ D σ H, tS c n (fun ρ => (r (frzL fr ρ)).map fun s => .nx ((frzL fr ρ).set i s)) D σ H → tAsg (tO c r) (gName i) D σ H := by
    intro D σ H ⟨ρ, G₀, H₀, G, h, p⟩
    obtain ⟨G', h'⟩ := h.frzL fr
    exact tO.stmt (k := fun s => .ok (.nx ((frzL fr ρ).set i s))) h' p fun s u G1 H1 _ st sr nw p1 => p1 _ _ _ (h'.set st sr nw)
  rcases he with he | ⟨hc, he⟩
  · obtain ⟨elt, gens, scope, lp, e1⟩ := he.f
    have heE := he.e nd
    subst e1
    have hb : X.env.blockKind = .function := by unfold Env.blockKind; rw [kd]; rfl
    by_cases sw : ((X.env.kindOf y == some .local) && (py.line == lp.line) && !(scope.names.any fun (n, k) => n == y && (k == .local || k == .cell))) = true
    · have hsw : swapsWith (.ListComp elt gens scope lp) (some (.Name y py)) pos.line X.env = pure true := by
        show (pure (X.env.blockKind == .function && X.env.kindOf y == some .local && py.line == lp.line && !(scope.names.any fun (n, k) => n == y && (k == .local || k == .cell))) : Sem Bool) = pure true
        rw [hb]
        congr 1
      simp only [Bool.and_eq_true, Bool.not_eq_true', beq_iff_eq] at sw
      obtain ⟨⟨s1, s2⟩, s3⟩ := sw
      exact PS.mono (he.a nd i y py pos hi s1 hsw) key
    · have hsw : swapsWith (.ListComp elt gens scope lp) (some (.Name y py)) pos.line X.env = pure false := by
        have sw := Bool.eq_false_iff.mpr sw
        show (pure (X.env.blockKind == .function && X.env.kindOf y == some .local && py.line == lp.line && !(scope.names.any fun (n, k) => n == y && (k == .local || k == .cell))) : Sem Bool) = pure false
        rw [hb]
        congr 1
      exact PS.mono (ps_set nd hi hl heE hsw fl) key
  · exact PS.mono (ps_set nd hi hl he (swapN hc) fl) key
/-- a flat value holds in what was frozen before -/
theorem flat_back {K : Kx} {G' H1 G1 : Hp} {u : V} {d : D} (h : StR K n G₀ H₀ ρ σ G H) (gg : Same G G') (old : ∀ a o, G' a = some o → G a = none → (∃ vs, o = .lst vs) ∨ ∃ xs, o = .dK xs) (st : Stp G' H G1 H1) (rd : Dp K.1 G1 u d) (f : flatT d = true) : ∃ G2, StR K n G₀ H₀ ρ σ G2 H1 ∧ Dp K.1 G2 u d := by
  have h1 := h.keep st
  have atoms : ∀ {vs : List V} {ds : List D}, DpAll K.1 G1 vs ds → ds.all flatD = true → ∀ G2, DpAll K.1 G2 vs ds := by
    intro vs ds r
    induction ds generalizing vs with
    | nil => intro _ G2; cases r; exact .nil
    | cons x xs ih =>
      intro fl G2
      rw [List.all_cons, Bool.and_eq_true] at fl
      cases r with
      | cons a b =>
        refine .cons ?_ (ih b fl.2 G2)
        cases a with
        | non => exact .non
        | bl => exact .bl _
        | int => exact .int _
        | str => exact .str _
        | lst => exact nomatch fl.1
        | tup => exact nomatch fl.1
        | dct => exact nomatch fl.1
  cases rd with
  | non => exact ⟨G, h1, .non⟩
  | bl => exact ⟨G, h1, .bl _⟩
  | int => exact ⟨G, h1, .int _⟩
  | str => exact ⟨G, h1, .str _⟩
  | lst => exact nomatch f
  | dct => exact nomatch f
  | tup qa ra =>
    rename_i q vs ds
    have fl : ds.all flatD = true := f
    have place : ∀ o : HO, G1 q = some o → (∀ vs, o ≠ .lst vs) → (∀ xs, o ≠ .dK xs) → ∃ G2, StR K n G₀ H₀ ρ σ G2 H1 ∧ G2 q = some o := by
      intro o ho hne hne2
      classical
      refine ⟨fun a => if a = q then some o else G a, h.step ⟨st.hh, fun a o' e => ?_, fun a o' e => ?_, fun a o' e z => ?_⟩, by simp⟩
      · by_cases c : a = q
        · subst c
          have := st.gg a o' (gg a o' e)
          rw [ho] at this
          simp only [if_pos]; exact this
        · simp only [if_neg c]; exact e
      · by_cases c : a = q
        · subst c
          simp only [if_pos] at e
          rw [← e]; exact st.gh a o ho
        · simp only [if_neg c] at e; exact h1.st.gh a o' e
      · by_cases c : a = q
        · subst c
          refine st.nw a o ho ?_
          cases y : G' a with
          | none => rfl
          | some o2 =>
            have := st.gg a o2 y
            rw [ho] at this
            rcases old a o2 y z with ⟨vs2, e2⟩ | ⟨vs2, e2⟩
            · exact absurd ((Option.some.inj this).trans e2) (hne vs2)
            · exact absurd ((Option.some.inj this).trans e2) (hne2 vs2)
        · simp only [if_neg c] at e; rw [e] at z; cases z
    rcases qa with (qa | ⟨o, qa⟩) | qa
    · obtain ⟨G2, k1, k2⟩ := place _ qa (fun vs e => nomatch e) (fun vs e => nomatch e)
      exact ⟨G2, k1, .tup (.inl (.inl k2)) (atoms ra fl G2)⟩
    · obtain ⟨G2, k1, k2⟩ := place _ qa (fun vs e => nomatch e) (fun vs e => nomatch e)
      exact ⟨G2, k1, .tup (.inl (.inr ⟨o, k2⟩)) (atoms ra fl G2)⟩
    · exact ⟨G, h1, .tup (.inr qa) (atoms ra fl G)⟩
/-- target = a flat value, seen with all lists -/
theorem pS_asv {tg e : Expr} {t : Tg} {r : Env → Rs D} {pos : Pos} (he : PE X e (tE c r)) (hg : PG X tg (tT c t)) (hc : notComp e = true) (hp : plT tg = true) (hs : swappedStores [tg] e X.env = pure none) :
    PS X (.Assign [tg] e pos) (tS c n fun ρ => (r (viewE ρ)).bind fun d => grd (flatT d) ((setTg t d ρ).quiet.map .nx)) := by
  refine PS.mono (ps_asg he hg (swapSole hc) hs (by rw [asg_cons hp]; rfl)) fun D σ H ⟨ρ, G₀, H₀, G, h, p⟩ => ?_
  obtain ⟨G', ⟨gg, old⟩, s', h'⟩ := h.frzX fun _ => true
  rw [← view_eq] at h'
  refine tS.expr h' p fun d u G1 H1 _ st rd p1 => ?_
  by_cases f : flatT d = true
  · rw [f] at p1
    have p1 : PoS c n G₀ H₀ D ((setTg t d ρ).quiet.map .nx) := p1
    obtain ⟨G2, h2, rd2⟩ := flat_back h gg old st rd f
    cases e : (setTg t d ρ).quiet with
    | ok ρ' =>
      rw [e] at p1
      exact tT_of rfl h2 rd2 e fun σ' h3 => p1 σ' G2 H1 h3
    | ex y => cases q : setTg t d ρ <;> rw [q] at e <;> cases e
    | no => rw [e] at p1; exact p1.elim
  · rw [Bool.eq_false_iff.mpr f] at p1; exact p1.elim
theorem asSub {o i : Expr} {env : PySem.Env} {pos : Pos} (h : plE i = true) : ∀ v, assign (.Subscript o i pos) env v = (do
      let ov ← holding [v] (eval o env)
      let iv ← holding [v, ov] (eval i env)
      standAt pos
      holding [v, ov, iv] (setItem ov iv v)
      release [v, ov, iv] []) := by
  cases i <;> first | (intro _; rfl) | cases h
/-- x[k] = v -/
theorem pS_ost {i : Nat} {x : Str} {yy e : Expr} {ry re : Env → Rs D} {xp sp pos : Pos} (hi : X.N[i]? = some x) (hv : Vis X.env.scope x) (hd : ndb x = true) (hpy : plE yy = true) (hy : PE X yy (tE c ry)) (hc : notComp e = true) (he : PE X e (tE c re)) :
    PS X (.Assign [.Subscript (.Name x xp) yy sp] e pos) (tS c n fun ρ => (re ρ).bind fun v => ostD i ρ ry v) := by
  refine PS.mono (ps_asg he (pg_sub (pe_var hi hv (ndb1 hd).1 (ndb1 hd).2) hy set_list (asSub hpy)) (swapSole hc) (storesN (.inl rfl) (.inl rfl)) rfl) fun D σ H ⟨ρ, G₀, H₀, G, h, p⟩ => ?_
  refine tS.expr h p fun v u G1 H1 _ st rv p1 => ?_
  have h1 := h.step st
  obtain ⟨ds, e1, p2⟩ := PoS.opt p1
  have q := owAt_some e1
  obtain ⟨w, hw, a, vs, ew, hA, gA, rd⟩ := h1.en.get q
  subst ew
  refine ⟨.ref a, hw, tS.expr h1 p2 fun k uk G2 H2 _ st2 rk p3 => ?_⟩
  have h2 := h1.step st2
  obtain ⟨m, em, p4⟩ := PoS.opt p3
  obtain ⟨j, ej, p5⟩ := PoS.opt p4
  have em := intO_some em
  subst em
  cases rk with
  | int =>
    refine ⟨a, vs, m, j, rfl, rfl, st2.hh a _ hA, by rw [DpAll_len rd]; exact ej, ?_⟩
    exact p5 σ G2 _ (h2.rewr q hw (DpAll_set j (DpAll_mono st2.gg rd) (Dp_mono st2.gg rv)))
/-- a row that is looked up -/
theorem row_at {G : Hp} {K : PySem.W.Frag} {as : List Addr} {dss : List (List D)} (h : RowsR K G H as dss) {p : Nat} {r : List D} (e : dss[p]? = some r) : ∃ b vs, as[p]? = some b ∧ H b = some (.lst vs) ∧ G b = none ∧ DpAll K G vs r := by
  induction h generalizing p with
  | nil => simp at e
  | cons hh g rr t ih =>
    cases p with
    | zero => simp at e; subst e; exact ⟨_, _, rfl, hh, g, rr⟩
    | succ p => simpa using ih (by simpa using e)
/-- a row is written anew -/
theorem RowsR.put {K : PySem.W.Frag} {G H : Hp} {b : Addr} {vs' : List V} {r' : List D} (rd : DpAll K G vs' r') : ∀ {as : List Addr} {dss : List (List D)} {p : Nat}, RowsR K G H as dss → as.Nodup → as[p]? = some b → RowsR K G (upd H b (.lst vs')) as (dss.set p r')
  | _, _, _, .nil, _, e => by simp at e
  | _, _, 0, .cons (a := a) h g r t, nd, e => by
    have e : a = b := by simpa using e
    subst e
    refine .cons upd_same g rd (t.same (Same.refl G) fun x hx => ⟨upd_ne fun z => ?_, (t.mem hx).1⟩)
    rw [z] at hx
    exact (List.nodup_cons.mp nd).1 hx
  | _, _, p + 1, .cons (a := a) (as := as) h g r t, nd, e => by
    have e : as[p]? = some b := by simpa using e
    have ne : a ≠ b := fun z => (List.nodup_cons.mp nd).1 (z ▸ List.mem_of_getElem? e)
    exact .cons (by rw [upd_ne ne]; exact h) g r (RowsR.put rd t (List.nodup_cons.mp nd).2 e)
theorem StR.putRow {K : Kx} {i : Nat} {dss : List (List D)} {p : Nat} {r' : List D} {a b : Addr} {as : List Addr} {vs' : List V} (h : StR K n G₀ H₀ ρ σ G H) (q : ρ[i]? = some (.nw dss)) (hv : σ[i]? = some (some (.ref a))) (hA : H a = some (.lst (as.map V.ref))) (hb : as[p]? = some b) (rd : DpAll K.1 G vs' r') :
    StR K n G₀ H₀ (ρ.set i (.nw (dss.set p r'))) σ G (upd H b (.lst vs')) := by
  have sr := h.en.at_ i _ _ q hv
  obtain ⟨a', as', e1, hA', gA, rr, nd⟩ := sr
  have e1 := Option.some.inj e1
  injection e1 with e1
  subst e1
  rw [hA] at hA'
  injection hA' with hA'
  injection hA' with hA'
  have hA' := refs_inj hA'
  subst hA'
  have bm : b ∈ as := List.mem_of_getElem? hb
  have ne : a ≠ b := fun z => (List.nodup_cons.mp nd).1 (z ▸ bm)
  have hA2 : upd H b (.lst vs') a = some (.lst (as.map V.ref)) := by rw [upd_ne ne]; exact hA
  refine h.write q hv ⟨a, as, rfl, hA, .inr bm⟩ ⟨a, as, rfl, hA2, gA, RowsR.put rd rr (List.nodup_cons.mp nd).2 hb, nd⟩ fun x f => ?_
  obtain ⟨a', as', e1, e2, e3⟩ := f
  have e1 := Option.some.inj e1
  injection e1 with e1
  subst e1
  rw [hA2] at e2
  injection e2 with e2
  injection e2 with e2
  have e2 := refs_inj e2
  subst e2
  exact ⟨a, as, rfl, hA, e3⟩
theorem at_of {α : Type} {xs : List α} {k : Int} {j : Nat} {x : α} (h : ixN xs.length k = some j) (e : xs[j]? = some x) : atI xs k = some x := by
  unfold atI
  rw [h]
  exact e
/-- x[a][b] = v -/
theorem pS_nst {i : Nat} {x : Str} {yy jj e : Expr} {ry rj re : Env → Rs D} {xp sp sp2 pos : Pos} (hi : X.N[i]? = some x) (hv : Vis X.env.scope x) (hd : ndb x = true) (hpy : plE yy = true) (hpj : plE jj = true) (hy : PE X yy (tE c ry)) (hj : PE X jj (tE c rj)) (hc : notComp e = true) (he : PE X e (tE c re)) :
    PS X (.Assign [.Subscript (.Subscript (.Name x xp) yy sp) jj sp2] e pos) (tS c n fun ρ => (re ρ).bind fun v => nstD i ρ ry rj v) := by
  refine PS.mono (ps_asg he (pg_sub (pe_ix ix_list (pe_var hi hv (ndb1 hd).1 (ndb1 hd).2) hy (plIx hpy)) hj set_list (asSub hpj)) (swapSole hc) (storesN (.inl rfl) (.inl rfl)) rfl) fun D σ H ⟨ρ, G₀, H₀, G, h, p⟩ => ?_
  refine tS.expr h p fun v u G1 H1 _ st rv p1 => ?_
  have h1 := h.step st
  obtain ⟨dss, e1, p2⟩ := PoS.opt p1
  have q := nwAt_some e1
  obtain ⟨w, hw, a, as, ew, hA, gA, rr, nd⟩ := h1.en.get q
  subst ew
  refine ⟨.ref a, hw, tS.expr h1 p2 fun k uk G2 H2 _ st2 rk p3 => ?_⟩
  have h2 := h1.step st2
  obtain ⟨m, em, p4⟩ := PoS.opt p3
  obtain ⟨pp, ep, p5⟩ := PoS.opt p4
  obtain ⟨r, er, p6⟩ := PoS.opt p5
  have em := intO_some em
  subst em
  have hA2 := st2.hh a _ hA
  obtain ⟨b, vs, hb, hB, gB, rd⟩ := row_at (rr.step st2) er
  cases rk with
  | int =>
    have hb2 : (as.map V.ref)[pp]? = some (.ref b) := by rw [List.getElem?_map, hb]; rfl
    refine ⟨a, as.map V.ref, m, .ref b, rfl, rfl, SqL.of hA2, at_of (by rw [List.length_map, rr.len]; exact ep) hb2, ?_⟩
    refine tS.expr h2 p6 fun k2 uk2 G3 H3 _ st3 rk2 p7 => ?_
    have h3 := h2.step st3
    obtain ⟨m2, em2, p8⟩ := PoS.opt p7
    obtain ⟨j, ej, p9⟩ := PoS.opt p8
    have em2 := intO_some em2
    subst em2
    cases rk2 with
    | int =>
      refine ⟨b, vs, m2, j, rfl, rfl, st3.hh b _ hB, by rw [DpAll_len rd]; exact ej, ?_⟩
      exact p9 σ G3 _ (h3.putRow q hw (st3.hh a _ hA2) hb (DpAll_set j (DpAll_mono st3.gg rd) (Dp_mono (st2.gg.trans st3.gg) rv)))
/-- x[a][y[b].pop(c)] = v -/
theorem pS_npp {i j : Nat} {w w2 : Str} {yy zz xx e : Expr} {ry rz rx re : Env → Rs D} {wp wp2 s1 s2 s3 ap cp pos : Pos} (hij : i ≠ j) (hi : X.N[i]? = some w) (hj : X.N[j]? = some w2) (hv : Vis X.env.scope w) (hv2 : Vis X.env.scope w2) (hd : ndb w = true) (hd2 : ndb w2 = true) (hl : (ap.endLine == cp.line) = true) (hpy : plE yy = true) (hpz : plE zz = true) (hpx : plE xx = true)
    (hy : PE X yy (tE c ry)) (hz : PE X zz (tE c rz)) (hx : PE X xx (tE c rx)) (hc : notComp e = true) (he : PE X e (tE c re)) :
    PS X (.Assign [.Subscript (.Subscript (.Name w wp) yy s1) (.Call (.Attribute (.Subscript (.Name w2 wp2) zz s2) "pop" ap) [xx] [] cp) s3] e pos) (tS c n fun ρ => (re ρ).bind fun v => nppD i j ρ ry rz rx v) := by
  have hfew : ((backTo cp (starEach [xx] X.env)).all (fun x => !x.1) && (backToKw cp (keywordEach [] X.env)).all (fun x => x.1.isSome)
      && decide ([xx].length + ([] : List Keyword).length + (if ([] : List Keyword).isEmpty then 0 else 1) < 30)) = true := by
    rw [backA (by rw [List.all_cons, hpx]; rfl)]; rfl
  refine PS.mono (ps_asg he (pg_sub (pe_ix ix_list (pe_var hi hv (ndb1 hd).1 (ndb1 hd).2) hy (plIx hpy)) (pe_bm PySem.F.plainAttrs_list PySem.F.slot_list_pop PySem.F.type_list_pop mt_popAt (pe_ix ix_list (pe_var hj hv2 (ndb1 hd2).1 (ndb1 hd2).2) hz (plIx hpz)) (pa_cons hx pa_nil (starB hpx)) rfl hfew hl (starB hpx) rfl) set_list (fun _ => rfl)) (swapSole hc) (storesN (.inl rfl) (.inl rfl)) rfl) fun D σ H ⟨ρ, G₀, H₀, G, h, p⟩ => ?_
  refine tS.expr h p fun v u G1 H1 _ st rv p1 => ?_
  have h1 := h.step st
  obtain ⟨dss, e1, p2⟩ := PoS.opt p1
  have q := nwAt_some e1
  obtain ⟨w0, hw, a, as, ew, hA, gA, rr, nd⟩ := h1.en.get q
  subst ew
  refine ⟨.ref a, hw, tS.expr h1 p2 fun k uk G2 H2 _ st2 rk p3 => ?_⟩
  have h2 := h1.step st2
  obtain ⟨m, em, p4⟩ := PoS.opt p3
  obtain ⟨pp, ep, p5⟩ := PoS.opt p4
  obtain ⟨r, er, p6⟩ := PoS.opt p5
  have em := intO_some em
  subst em
  have hA2 := st2.hh a _ hA
  obtain ⟨b, vs, hb, hB, gB, rd⟩ := row_at (rr.step st2) er
  cases rk with
  | int =>
    have hb2 : (as.map V.ref)[pp]? = some (.ref b) := by rw [List.getElem?_map, hb]; rfl
    refine ⟨a, as.map V.ref, m, .ref b, rfl, rfl, SqL.of hA2, at_of (by rw [List.length_map, rr.len]; exact ep) hb2, ?_⟩
    obtain ⟨ess, e2, p7⟩ := PoS.opt p6
    have q2 := nwAt_some e2
    obtain ⟨w3, hw2, a2, bs, ew2, hA3, gA3, rr2, nd2⟩ := h2.en.get q2
    subst ew2
    refine ⟨.ref a2, hw2, tS.expr h2 p7 fun k2 uk2 G3 H3 _ st3 rk2 p8 => ?_⟩
    have h3 := h2.step st3
    obtain ⟨m2, em2, p9⟩ := PoS.opt p8
    obtain ⟨pp2, ep2, p10⟩ := PoS.opt p9
    obtain ⟨r2, er2, p11⟩ := PoS.opt p10
    have em2 := intO_some em2
    subst em2
    have hA4 := st3.hh a2 _ hA3
    obtain ⟨b2, vs2, hb3, hB2, gB2, rd2⟩ := row_at (rr2.step st3) er2
    cases rk2 with
    | int =>
      have hb4 : (bs.map V.ref)[pp2]? = some (.ref b2) := by rw [List.getElem?_map, hb3]; rfl
      refine ⟨a2, bs.map V.ref, m2, .ref b2, rfl, rfl, SqL.of hA4, at_of (by rw [List.length_map, rr2.len]; exact ep2) hb4, .inl ⟨rfl, vs2, SqL.of hB2⟩, ?_⟩
      refine tS.expr h3 p11 fun k3 uk3 G4 H4 _ st4 rk3 p12 => ?_
      have h4 := h3.step st4
      obtain ⟨m3, em3, p13⟩ := PoS.opt p12
      obtain ⟨qq2, eq2, p14⟩ := PoS.opt p13
      obtain ⟨d, ed, p15⟩ := PoS.opt p14
      obtain ⟨nn, en, p16⟩ := PoS.opt p15
      obtain ⟨qq, eq, p17⟩ := PoS.opt p16
      have em3 := intO_some em3
      have en := intO_some en
      subst em3 en
      by_cases gf : few r2.length = true
      · rw [gf] at p17
        obtain ⟨u3, hu3, ru3⟩ := DpAll_get rd2 ed
        have hu3' := dp_int ru3
        subst hu3'
        have hB4 := st4.hh b2 _ hB2
        have hlen := DpAll_len rd2
        have hx2 := ixN_seq eq2
        have hf := few_iff.mp gf
        cases rk3 with
        | int =>
          refine ⟨b2, vs2, m3, qq2, .int nn, rfl, rfl, hB4, by omega, by omega, by rw [hlen]; exact hx2.1, hu3, ?_⟩
          have ha4 := st4.hh a _ (st3.hh a _ hA2)
          have ha24 := st4.hh a2 _ hA4
          have fa : fp H4 (.nw dss) (some (.ref a)) a := ⟨a, as, rfl, ha4, .inl rfl⟩
          have fb : fp H4 (.nw dss) (some (.ref a)) b := ⟨a, as, rfl, ha4, .inr (List.mem_of_getElem? hb)⟩
          have fb2 : fp H4 (.nw ess) (some (.ref a2)) b2 := ⟨a2, bs, rfl, ha24, .inr (List.mem_of_getElem? hb3)⟩
          have nea : a ≠ b2 := fun z => h4.dj i j _ _ _ _ a hij q q2 hw hw2 fa (z ▸ fb2)
          have neb : b ≠ b2 := fun z => h4.dj i j _ _ _ _ b hij q q2 hw hw2 fb (z ▸ fb2)
          have h5 := h4.putRow q2 hw2 ha24 hb3 (vs' := vs2.eraseIdx qq2) (r' := r2.eraseIdx qq2) (by
            have : ∀ {vs : List V} {ds : List PyData} (k : Nat), DpAll c.kx.1 G4 vs ds → DpAll c.kx.1 G4 (vs.eraseIdx k) (ds.eraseIdx k) := by
              intro vs ds k r
              rw [List.eraseIdx_eq_take_drop_succ, List.eraseIdx_eq_take_drop_succ]
              exact DpAll_app (DpAll_take _ r) (DpAll_drop _ r)
            exact this _ (DpAll_mono st4.gg rd2))
          have q' : (ρ.set j (.nw (ess.set pp2 (r2.eraseIdx qq2))))[i]? = some (.nw dss) := by rw [List.getElem?_set_ne (Ne.symm hij)]; exact q
          refine ⟨b, vs, nn, qq, rfl, rfl, ?_, by rw [DpAll_len rd]; exact eq, ?_⟩
          · rw [upd_ne neb]; exact st4.hh b _ (st3.hh b _ hB)
          · refine p17 σ G4 _ (h5.putRow q' hw (by rw [upd_ne nea]; exact ha4) hb (DpAll_set qq (DpAll_mono (st3.gg.trans st4.gg) rd) (Dp_mono ((st2.gg.trans st3.gg).trans st4.gg) rv)))
      · rw [Bool.eq_false_iff.mpr gf] at p17; exact p17.elim
end
end Rf
set_option Elab.async false
set_option linter.all false
set_option maxRecDepth 100000
set_option maxHeartbeats 1000000
namespace Rf
open PySem PySem.Spec PyProof.Rows L2
section
variable {X : Cx} {c : Cw} {n : Nat} {G₀ H₀ G H : Hp} {D' : Ends} {ρ : Env} {σ : L2.St}
theorem StR.unset {K : Kx} (h : StR K n G₀ H₀ ρ σ G H) (a : Nat) : StR K n G₀ H₀ (ρ.set a .un) σ G H := by
  have own : ∀ (i : Nat) s v b, (ρ.set a .un)[i]? = some s → fp H s v b → ρ[i]? = some s := fun i s v b e f => by
    rcases getset e with ⟨_, z⟩ | ⟨_, z⟩
    · subst z; exact f.elim
    · exact z
  refine ⟨by rw [List.length_set]; exact h.ln, h.st, ⟨by rw [List.length_set]; exact h.en.len, fun i s v e1 e2 => ?_⟩, fun i s v b e1 e2 f => h.ow i s v b (own i s v b e1 f) e2 f, fun i j s t v w b ne e1 e2 e3 e4 f1 f2 => h.dj i j s t v w b ne (own i s v b e1 f1) (own j t w b e2 f2) e3 e4 f1 f2⟩
  rcases getset e1 with ⟨_, z⟩ | ⟨_, z⟩
  · subst z; trivial
  · exact h.en.at_ i s v z e2
theorem StR.anyV {K : Kx} (h : StR K n G₀ H₀ ρ σ G H) {a : Nat} (q : ρ[a]? = some .un) (w : Option V) : StR K n G₀ H₀ ρ (σ.set a w) G H := by
  have oth : ∀ (i : Nat) s v b, ρ[i]? = some s → (σ.set a w)[i]? = some v → fp H s v b → σ[i]? = some v := fun i s v b e e2 f => by
    rcases getset e2 with ⟨z, _⟩ | ⟨_, z⟩
    · subst z; rw [q] at e; have e := Option.some.inj e; subst e; exact f.elim
    · exact z
  refine ⟨h.ln, h.st, ⟨by rw [List.length_set]; exact h.en.len, fun i s v e1 e2 => ?_⟩, fun i s v b e1 e2 f => h.ow i s v b e1 (oth i s v b e1 e2 f) f, fun i j s t v w' b ne e1 e2 e3 e4 f1 f2 => h.dj i j s t v w' b ne e1 e2 (oth i s v b e1 e3 f1) (oth j t w' b e2 e4 f2) f1 f2⟩
  rcases getset e2 with ⟨z, _⟩ | ⟨_, z⟩
  · subst z; rw [q] at e1; have e1 := Option.some.inj e1; subst e1; trivial
  · exact h.en.at_ i s v e1 z
theorem popZ_at : ∀ {dss : List (List D)} {xs : List D} {t : List (List D)}, popZ dss xs = some t → dss.length = xs.length ∧ t.length = xs.length ∧ ∀ (k : Nat) r, dss[k]? = some r → ∃ m j, xs[k]? = some (.int m) ∧ few r.length = true ∧ ixN r.length m = some j ∧ t[k]? = some (r.eraseIdx j)
  | [], [], t, h => by unfold popZ at h; have h := Option.some.inj h; subst h; exact ⟨rfl, rfl, fun k r e => by simp at e⟩
  | r :: rs, x :: xs, t, h => by
    cases x with
    | int m =>
      unfold popZ at h
      split at h
      · rename_i hf
        cases q : ixN r.length m with
        | none => rw [q] at h; cases h
        | some j =>
          rw [q] at h
          cases q2 : popZ rs xs with
          | none => rw [q2] at h; cases h
          | some t2 =>
            rw [q2] at h
            have h := Option.some.inj h
            subst h
            obtain ⟨l1, l2, l3⟩ := popZ_at q2
            refine ⟨by simp [l1], by simp [l2], fun k r' e => ?_⟩
            cases k with
            | zero => simp at e; subst e; exact ⟨m, j, rfl, hf, q, rfl⟩
            | succ k => simpa using l3 k r' (by simpa using e)
      · cases h
    | _ => unfold popZ at h; cases h
  | [], _ :: _, t, h => by unfold popZ at h; cases h
  | _ :: _, [], t, h => by unfold popZ at h; cases h
theorem pS_npz (po : PassesOwn (model X.prog X.w) X.A X.env X.xe) (hK : c.K = X.K) (hc : X.calm = true) {i a b : Nat} {ra xb rw' : Str} {ee : Expr} {re : Env → Rs D} {p1 p2 p3 p4 p5 p6 p7 ap cp cp2 p pos : Pos} {kk : Nat}
    (nd : X.N.Nodup) (nab : a ≠ b) (nia : i ≠ a) (nib : i ≠ b) (hg : Gl X "zip") (hm : X.mg "zip" = none) (ha : X.N[a]? = some ra) (hb : X.N[b]? = some xb) (hi : X.N[i]? = some rw')
    (hl : (ap.endLine == cp2.line) = true) (la : Loc X.env.scope ra) (fa : X.fn ra = true ∨ X.env.scope.names.lookup ra = some .local) (lb : Loc X.env.scope xb) (fb : X.fn xb = true ∨ X.env.scope.names.lookup xb = some .local)
    (vi : Vis X.env.scope rw') (va : Vis X.env.scope ra) (vb : Vis X.env.scope xb) (di : ndb rw' = true) (da : ndb ra = true) (db : ndb xb = true) (hp : plE ee = true) (he : PE X ee (tE c re)) :
    PS X (.For (.Tuple [.Name ra p1, .Name xb p2] kk p3) (.Call (.Name "zip" p) [.Name rw' p4, ee] [] cp) [.Expr (.Call (.Attribute (.Name ra p5) "pop" ap) [.Name xb p6] [] cp2) p7] [] pos)
      (tS c n fun ρ => npzD i a b ρ re) := by
  have hfew : ((backTo cp2 (starEach [Expr.Name xb p6] X.env)).all (fun x => !x.1) && (backToKw cp2 (keywordEach [] X.env)).all (fun x => x.1.isSome)
      && decide ([Expr.Name xb p6].length + ([] : List Keyword).length + (if ([] : List Keyword).isEmpty then 0 else 1) < 30)) = true := rfl
  refine PS.mono (ps_for po hc (pi_z2 hc hg hm (pa_cons (pe_var hi vi (ndb1 di).1 (ndb1 di).2) (pa_cons he pa_nil (starB hp)) rfl) rfl (by rw [starB hp]; rfl))
    (pg_tup hc (pgs_cons (pg_name nd ha la fa) (pgs_cons (pg_name nd hb lb fb) pgs_nil)))
    (pss_one (ps_expr (pe_bm PySem.F.plainAttrs_list PySem.F.slot_list_pop PySem.F.type_list_pop mt_popAt (pe_var ha va (ndb1 da).1 (ndb1 da).2) (pa_cons (pe_var hb vb (ndb1 db).1 (ndb1 db).2) pa_nil rfl) rfl hfew hl rfl rfl) rfl))
    (setI rfl)) fun D σ H ⟨ρ, G₀, H₀, G, h, p⟩ => ?_
  obtain ⟨dss, e1, p⟩ := PoS.opt p
  have q := nwAt_some e1
  obtain ⟨w, hw, A, as, ew, hA, gA, rr, ndA⟩ := h.en.get q
  subst ew
  refine ⟨.ref A, hw, tS.expr h p fun d u G1 H1 _ st rd p => ?_⟩
  have h1 := h.step st
  have hA1 := st.hh A _ hA
  cases eits : (itsD d).quiet with
  | ex y => rw [eits] at p; cases z : itsD d <;> rw [z] at eits <;> cases eits
  | no => rw [eits] at p; exact p.elim
  | ok xs =>
  rw [eits] at p
  obtain ⟨t, et, p⟩ := PoS.opt p
  by_cases gl : (Nat.blt a ρ.length && Nat.blt b ρ.length) = true
  · rw [gl] at p
    have p : ∀ σ G H, StR c.kx n G₀ H₀ (((ρ.set i (.nw t)).set a .un).set b .un) σ G H → D.nx σ H := p
    rw [Bool.and_eq_true, Nat.blt_eq, Nat.blt_eq] at gl
    obtain ⟨l1, l2, l3⟩ := popZ_at et
    refine ⟨.ref A, u, rfl, fun v0 u0 rv0 ru0 => ?_⟩
    cases rv0
    obtain ⟨S2, ws2, f1, f2, f3⟩ := srcD h1.st.gh rd (quiet_okI eits) u0 ru0
    have lws := DpAll_len f3
    rw [hK] at f2 f3
    refine ⟨.lst A, S2, as.map V.ref, ws2, rfl, f1, SqL.of hA1, Src.up h1.st.gh f2, ?_⟩
    have las := rr.len
    have hρa : ∀ t' : List (List PyData), (((ρ.set i (.nw t')).set a .un).set b .un)[a]? = some .un := fun t' => by
      rw [List.getElem?_set_ne (Ne.symm nab), List.getElem?_set_self (by simpa using gl.1)]
    have hρb : ∀ t' : List (List PyData), (((ρ.set i (.nw t')).set a .un).set b .un)[b]? = some .un := fun t' => by
      rw [List.getElem?_set_self (by simpa using gl.2)]
    have hlti : i < ρ.length := (List.getElem?_eq_some_iff.mp q).1
    have hρi : ∀ t' : List (List PyData), (((ρ.set i (.nw t')).set a .un).set b .un)[i]? = some (.nw t') := fun t' => by
      rw [List.getElem?_set_ne (Ne.symm nib), List.getElem?_set_ne (Ne.symm nia), List.getElem?_set_self hlti]
    have hset : ∀ t' t2 : List (List PyData), (((ρ.set i (.nw t')).set a .un).set b .un).set i (.nw t2) = (((ρ.set i (.nw t2)).set a .un).set b .un) := fun t' t2 => by
      rw [List.set_comm _ _ (Ne.symm nib), List.set_comm _ _ (Ne.symm nia), List.set_set]
    refine ⟨fun k m σ H => m = dss.length - k ∧ k ≤ dss.length ∧ σ[i]? = some (some (.ref A)) ∧ H A = some (.lst (as.map V.ref)) ∧ ∃ G, Same G1 G ∧ StR c.kx n G₀ H₀ (((ρ.set i (.nw (t.take k ++ dss.drop k))).set a .un).set b .un) σ G H, ⟨dss.length, rfl, Nat.zero_le _, hw, hA1, G1, Same.refl G1, ?_⟩, fun k m σ2 H2 ⟨hm2, hk, hw2, hA2, G2, s12, h2⟩ => ?_⟩
    · have hh := (h1.unset a).unset b
      rw [List.take_zero, List.drop_zero, List.nil_append]
      have es : ρ.set i (.nw dss) = ρ := by
        apply List.ext_getElem?
        intro j
        by_cases e : i = j
        · subst e; rw [List.getElem?_set_self hlti, q]
        · rw [List.getElem?_set_ne e]
      rw [es]
      exact hh
    · by_cases hlt : k < dss.length
      · obtain ⟨mm, j, x1, x2, x3, x4⟩ := l3 k dss[k] (List.getElem?_eq_getElem hlt)
        refine .inr ⟨⟨by rw [List.length_map, las]; exact hlt, by rw [lws, ← l1]; exact hlt, SqL.of hA2, Src.up (s12.trans h2.st.gh) f2⟩,
          fun σ' H' => σ'[i]? = some (some (.ref A)) ∧ H' A = some (.lst (as.map V.ref)) ∧ ∃ G, Same G1 G ∧ StR c.kx n G₀ H₀ (((ρ.set i (.nw (t.take (k + 1) ++ dss.drop (k + 1)))).set a .un).set b .un) σ' G H', fun σ' H' hN => ⟨dss.length - (k + 1), by omega, rfl, by omega, hN⟩, fun x H3 hy => ?_⟩
        obtain ⟨T, v, u3, ex, hT, eH, hv, hu⟩ := hy
        subst ex eH
        have hb0 : k < as.length := by rw [las]; exact hlt
        have hv' : v = .ref as[k] := by
          rw [List.getElem?_map, List.getElem?_eq_getElem hb0] at hv
          exact (Option.some.inj hv).symm
        subst hv'
        obtain ⟨u4, hu4, ru4⟩ := DpAll_get f3 x1
        have e5 : u3 = u4 := by rw [hu] at hu4; exact Option.some.inj hu4
        subst e5
        have ei := dp_int ru4
        subst ei
        have h3 : StR c.kx n G₀ H₀ (((ρ.set i (.nw (t.take k ++ dss.drop k))).set a .un).set b .un) σ2 G2 (upd H2 T (.tup [.ref as[k], .int mm])) := h2.step (Stp.beside h2.st.gh hT)
        have h4 := (h3.anyV (hρa _) (some (.ref as[k]))).anyV (hρb _) (some (.int mm))
        have hA3 : upd H2 T (.tup [.ref as[k], .int mm]) A = some (.lst (as.map V.ref)) := by
          rw [upd_ne (ne_of_none hA2 hT)]; exact hA2
        have hlen : σ2.length = ρ.length := by
          have := h2.en.len
          simpa using this.symm
        have hcur : (t.take k ++ dss.drop k)[k]? = some dss[k] := by
          rw [List.getElem?_append_right (by simp; omega)]
          simp only [List.length_take]
          rw [List.getElem?_drop, show k + (k - min k t.length) = k by omega, List.getElem?_eq_getElem hlt]
        have hwi : ((σ2.set a (some (.ref as[k]))).set b (some (.int mm)))[i]? = some (some (.ref A)) := by
          rw [List.getElem?_set_ne (Ne.symm nib), List.getElem?_set_ne (Ne.symm nia)]; exact hw2
        have sr := h4.en.at_ i _ _ (hρi _) hwi
        obtain ⟨A', as', e6, hA', gA', rr', nd'⟩ := sr
        have e6 := Option.some.inj e6
        injection e6 with e6
        subst e6
        rw [hA3] at hA'
        injection hA' with hA'
        injection hA' with hA'
        have hA' := refs_inj hA'
        subst hA'
        obtain ⟨b1, vs1, hb1, hB1, gB1, rd1⟩ := row_at rr' hcur
        have e7 : b1 = as[k] := by rw [List.getElem?_eq_getElem hb0] at hb1; exact (Option.some.inj hb1).symm
        subst e7
        have lv := DpAll_len rd1
        have hf := few_iff.mp x2
        have hx2 := ixN_seq x3
        have hj : j < dss[k].length := hx2.2.1
        refine ⟨T, [.ref as[k], .int mm], rfl, SqT.of (upd_same), rfl, .ref as[k], [.int mm], rfl, .int mm, [], rfl, rfl, ?_⟩
        refine ⟨.ref as[k], ?_, .inl ⟨rfl, vs1, SqL.of hB1⟩, .int mm, ?_, as[k], vs1, mm, j, vs1[j]'(by omega), rfl, rfl, hB1, by omega, by omega, by rw [lv]; exact hx2.1, List.getElem?_eq_getElem _, ?_⟩
        · rw [List.getElem?_set_ne (Ne.symm nab), List.getElem?_set_self (by omega)]
        · rw [List.getElem?_set_self (by rw [List.length_set]; omega)]
        · have neA : A ≠ as[k] := fun z => (List.nodup_cons.mp nd').1 (z ▸ List.getElem_mem hb0)
          refine ⟨hwi, by rw [upd_ne neA]; exact hA3, G2, s12, ?_⟩
          · have er : DpAll c.kx.1 G2 (vs1.eraseIdx j) (dss[k].eraseIdx j) := by
              rw [List.eraseIdx_eq_take_drop_succ, List.eraseIdx_eq_take_drop_succ]
              exact DpAll_app (DpAll_take _ rd1) (DpAll_drop _ rd1)
            have h5 := h4.putRow (hρi _) hwi hA3 hb1 er
            rw [hset] at h5
            have e8 : (t.take k ++ dss.drop k).set k (dss[k].eraseIdx j) = t.take (k + 1) ++ dss.drop (k + 1) := by
              have lt : k < t.length := by omega
              rw [List.set_append_right _ _ (by simp; omega)]
              simp only [List.length_take]
              rw [show k - min k t.length = 0 by omega, List.drop_eq_getElem_cons hlt, List.set_cons_zero, List.take_add_one, x4]
              simp
            rw [e8] at h5
            exact h5
      · have ek : k = dss.length := by omega
        refine .inl ⟨⟨by rw [List.length_map, las]; omega, by rw [lws, ← l1]; omega, .inl (by rw [List.length_map, las]; exact ek), SqL.of hA2, Src.up (s12.trans h2.st.gh) f2⟩, ?_⟩
        refine p σ2 G2 H2 ?_
        have e9 : t.take k ++ dss.drop k = t := by
          rw [List.take_of_length_le (by omega), List.drop_of_length_le (by omega), List.append_nil]
        rw [e9] at h2
        exact h2
  · rw [Bool.eq_false_iff.mpr gl] at p; exact p.elim
end
end Rf
set_option Elab.async false
set_option linter.all false
set_option maxRecDepth 100000
set_option maxHeartbeats 4000000
namespace Rf
open PySem PySem.Spec PyProof.Rows L2
section
variable {X : Cx} {c : Cw} {n : Nat} {G₀ H₀ G H : Hp} {D' : Ends} {ρ : Env} {σ : L2.St}
theorem odAt_some {i : Nat} {q : Bool × List (D × D)} (h : odAt ρ i = some q) : ρ[i]? = some (.od q.1 q.2) := by
  unfold odAt at h
  split at h
  · rename_i q; rw [q]; rw [← Option.some.inj h]
  · cases h
def rDcp : List V → Hp → VK → Prop := fun vs H Q => ∃ (a : Addr) (xs : List (Key × V)), vs = [.ref a] ∧ H a = some (.dK xs) ∧ ∀ p, H p = none → Q (.ref p) (L2.upd H p (.dK xs))
theorem cr_dcp : CallR X (.type "dict") rDcp := by
  intro pins s σ H vs us Q I r ⟨a, xs, ev, hA, q⟩
  subst ev
  rw [Vals.ref1 r]
  exact d_copyOf I (.inl hA) fun p s' hp I' => ⟨.ref p, _, I', rfl, q p hp⟩
/-- x = dict(e) -/
theorem pS_dcp (hK : c.K = X.K) {i : Nat} {y : Str} {e : Expr} {r : Env → Rs D} {py zp cp pos : Pos} (nd : X.N.Nodup) (hi : X.N[i]? = some y) (hy : Loc X.env.scope y) (fy : X.fn y = true ∨ X.env.scope.names.lookup y = some .local) (hg : Gl X "dict") (hm : X.mg "dict" = none) (hp : plE e = true) (he : PE X e (tE c r)) :
    PS X (.Assign [.Name y py] (.Call (.Name "dict" zp) [e] [] cp) pos) (tS c n fun ρ => (r ρ).bind (dcpD i ρ)) := by
  refine PS.mono (ps_asg (pe_callTy cr_dcp hg hm boot_dict (pa_cons he pa_nil (starB hp)) (by decide) (by decide) (starB hp)) (pg_name nd hi hy fy) (swapSole rfl) (storesN (.inl rfl) (.inl rfl)) rfl) fun D σ H ⟨ρ, G₀, H₀, G, h, p⟩ => ?_
  show tE c r σ H _
  refine tS.expr h p fun d u G1 H1 _ st rd p1 => ?_
  have h1 := h.step st
  cases d with
  | dict ps =>
    have p1 : ∀ σ G H, StR c.kx n G₀ H₀ (ρ.set i (.od false ps)) σ G H → D.nx σ H := p1
    cases rd with
    | dct q rr =>
      rename_i a xs
      refine ⟨a, xs, rfl, st.gh a _ q, fun b hb => ?_⟩
      have s2 := Stp.beside (o := .dK xs) h1.st.gh hb
      exact p1 _ G1 _ (h1.set s2 (sl := .od false ps) (u := .ref b) ⟨b, xs, rfl, upd_same, h1.st.gh.free hb, rr, fun z => nomatch z⟩ fun b' f => by
        have f := Option.some.inj f
        have e3 : b = b' := by injection f
        rw [← e3]; exact hb)
  | _ => exact p1.elim
theorem few_size {k : Nat} (h : few k = true) : k < sizeLine := by
  have := few_lt h
  exact this
/-- x[k] = v -/
theorem pS_dst (hu : X.A.units + 65 < cLine) {i : Nat} {k x : Str} {e : Expr} {r : Env → Rs D} {fr : List Nat} {xp kp sp pos : Pos} {kk : Nat} (hi : X.N[i]? = some x) (hv : Vis X.env.scope x) (hd : ndb x = true) (hc : notComp e = true) (he : PE X e (tE c r)) :
    PS X (.Assign [.Subscript (.Name x xp) (.Constant (.str k) kk kp) sp] e pos) (tS c n fun ρ => (r (frzL fr ρ)).bind (dstD i k (frzL fr ρ))) := by
  refine PS.mono (ps_dput (by omega) (pe_var hi hv (ndb1 hd).1 (ndb1 hd).2) pe_str he (by cases e <;> first | rfl | cases hc)) fun D σ H ⟨ρ, G₀, H₀, G, h, p⟩ => ?_
  obtain ⟨G', h'⟩ := h.frzL fr
  dsimp only at p
  generalize frzL fr ρ = ρ0 at h' p
  refine tS.expr h' p fun v u G1 H1 _ st rv p1 => ?_
  have h1 := h'.step st
  obtain ⟨⟨m, ps⟩, e1, p2⟩ := PoS.opt p1
  have q := odAt_some e1
  obtain ⟨w, hw, a, xs, ew, hA, gA, rd, z0⟩ := h1.en.get q
  subst ew
  by_cases g : few ps.length = true
  · dsimp only at p2
    rw [g] at p2
    refine ⟨.ref a, hw, a, _, rfl, DPut.k (k := .inr k) hA (by rw [DpKv_len rd]; exact few_size g), ?_⟩
    exact p2 σ G1 _ (h1.write q hw rfl ⟨a, _, rfl, upd_same, gA, DpKv_put k rd rv, z0⟩ fun _ f => f)
  · dsimp only at p2; rw [Bool.eq_false_iff.mpr g] at p2; exact p2.elim
def rDup : V → List V → Hp → VK → Prop := fun x vs H Q => ∃ (a b : Addr) (xs ys : List (Key × V)), x = .ref a ∧ vs = [.ref b] ∧ a ≠ b ∧ H a = some (.dK xs) ∧ H b = some (.dK ys) ∧ xs.length + ys.length ≤ sizeLine ∧ Q .non (L2.upd H a (.dK (mergeK xs ys)))
theorem mt_dup : MtR X "dict.update" rDup := by
  intro pins s σ H x vs v us Q I rx rv ⟨a, b, xs, ys, ex, evs, ne, hA, hB, hz, q⟩
  subst ex evs
  have ev : v = Value.ref a := rx
  subst ev
  rw [Vals.ref1 rv]
  obtain ⟨_, t1, as, ra, da⟩ := dk_of I.hok hA
  obtain ⟨_, t2, bs, rb, db⟩ := dk_of I.hok hB
  refine call_meetsIn PySem.F.slot_dict_update da.typeIs PySem.F.entry_dict_update (PySem.F.args_dict_update_2 _ _) (meets_dict_update (mixKind X.prog X.w) a b ne t2) ⟨as, bs, da, db, by rw [← ra.length, ← rb.length]; exact hz, fun h' d1 _ hs => ?_⟩
  have le := length_mergeK ys xs
  have ex : ∃ q, h'.get? a = some q := let ⟨q, _, _, z, _⟩ := d1; ⟨q, z⟩
  exact ⟨.non, _, d_write I (by rw [hA]; exact True.intro) hs ex (dk_new (Nat.le_trans le hz) t1 (rb.merge ra) d1), rfl, q⟩
/-- x.update(e) -/
theorem pS_dup {i : Nat} {x : Str} {e : Expr} {r : Env → Rs D} {xp ap cp pos : Pos} (hi : X.N[i]? = some x) (hv : Vis X.env.scope x) (hd : ndb x = true) (hl : (ap.endLine == cp.line) = true) (hp : plE e = true) (he : PE X e (tE c r)) :
    PS X (.Expr (.Call (.Attribute (.Name x xp) "update" ap) [e] [] cp) pos) (tS c n fun ρ => opt (odAt ρ i) fun _ => (r ρ).bind (dupD i ρ)) := by
  have hfew : ((backTo cp (starEach [e] X.env)).all (fun x => !x.1) && (backToKw cp (keywordEach [] X.env)).all (fun x => x.1.isSome)
      && decide ([e].length + ([] : List Keyword).length + (if ([] : List Keyword).isEmpty then 0 else 1) < 30)) = true := by
    rw [backA (by rw [List.all_cons, hp]; rfl)]; rfl
  refine PS.mono (ps_expr (pe_bm PySem.F.plainAttrs_dict PySem.F.slot_dict_update PySem.F.type_dict_update mt_dup (pe_var hi hv (ndb1 hd).1 (ndb1 hd).2) (pa_cons he pa_nil (starB hp)) rfl hfew hl (starB hp) rfl) rfl) fun D σ H ⟨ρ, G₀, H₀, G, h, p⟩ => ?_
  dsimp only at p
  obtain ⟨⟨m0, ps0⟩, e0, p⟩ := PoS.opt p
  have q0 := odAt_some e0
  have fin : ∀ d, PoS c n G₀ H₀ D (dupD i ρ d) → ∃ m ps qs, d = .dict qs ∧ ρ[i]? = some (.od m ps) ∧ few ps.length = true ∧ few qs.length = true ∧ ∀ σ G H, StR c.kx n G₀ H₀ (ρ.set i (.od m (kvMrg ps qs))) σ G H → D.nx σ H := by
    intro d p
    cases d with
    | dict qs =>
      obtain ⟨⟨m, ps⟩, e1, p2⟩ := PoS.opt (show PoS c n G₀ H₀ D (opt (odAt ρ i) fun q => grd (few q.2.length && few qs.length) (.ok (.nx (ρ.set i (.od q.1 (kvMrg q.2 qs)))))) from p)
      by_cases g : (few ps.length && few qs.length) = true
      · dsimp only at p2
        rw [g] at p2
        rw [Bool.and_eq_true] at g
        exact ⟨m, ps, qs, rfl, odAt_some e1, g.1, g.2, p2⟩
      · dsimp only at p2; rw [Bool.eq_false_iff.mpr g] at p2; exact p2.elim
    | _ => exact p.elim
  obtain ⟨w, hv0, a, xs, ew, hA, _, _, _⟩ := h.en.get q0
  subst ew
  refine ⟨.ref a, hv0, .inr (.inr (.inl ⟨rfl, .inl ⟨xs, hA⟩⟩)), tS.expr h p fun d u G1 H1 _ st rd p1 => ?_⟩
  obtain ⟨m, ps, qs, ed, q, f1, f2, p2⟩ := fin d p1
  subst ed
  have h1 := h.step st
  obtain ⟨w, hw, a2, xs2, ew, hA2, gA, rk, z0⟩ := h1.en.get q
  subst ew
  rw [hv0] at hw
  have e6 : V.ref a = V.ref a2 := Option.some.inj (Option.some.inj hw)
  injection e6 with e6
  subst e6
  cases rd with
  | dct qb rb =>
    rename_i b ys
    refine ⟨a, b, xs2, ys, rfl, rfl, fun z => ?_, hA2, h1.st.gh b _ qb, ?_, ?_⟩
    · subst z; rw [gA] at qb; cases qb
    · rw [DpKv_len rk, DpKv_len rb]
      have a1 := few_iff.mp f1
      have a2 := few_iff.mp f2
      rw [sizeLine_eq]
      omega
    · exact p2 σ G1 _ (h1.write q hv0 rfl ⟨a, _, rfl, upd_same, gA, DpKv_mrg rk rb, z0⟩ fun _ f => f)
/-- other objects come, one dict is written anew -/
theorem StR.mut {K : Kx} {G' H' : Hp} {i : Nat} {m : Bool} {ps ps' : List (D × D)} {a : Addr} {xs' : List (Key × V)} (h : StR K n G₀ H₀ ρ σ G H) (q : ρ[i]? = some (.od m ps)) (hv : σ[i]? = some (some (.ref a))) (s : Stp G (delH H a) G' H') (hA' : H' a = some (.dK xs')) (gA' : G' a = none) (r : DpKv K.1 G' xs' ps') :
    StR K n G₀ H₀ (ρ.set i (.od m ps')) σ G' H' := by
  have fa : fp H (.od m ps) (some (.ref a)) a := rfl
  have hH₀ : H₀ a = none := h.ow i _ _ a q hv fa
  obtain ⟨a0, xs0, ea, hA, gA, _, z0⟩ := h.en.at_ i _ _ q hv
  have ea : V.ref a = V.ref a0 := Option.some.inj ea
  injection ea with ea
  subst ea
  have dl : ∀ {b o}, b ≠ a → H b = some o → delH H a b = some o := fun {b o} ne e => by unfold delH; rw [if_neg ne]; exact e
  have dn : ∀ {b}, b ≠ a → delH H a b = none → H b = none := fun {b} ne e => by unfold delH at e; rw [if_neg ne] at e; exact e
  have stN : Stp G₀ H₀ G' H' := ⟨fun b o e => by
      have ne : b ≠ a := fun z => by rw [z, hH₀] at e; cases e
      exact s.hh b o (dl ne (h.st.hh b o e)), h.st.gg.trans s.gg, s.gh, fun b o e z => by
      cases w : G b with
      | some u => exact h.st.nw b u w z
      | none =>
        have ne : b ≠ a := fun y => by rw [y, gA'] at e; cases e
        exact h.st.hh.free (dn ne (s.nw b o e w))⟩
  have stay : ∀ (k : Nat) t w, k ≠ i → ρ[k]? = some t → σ[k]? = some w → ∀ c, fp H t w c → H' c = H c ∧ G' c = none := fun k t w nk k1 k2 c f => by
    have ne : c ≠ a := fun z => by
      subst z
      exact h.dj k i t _ w _ c nk k1 q k2 hv f fa
    obtain ⟨gc, o, hc⟩ := fp_own (h.en.at_ k t w k1 k2) f
    refine ⟨by rw [hc]; exact s.hh c o (dl ne hc), ?_⟩
    cases w2 : G' c with
    | none => rfl
    | some u =>
      have y := dn ne (s.nw c u w2 gc)
      rw [hc] at y; cases y
  have sub : ∀ b, fp H' (.od m ps') (some (.ref a)) b → b = a := fun b f => by
    have f : V.ref a = V.ref b := Option.some.inj f
    injection f with f
    exact f.symm
  refine ⟨by rw [List.length_set]; exact h.ln, stN, ⟨by rw [List.length_set]; exact h.en.len, fun k t w k1 k2 => ?_⟩, fun k t w b k1 k2 f => ?_, fun k l t u w x b nk k1 k2 k3 k4 f1 f2 => ?_⟩
  · rcases getset k1 with ⟨e, e'⟩ | ⟨e, e'⟩
    · subst e e'
      rw [hv] at k2
      rw [← Option.some.inj k2]
      exact ⟨a, xs', rfl, hA', gA', r, z0⟩
    · exact (h.en.at_ k t w e' k2).other s.gg (stay k t w (Ne.symm e) e' k2)
  · rcases getset k1 with ⟨e, e'⟩ | ⟨e, e'⟩
    · subst e e'
      rw [hv] at k2
      rw [← Option.some.inj k2] at f
      rw [sub b f]; exact hH₀
    · exact h.ow k t w b e' k2 (fp_eq (h.en.at_ k t w e' k2) (fun c fc => (stay k t w (Ne.symm e) e' k2 c fc).1) f)
  · have old : ∀ (k : Nat) t w, i ≠ k → ρ[k]? = some t → σ[k]? = some w → fp H' t w b → fp H t w b := fun k t w ne k1 k2 f => fp_eq (h.en.at_ k t w k1 k2) (fun c fc => (stay k t w (Ne.symm ne) k1 k2 c fc).1) f
    rcases getset k1 with ⟨e1, e1'⟩ | ⟨e1, e1'⟩
    · rcases getset k2 with ⟨e2, _⟩ | ⟨e2, e2'⟩
      · exact nk (e1.symm.trans e2)
      · subst e1 e1'
        rw [hv] at k3
        rw [← Option.some.inj k3] at f1
        rw [sub b f1] at f2 old
        exact h.dj i l _ u _ x a e2 q e2' hv k4 fa (old l u x e2 e2' k4 f2)
    · rcases getset k2 with ⟨e2, e2'⟩ | ⟨e2, e2'⟩
      · subst e2 e2'
        rw [hv] at k4
        rw [← Option.some.inj k4] at f2
        rw [sub b f2] at f1 old
        exact h.dj k i t _ w _ a nk e1' q k3 hv (old k t w e1 e1' k3 f1) fa
      · exact h.dj k l t u w x b nk e1' e2' k3 k4 (old k t w e1 e1' k3 f1) (old l u x e2 e2' k4 f2)
/-- y = f(x, ..), f writes x -/
theorem pS_dml {T : Tb} {k : Nat} (ok : Okx T c k false X) {i j fi : Nat} {f : Fn} {x y : Str} {ls : List Expr} {rs : Env → Rs (List D)} {py zp xp cp pos : Pos} (hf : T.fns[fi]? = some f) (hm0 : T.mus.contains fi = true) (hij : i ≠ j) (hn : ∀ ρ ds, rs ρ = .ok ds → ds.length + 1 = f.ar) (hg : Gl X f.name) (hdf : ndb f.name = true)
    (hi : X.N[i]? = some x) (hv : Vis X.env.scope x) (hd : ndb x = true) (hj : X.N[j]? = some y) (hy : Loc X.env.scope y) (fy : X.fn y = true ∨ X.env.scope.names.lookup y = some .local) (ha : PA X ls (tL c rs)) (hp : ls.all plE = true) :
    PS X (.Assign [.Name y py] (.Call (.Name f.name zp) (.Name x xp :: ls) [] cp) pos) (tS c n fun ρ => opt (odAt ρ i) fun q => (rs ρ).bind fun ds => (T.fn fi (.dict q.2 :: ds)).quiet.bind (mutD i j q.1 ρ)) := by
  obtain ⟨f', e1, fa, fd, ps, F, hl, hm, hk, hb⟩ := ok.tb.mus fi hm0
  rw [hf] at e1
  have e1 := Option.some.inj e1
  subst e1
  refine PS.mono (ps_asg (pe_callS (E := WE c.W) F (ok.rm rfl) hg hm hk hb (fun σ => passAt ok.tk σ) (pa_cons (pe_var hi hv (ndb1 hd).1 (ndb1 hd).2) ha rfl) (ndb1 hdf).1 rfl (backF hp)) (pg_name ok.nd hj hy fy) (swapSole rfl) (storesN (.inl rfl) (.inl rfl)) rfl) fun D σ H ⟨ρ, G₀, H₀, G, h, p⟩ => ?_
  obtain ⟨⟨m, pz⟩, e0, p⟩ := PoS.opt p
  have q0 := odAt_some e0
  obtain ⟨w, hv0, a, xs, ew, hA, gA, rk, z0⟩ := h.en.get q0
  subst ew
  refine ⟨.ref a, hv0, tS.expr h p fun ds us G1 H1 ed st rd p1 => ?_⟩
  have h1 := h.step st
  obtain ⟨w, hw, a2, xs2, ew, hA2, gA2, rk2, z2⟩ := h1.en.get q0
  subst ew
  rw [hv0] at hw
  have e6 : V.ref a = V.ref a2 := Option.some.inj (Option.some.inj hw)
  injection e6 with e6
  subst e6
  have p1 : PoS c n G₀ H₀ D ((T.fn fi (.dict pz :: ds)).quiet.bind (mutD i j m ρ)) := p1
  unfold Tb.fn at p1
  rw [hf] at p1
  have p1 : PoS c n G₀ H₀ D ((f.m (.dict pz :: ds)).quiet.bind (mutD i j m ρ)) := p1
  have hK : c.K = X.K := ok.hK
  cases z : f.m (.dict pz :: ds) with
  | no => rw [z] at p1; exact p1.elim
  | ex y => rw [z] at p1; exact p1.elim
  | ok r =>
    rw [z] at p1
    have p1 : PoS c n G₀ H₀ D (mutD i j m ρ r) := p1
    obtain ⟨d, ps', er, p2⟩ : ∃ d ps', r = .tuple [d, .dict ps'] ∧ ∀ σ G H, StR c.kx n G₀ H₀ ((ρ.set i (.od m ps')).set j (.fz d)) σ G H → D.nx σ H := by
      unfold mutD at p1
      split at p1
      · exact ⟨_, _, rfl, p1⟩
      · exact p1.elim
    subst er
    refine ⟨a, us, xs2, pz, ds, G1, rfl, hn ρ ds ed, h1.st.gh, gA2, hA2, by show DpKv X.K _ _ _; rw [← hK]; exact rk2, by show DpAll X.K _ _ _; rw [← hK]; exact rd, d, ps', z, fun u xs' G' H' s2 r2 hA' gA' rk' => ?_⟩
    have r2 : Dp X.K G' u d := r2
    have rk' : DpKv X.K G' xs' ps' := rk'
    rw [← hK] at r2 rk'
    have h2 := h1.mut q0 hv0 s2 hA' gA' rk'
    exact p2 _ G' H' (h2.setF (Stp.refl h2.st.gh) r2)
/-- back from a def that writes its first argument -/
theorem pS_rtd {e : Expr} {r : Env → Rs D} {pos : Pos} (he : PE X e (tE c r)) : PS X (.Return (some e) pos) (tS c n fun ρ => opt (odAt ρ 0) fun q => grd q.1 ((r ρ).map fun d => .rd d q.2)) := by
  refine PS.mono (ps_ret he) fun D σ H ⟨ρ, G₀, H₀, G, h, p⟩ => ?_
  obtain ⟨⟨m, ps⟩, e0, p⟩ := PoS.opt p
  have q0 := odAt_some e0
  cases m with
  | false => exact p.elim
  | true =>
    refine tS.expr (r := r) (k := fun d => .ok (.rd d ps)) h p fun d u G1 H1 _ st rd p1 => ?_
    have h1 := h.step st
    obtain ⟨w, hv0, a, xs, ew, hA, gA, rk, z0⟩ := h1.en.get q0
    have ea : a = c.th 0 := z0 rfl
    subst ea
    exact p1 u xs G1 H1 h1.st rd hA gA rk
end
end Rf
set_option Elab.async false
set_option linter.all false
set_option maxRecDepth 100000
set_option maxHeartbeats 4000000
namespace Rf
open PySem PySem.Spec PyProof.Rows L2
def Cw.suite (c : Cw) (a : Addr) (e : Xn) : Cw := { c with xa := some (a, e), W := fun _ _ _ _ => False }
def Cw.wi (c : Cw) (W : WX) : Cw := { c with W := W }
section
variable {X : Cx} {c : Cw} {n : Nat}
theorem pS_try {T : Tb} {k : Nat} (ok : Oks T c k false X) {cl i : Nat} {y nm : Str} {body suite : List Stmt} {b0 : Stmt} {yp pos' pos : Pos} {rb rh : Env → Rs Fl} (hi : X.N[i]? = some nm) (hln : X.env.scope.names.lookup nm = some .local) (hcl : T.cls[cl]? = some y) (hg : Gl X y) (hd : ndb y = true)
    (hb : ∀ (W : WX) (pn : List (Addr × Obj)) (xe : Value → Shared → Prop), Takes (X.tr pn xe) W → PassesOwn (model X.prog X.w) X.A X.env xe → PSs (X.tr pn xe) body (tS (c.wi W) n rb))
    (hsu : ∀ (a : Addr) (e : Xn) (oe : Obj) (pn : List (Addr × Obj)), Zc (.ref (c.ca e.1)) none oe → (∃ vs, oe.data = .fields vs) → e.1 < T.cls.length → PSs (X.suite a ((a, oe) :: pn)) (b0 :: suite) (tS (c.suite a e) n rh)) :
    PS X (.Try body [.ExceptHandler (some (.Name y yp)) (some nm) (b0 :: suite) pos'] [] [] pos) (tS c n fun ρ => tryD T cl (fun e => rh ((blank ρ).set i (.xn e))) (rb ρ)) := by
  have xc := ok.tb.cls cl y hcl
  have hlt : cl < T.cls.length := (List.getElem?_eq_some_iff.mp hcl).1
  refine PS.mono (ps_try_as (tb := fun W => tS (c.wi W) n rb) (ts := fun a cls d D σ H => ∃ e : Xn, cls = .ref (c.ca e.1) ∧ d = none ∧ e.1 < T.cls.length ∧ tS (c.suite a e) n rh D σ H)
    ok.hs ok.hf ok.nd hi hln ⟨hg, (ndb1 hd).1, .inl xc.mg⟩ ok.tk hb (fun a oe cls d pn hz hf => ?_)) fun D σ H ⟨ρ, G₀, H₀, G, h, p⟩ => ⟨ρ, G₀, H₀, G, h, ?_⟩
  · constructor
    intro pins s σ H D I ⟨e, e1, e2, e3, q⟩
    subst e1 e2
    exact (hsu a e oe pn hz hf e3).run pins s σ H D I q
  · dsimp only at p
    cases q : rb ρ with
    | ok f => rw [q] at p; cases f <;> exact p
    | no => rw [q] at p; exact p.elim
    | ex e =>
      rw [q] at p
      have p : PoS c n G₀ H₀ D (grd (decide (e.1 < T.cls.length) && decide (cl < T.cls.length) && e.2.isNone) (if T.isa e.1 cl = true then caught (rh ((blank ρ).set i (.xn e))) else .ex e)) := p
      by_cases g : (decide (e.1 < T.cls.length) && decide (cl < T.cls.length) && e.2.isNone) = true
      · rw [g] at p
        have p : PoS c n G₀ H₀ D (if T.isa e.1 cl = true then caught (rh ((blank ρ).set i (.xn e))) else .ex e) := p
        rw [Bool.and_eq_true, Bool.and_eq_true, decide_eq_true_eq, decide_eq_true_eq] at g
        obtain ⟨⟨g1, _⟩, g2⟩ := g
        have g2 : e.2 = none := by cases z : e.2 with | none => rfl | some v => rw [z] at g2; cases g2
        intro σ' G' H' hl st
        unfold XW
        rw [g2]
        refine ⟨T.isa e.1 cl, (ok.tb.isa e.1 cl g1 hlt).2, fun hy a ha => ⟨e, rfl, rfl, g1, (blank ρ).set i (.xn e), G₀, H₀, G', ?_, ?_⟩, fun hno => ?_⟩
        · have nofp : ∀ (j : Nat) s v b, ((blank ρ).set i (.xn e))[j]? = some s → ¬ fp H' s v b := fun j s v b e1 f => by
            rcases getset e1 with ⟨z, z'⟩ | ⟨z, z'⟩
            · subst z'; exact f
            · unfold blank at z'
              rw [List.getElem?_map] at z'
              cases y : ρ[j]? with
              | none => rw [y] at z'; cases z'
              | some s0 => rw [y] at z'; have z' := Option.some.inj z'; subst z'; exact f
          refine ⟨by rw [List.length_set]; unfold blank; rw [List.length_map]; exact h.ln, st, ⟨by rw [List.length_set, List.length_set]; unfold blank; rw [List.length_map, h.ln, hl], fun j s v e1 e2 => ?_⟩, fun j s v b e1 _ f => (nofp j s v b e1 f).elim, fun j m s t v w b _ e1 _ _ _ f _ => (nofp j s v b e1 f).elim⟩
          rcases getset e1 with ⟨z, z'⟩ | ⟨z, z'⟩
          · rcases getset e2 with ⟨_, w'⟩ | ⟨w1, _⟩
            · subst z' w'
              exact ⟨a, rfl, rfl⟩
            · exact absurd z w1
          · unfold blank at z'
            rw [List.getElem?_map] at z'
            cases y : ρ[j]? with
            | none => rw [y] at z'; cases z'
            | some s0 => rw [y] at z'; have z' := Option.some.inj z'; subst z'; trivial
        · rw [hy, if_pos rfl] at p
          cases z : rh ((blank ρ).set i (.xn e)) with
          | ok f =>
            rw [z] at p
            cases f with
            | rt d => exact p
            | nx _ => exact p.elim
            | bk _ => exact p.elim
            | rd => exact p.elim
            | ct _ => exact p.elim
          | ex y => rw [z] at p; exact p.elim
          | no => rw [z] at p; exact p.elim
        · rw [hno, if_neg Bool.false_ne_true] at p
          have p := p σ' G' H' hl st
          unfold XW at p
          rw [g2] at p
          exact p
      · rw [Bool.eq_false_iff.mpr g] at p; exact p.elim
theorem Oks.tr {T : Tb} {k : Nat} (ok : Oks T c k false X) {W : WX} {pn : List (Addr × Obj)} {xe : Value → Shared → Prop} (tk : Takes (X.tr pn xe) W) (po : PassesOwn (model X.prog X.w) X.A X.env xe) : Oks T (c.wi W) k false (X.tr pn xe) :=
  { hK := ok.hK, nd := ok.nd, tk := tk, rm := ok.rm, cm := ok.cm, hu := ok.hu, isE := (fun _ _ _ h => nomatch h), tb := ok.tb, ps := Pas.top tk ok.hs ok.hf, kd := ok.kd, po := po, hs := ok.hs, hf := ok.hf, fn := ok.fn }
theorem Oks.suite {T : Tb} {k : Nat} (ok : Oks T c k false X) {a : Addr} {e : Xn} {oe : Obj} {pn : List (Addr × Obj)} (hz : Zc (.ref (c.ca e.1)) none oe) (hf : ∃ vs, oe.data = .fields vs) (hl : e.1 < T.cls.length) : Oks T (c.suite a e) k true (X.suite a ((a, oe) :: pn)) :=
  { hK := ok.hK, nd := ok.nd, tk := takes0, rm := (fun h => nomatch h), cm := (fun h => nomatch h), hu := ok.hu, kd := ok.kd, po := PassesOwn.never, hs := ok.hs, hf := ok.hf, fn := ok.fn, tb := ok.tb, ps := Pas.never ⟨_, _, _, ok.hs, ok.hf, ok.hf⟩
    isE := fun a' e' h _ _ => by
      have h : some (a, e) = some (a', e') := h
      injection h with h
      injection h with h1 h2
      subst h1 h2
      obtain ⟨z, hz2⟩ : ∃ z, T.cls[e.1]? = some z := ⟨_, List.getElem?_eq_getElem hl⟩
      exact call_isE (ok.tb.cls e.1 z hz2).ec hz hf }
/-- what is walked, in a statement -/
theorem itS {T : Tb} {k : Nat} {hot : Bool} (ok : Okx T c k hot X) (cm : X.calm = true) {kd : It} {is : Es} {tg iter : Expr} (h : itChk T hot X.N X.env.scope kd is tg iter = true) : PI X tg iter (tI c fun ρ => (is.ev T ρ).bind fun ds => (itD kd ds).quiet) := by
  unfold itChk at h
  cases q : itForm kd tg X.env.scope iter with
  | none => rw [q] at h; cases h
  | some l =>
    rw [q] at h
    have hl := plL is _ _ _ h
    have hs := Es.sound T k _ is X c _ ok h
    refine itPI (r1 := oneEv T is) ok.hK cm (fun x hx => ok.bl (by rcases hx with e | e | e <;> rw [e] <;> decide +kernel)) q hs.1 hl.1 (fun ρ ds hd => (evs_len T is ρ ds hd).trans hl.2.symm) fun e1 e2 => ?_
    subst e1
    obtain ⟨a, ea⟩ := seq1 is _ _ iter h
    have i := (hs.2.2 a iter ea rfl).e
    rw [ea]
    exact ⟨i, oneEv_eq T a⟩
theorem nmTgt {N : List Str} {sc : Scope} {fn : Str → Bool} {t : Tg} {tg : Expr} (h : t.chk N sc fn tg = true) (hn : isNm t = true) : ∃ i x p, t = .nm i ∧ tg = .Name x p ∧ N[i]? = some x ∧ lcB sc fn x = true := by
  cases t with
  | nm i =>
    unfold Tg.chk at h
    split at h
    · obtain ⟨h1, h2⟩ := and2 h
      exact ⟨i, _, _, rfl, rfl, of_decide_eq_true h1, h2⟩
    · cases h
  | t2 => cases hn
  | t3 => cases hn
  | t4 => cases hn
theorem tgtOr {N : List Str} {sc : Scope} {fn : Str → Bool} {t : Tg} {tg : Expr} (h : t.chk N sc fn tg = true) : tgt tg = true ∨ ∃ a b d, tg = .Tuple a b d := by
  cases t with
  | nm i =>
    obtain ⟨_, _, _, _, e, _⟩ := nmTgt h rfl
    subst e; exact .inl rfl
  | t2 =>
    unfold Tg.chk at h
    split at h
    · exact .inr ⟨_, _, _, rfl⟩
    · cases h
  | t3 =>
    unfold Tg.chk at h
    split at h
    · exact .inr ⟨_, _, _, rfl⟩
    · cases h
  | t4 =>
    unfold Tg.chk at h
    split at h
    · exact .inr ⟨_, _, _, rfl⟩
    · cases h
theorem Pv.sound {T : Tb} {k : Nat} {hot : Bool} (ok : Okx T c k hot X) {a : Pv} {e : Expr} (h : a.chk T hot X.N X.env.scope e = true) : PE X e (tO c (a.ev T)) := by
  cases a with
  | w oe =>
    have h : (!hot && oe.chk T false X.N X.env.scope e) = true := h
    obtain ⟨h1, h2⟩ := and2 h
    have hh : hot = false := by cases hot with | false => rfl | true => cases h1
    subst hh
    exact Oe.sound ok h2
  | n oe t kd is own =>
    have h : (!hot && nlChk T X.N X.env.scope oe t kd is own e) = true := h
    obtain ⟨h1, h2⟩ := and2 h
    have hh : hot = false := by cases hot with | false => rfl | true => cases h1
    subst hh
    exact LcT.e ok.nd (nl_lc ok h2)
  | v x => exact pO_v (E.sound T k hot x X c e ok h).e
  | o es =>
    cases e with
    | List l p =>
      have h : (es.chk T hot X.N X.env.scope l && decide (es.len ≤ 1000)) = true := h
      obtain ⟨h1, h2⟩ := and2 h
      exact pO_o es.len (of_decide_eq_true h2) (evs_len T es) (Es.sound T k hot es X c _ ok h1).1
    | _ => cases h
end
theorem esPl {T : Tb} {hot : Bool} : ∀ (es : Es) (N : List Str) (sc : Scope) (xs : List Expr), es.chk T hot N sc xs = true → xs.all plE = true
  | .nil, N, sc, xs, h => by
    unfold Es.chk at h
    split at h
    · rfl
    · cases h
  | .cons e es, N, sc, xs, h => by
    unfold Es.chk at h
    split at h
    · obtain ⟨h, h3⟩ := and2 h
      obtain ⟨h1, _⟩ := and2 h
      rw [List.all_cons, h1, esPl es _ _ _ h3]; rfl
    · cases h
mutual
theorem S.sound (T : Tb) (k n : Nat) (hot : Bool) : ∀ (s : S) (X : Cx) (c : Cw) (st : Stmt), Oks T c k hot X → s.chk T hot X.N X.env.scope st = true → PS X st (tS c n (s.ex T))
  | .asg t e fr, X, c, st, ok, h => by
    unfold S.chk at h
    split at h
    · rename_i tg v pos
      obtain ⟨h, h6⟩ := and2 h
      obtain ⟨h, h5⟩ := and2 h
      obtain ⟨h, h4⟩ := and2 h
      obtain ⟨h, h3⟩ := and2 h
      obtain ⟨h1, h2⟩ := and2 h
      have i := E.sound T k hot e X c v ok.toOkx h2
      have hfn : ∀ x, (fun (_ : Str) => true) x = true → X.fn x = true := fun x _ => by rw [ok.fn]
      by_cases hlc : ∃ a b d f, v = .ListComp a b d f
      · obtain ⟨a, b, d, f, ev⟩ := hlc
        subst ev
        dsimp only at h6
        obtain ⟨i', x, p, et, eg, hN, hl⟩ := nmTgt h3 h6
        subst et eg
        have ll := lcL hfn hl
        refine pS_asgLc ok.nd ok.kd (i.l a b d f rfl) hN ?_
        rcases ll.1 with q | q
        · exact .inl q
        · exact .inr ⟨q, by rw [ok.fn]⟩
      · have hnc : notComp v = true := by
          cases v <;> first | rfl | (exact absurd ⟨_, _, _, _, rfl⟩ hlc) | (cases h6; done)
        have hsw : swappedStores [tg] v X.env = pure none := by
          by_cases hv : ∃ a b d, v = .Tuple a b d
          · obtain ⟨a, b, d, ev⟩ := hv
            subst ev
            dsimp only at h6
            obtain ⟨_, _, _, _, eg, _⟩ := nmTgt h3 h6
            subst eg
            exact storesN (.inl rfl) (.inl rfl)
          · exact storesN (.inr fun a b d e => hv ⟨a, b, d, e⟩) (tgtOr h3)
        refine pS_asg i.e ?_ hnc h5 hsw
        by_cases hn : isNm t = true
        · obtain ⟨i', x, p, et, eg, hN, hl⟩ := nmTgt h3 hn
          subst et eg
          exact pG_nm ok.hK ok.nd hN (lcL hfn hl).1 (lcL hfn hl).2
        · have hh : hot = false := by
            cases hot with
            | false => rfl
            | true => exact absurd (by simpa using h4) hn
          exact Tg.sound ok.hK ok.nd (ok.cm hh) _ hfn t tg h3
    · cases h
  | .own i es fr, X, c, st, ok, h => by
    unfold S.chk at h
    split at h
    · obtain ⟨h, h4⟩ := and2 h
      obtain ⟨h, h3⟩ := and2 h
      obtain ⟨h1, h2⟩ := and2 h
      have hfn : ∀ x, (fun (_ : Str) => true) x = true → X.fn x = true := fun x _ => by rw [ok.fn]
      exact pS_own ok.nd (of_decide_eq_true h1) (lcL hfn h2).1 (lcL hfn h2).2 es.len (of_decide_eq_true h4) (evs_len T es) (Es.sound T k hot es X c _ ok.toOkx h3).1
    · cases h
  | .par i j a b fr, X, c, st, ok, h => by
    unfold S.chk at h
    split at h
    · obtain ⟨h, h11⟩ := and2 h
      obtain ⟨h, h10⟩ := and2 h
      obtain ⟨h, h9⟩ := and2 h
      obtain ⟨h, h8⟩ := and2 h
      obtain ⟨h, h7⟩ := and2 h
      obtain ⟨h, h6⟩ := and2 h
      obtain ⟨h, h5⟩ := and2 h
      obtain ⟨h, h4⟩ := and2 h
      obtain ⟨h, h3⟩ := and2 h
      obtain ⟨h1, h2⟩ := and2 h
      have hh := hotF h1
      subst hh
      have hfn : ∀ x, (fun (_ : Str) => true) x = true → X.fn x = true := fun x _ => by rw [ok.fn]
      exact pS_par (ok.cm rfl) ok.kd ok.nd (of_decide_eq_true h2) (of_decide_eq_true h3) (of_decide_eq_true h4) (lcL hfn h5).1 (lcL hfn h6).1 (lcL hfn h5).2 (lcL hfn h6).2 h7 h8 h9 (Pv.sound ok.toOkx h10) (Pv.sound ok.toOkx h11)
    · cases h
  | .star o i j e fr, X, c, st, ok, h => by
    unfold S.chk at h
    split at h
    · obtain ⟨h, h10⟩ := and2 h
      obtain ⟨h, h9⟩ := and2 h
      obtain ⟨h, h8⟩ := and2 h
      obtain ⟨h, h7⟩ := and2 h
      obtain ⟨h, h6⟩ := and2 h
      obtain ⟨h, h5⟩ := and2 h
      obtain ⟨h, h4⟩ := and2 h
      obtain ⟨h, h3⟩ := and2 h
      obtain ⟨h1, h2⟩ := and2 h
      have hh := hotF h1
      subst hh
      have hfn : ∀ x, (fun (_ : Str) => true) x = true → X.fn x = true := fun x _ => by rw [ok.fn]
      refine pS_star (ok.cm rfl) ok.hK ok.nd o (of_decide_eq_true h2) (of_decide_eq_true h3) (of_decide_eq_true h4) (lcL hfn h5).1 (lcL hfn h6).1 (lcL hfn h5).2 (lcL hfn h6).2 h8 (fun a b d ev => ?_) (E.sound T k _ e X c _ ok.toOkx h10).e
      subst ev
      cases h9
    · cases h
  | .par3 i j l a b d fr, X, c, st, ok, h => by
    unfold S.chk at h
    split at h
    · obtain ⟨h, h14⟩ := and2 h
      obtain ⟨h, h13⟩ := and2 h
      obtain ⟨h, h12⟩ := and2 h
      obtain ⟨h, h11⟩ := and2 h
      obtain ⟨h, h10⟩ := and2 h
      obtain ⟨h, h9⟩ := and2 h
      obtain ⟨h, h8⟩ := and2 h
      obtain ⟨h, h7⟩ := and2 h
      obtain ⟨h, h6⟩ := and2 h
      obtain ⟨h, h5⟩ := and2 h
      obtain ⟨h, h4⟩ := and2 h
      obtain ⟨h, h3⟩ := and2 h
      obtain ⟨h1, h2⟩ := and2 h
      have hh := hotF h1
      subst hh
      obtain ⟨lx, h11⟩ := and2 h11
      obtain ⟨ly, h11⟩ := and2 h11
      obtain ⟨lz, h11⟩ := and2 h11
      have hfn : ∀ x, (fun (_ : Str) => true) x = true → X.fn x = true := fun x _ => by rw [ok.fn]
      exact pS_par3 (ok.cm rfl) ok.kd ok.nd (of_decide_eq_true h2) (of_decide_eq_true h3) (of_decide_eq_true h4) (of_decide_eq_true h5) (of_decide_eq_true h6) (of_decide_eq_true h7) (lcL hfn lx).1 (lcL hfn ly).1 (lcL hfn lz).1 (lcL hfn lx).2 (lcL hfn ly).2 (lcL hfn lz).2 h8 h9 h10 h11 (Pv.sound ok.toOkx h12) (Pv.sound ok.toOkx h13) (Pv.sound ok.toOkx h14)
    · cases h
  | .aug i o e, X, c, st, ok, h => by
    unfold S.chk at h
    split at h
    · obtain ⟨h, h6⟩ := and2 h
      obtain ⟨h, h5⟩ := and2 h
      obtain ⟨h, h4⟩ := and2 h
      obtain ⟨h, h3⟩ := and2 h
      obtain ⟨h1, h2⟩ := and2 h
      have e1 := opB_eq h1
      subst e1
      have hfn : ∀ x, (fun (_ : Str) => true) x = true → X.fn x = true := fun x _ => by rw [ok.fn]
      refine pS_aug ok.hK ok.nd (of_decide_eq_true h3) (lcL hfn h4).1 (lcL hfn h4).2 ?_ (E.sound T k hot e X c _ ok.toOkx h6).e
      cases o <;> first | exact .inl rfl | exact .inr rfl | (cases h2; done)
    · cases h
  | .app i e fr, X, c, st, ok, h => by
    unfold S.chk at h
    split at h
    · obtain ⟨h, h8⟩ := and2 h
      obtain ⟨h, h7⟩ := and2 h
      obtain ⟨h, h6⟩ := and2 h
      obtain ⟨h, h5⟩ := and2 h
      obtain ⟨h, h4⟩ := and2 h
      obtain ⟨h, h3⟩ := and2 h
      obtain ⟨h1, h2⟩ := and2 h
      have hh := hotF h1
      subst hh
      have e1 := of_decide_eq_true h2
      subst e1
      exact pS_app (ok.cm rfl) (of_decide_eq_true h4) (visV h5) h6 h3 h7 (E.sound T k _ e X c _ ok.toOkx h8).e
    · cases h
  | .rpl i a qs, X, c, st, ok, h => by
    unfold S.chk at h
    cases h
  | .asp i a fr, X, c, st, ok, h => by
    unfold S.chk at h
    split at h
    · obtain ⟨h1, h⟩ := and2 h
      obtain ⟨h2, h⟩ := and2 h
      obtain ⟨h3, h⟩ := and2 h
      obtain ⟨h4, h5⟩ := and2 h
      have hh := hotF h1
      subst hh
      have hfn : ∀ x, (fun (_ : Str) => true) x = true → X.fn x = true := fun x _ => by rw [ok.fn]
      refine pS_asp ok.nd ok.kd (of_decide_eq_true h2) (lcL hfn h3).1 (lcL hfn h3).2 ?_
      rw [Bool.or_eq_true] at h5
      cases a with
      | n oe t kd is own =>
        have h4 : (!false && nlChk T X.N X.env.scope oe t kd is own _) = true := h4
        exact .inl (nl_lc ok.toOkx (and2 h4).2)
      | w oe =>
        cases oe with
        | cmp e' t kd is cs own =>
          have h4 : (!false && (E.cmpr e' t kd is cs own).chk T false X.N X.env.scope _) = true := h4
          exact .inl (cmpr_lc ok.toOkx (and2 h4).2 fun ht => lcReadW ok.hK ht)
        | rng a => exact .inr ⟨h5.resolve_left (fun z => nomatch z), Pv.sound ok.toOkx h4⟩
        | cp a => exact .inr ⟨h5.resolve_left (fun z => nomatch z), Pv.sound ok.toOkx h4⟩
        | mul a b => exact .inr ⟨h5.resolve_left (fun z => nomatch z), Pv.sound ok.toOkx h4⟩
      | v x => exact .inr ⟨h5.resolve_left (fun z => nomatch z), Pv.sound ok.toOkx h4⟩
      | o es => exact .inr ⟨h5.resolve_left (fun z => nomatch z), Pv.sound ok.toOkx h4⟩
    · cases h
  | .asv t e, X, c, st, ok, h => by
    unfold S.chk at h
    split at h
    · rename_i tg v pos
      obtain ⟨h1, h⟩ := and2 h
      obtain ⟨h2, h⟩ := and2 h
      obtain ⟨h3, h⟩ := and2 h
      obtain ⟨h4, h⟩ := and2 h
      obtain ⟨h5, h⟩ := and2 h
      obtain ⟨h6, h7⟩ := and2 h
      have hh := hotF h1
      subst hh
      have hfn : ∀ x, (fun (_ : Str) => true) x = true → X.fn x = true := fun x _ => by rw [ok.fn]
      have hsw : swappedStores [tg] v X.env = pure none := by
        by_cases hv : ∃ a b d, v = .Tuple a b d
        · obtain ⟨a, b, d, ev⟩ := hv
          subst ev
          dsimp only at h7
          obtain ⟨_, _, _, _, eg, _⟩ := nmTgt h4 h7
          subst eg
          exact storesN (.inl rfl) (.inl rfl)
        · exact storesN (.inr fun a b d e => hv ⟨a, b, d, e⟩) (tgtOr h4)
      exact pS_asv (E.sound T k _ e X c _ ok.toOkx h3).e (Tg.sound ok.hK ok.nd (ok.cm rfl) _ hfn t _ h4) h6 h5 hsw
    · cases h
  | .ost i y e, X, c, st, ok, h => by
    unfold S.chk at h
    split at h
    · obtain ⟨h1, h⟩ := and2 h
      obtain ⟨h2, h⟩ := and2 h
      obtain ⟨h3, h⟩ := and2 h
      obtain ⟨h4, h⟩ := and2 h
      obtain ⟨h5, h⟩ := and2 h
      obtain ⟨h6, h⟩ := and2 h
      obtain ⟨h7, h⟩ := and2 h
      obtain ⟨h8, h9⟩ := and2 h
      have hh := hotF h1
      subst hh
      exact pS_ost (of_decide_eq_true h2) (visV h3) h4 h5 (E.sound T k _ y X c _ ok.toOkx h6).e h7 (E.sound T k _ e X c _ ok.toOkx h9).e
    · cases h
  | .nst i y j e, X, c, st, ok, h => by
    unfold S.chk at h
    split at h
    · obtain ⟨h1, h⟩ := and2 h
      obtain ⟨h2, h⟩ := and2 h
      obtain ⟨h3, h⟩ := and2 h
      obtain ⟨h4, h⟩ := and2 h
      obtain ⟨h5, h⟩ := and2 h
      obtain ⟨h6, h⟩ := and2 h
      obtain ⟨h7, h⟩ := and2 h
      obtain ⟨h8, h⟩ := and2 h
      obtain ⟨h9, h⟩ := and2 h
      obtain ⟨h10, h11⟩ := and2 h
      have hh := hotF h1
      subst hh
      exact pS_nst (of_decide_eq_true h2) (visV h3) h4 h5 h6 (E.sound T k _ y X c _ ok.toOkx h7).e (E.sound T k _ j X c _ ok.toOkx h8).e h9 (E.sound T k _ e X c _ ok.toOkx h11).e
    · cases h
  | .npp i y j z x e, X, c, st, ok, h => by
    unfold S.chk at h
    split at h
    · obtain ⟨h1, h⟩ := and2 h
      obtain ⟨g1, h⟩ := and2 h
      obtain ⟨g2, h⟩ := and2 h
      obtain ⟨g3, h⟩ := and2 h
      obtain ⟨g4, h⟩ := and2 h
      obtain ⟨g5, h⟩ := and2 h
      obtain ⟨g6, h⟩ := and2 h
      obtain ⟨g7, h⟩ := and2 h
      obtain ⟨g8, h⟩ := and2 h
      obtain ⟨g9, h⟩ := and2 h
      obtain ⟨g10, h⟩ := and2 h
      obtain ⟨g11, h⟩ := and2 h
      obtain ⟨g12, h⟩ := and2 h
      obtain ⟨g13, h⟩ := and2 h
      obtain ⟨g14, h⟩ := and2 h
      obtain ⟨g15, h⟩ := and2 h
      obtain ⟨g16, h⟩ := and2 h
      obtain ⟨g17, g18⟩ := and2 h
      have hh := hotF h1
      subst hh
      have e1 := of_decide_eq_true g8
      subst e1
      exact pS_npp (of_decide_eq_true g1) (of_decide_eq_true g2) (of_decide_eq_true g3) (visV g4) (visV g5) g6 g7 g9 g10 g11 g12 (E.sound T k _ y X c _ ok.toOkx g13).e (E.sound T k _ z X c _ ok.toOkx g14).e (E.sound T k _ x X c _ ok.toOkx g15).e g16 (E.sound T k _ e X c _ ok.toOkx g18).e
    · cases h
  | .npz i a b e, X, c, st, ok, h => by
    unfold S.chk at h
    split at h
    · obtain ⟨h1, h⟩ := and2 h
      obtain ⟨g1, h⟩ := and2 h
      obtain ⟨g2, h⟩ := and2 h
      obtain ⟨g3, h⟩ := and2 h
      obtain ⟨g4, h⟩ := and2 h
      obtain ⟨g5, h⟩ := and2 h
      obtain ⟨g6, h⟩ := and2 h
      obtain ⟨g7, h⟩ := and2 h
      obtain ⟨g8, h⟩ := and2 h
      obtain ⟨g9, h⟩ := and2 h
      obtain ⟨g10, h⟩ := and2 h
      obtain ⟨g11, h⟩ := and2 h
      obtain ⟨g12, h⟩ := and2 h
      obtain ⟨g13, h⟩ := and2 h
      obtain ⟨g14, h⟩ := and2 h
      obtain ⟨g15, h⟩ := and2 h
      obtain ⟨g16, h⟩ := and2 h
      obtain ⟨g17, h⟩ := and2 h
      obtain ⟨g18, h⟩ := and2 h
      obtain ⟨g19, h⟩ := and2 h
      obtain ⟨g20, h⟩ := and2 h
      obtain ⟨g21, g22⟩ := and2 h
      have hh := hotF h1
      subst hh
      have e1 := of_decide_eq_true g4
      have e2 := of_decide_eq_true g9
      have e3 := of_decide_eq_true g10
      have e4 := of_decide_eq_true g11
      subst e1 e2 e3 e4
      have hfn : ∀ x, (fun (_ : Str) => true) x = true → X.fn x = true := fun x _ => by rw [ok.fn]
      exact pS_npz ok.po ok.hK (ok.cm rfl) ok.nd (of_decide_eq_true g1) (of_decide_eq_true g2) (of_decide_eq_true g3) (glG g5) (ok.bl (by decide +kernel)) (of_decide_eq_true g6) (of_decide_eq_true g7) (of_decide_eq_true g8) g12 (lcL hfn g13).1 (lcL hfn g13).2 (lcL hfn g14).1 (lcL hfn g14).2 (visV g15) (visV g16) (visV g17) g18 g19 g20 g21 (E.sound T k _ e X c _ ok.toOkx g22).e
    · cases h
  | .pop t i, X, c, st, ok, h => by
    unfold S.chk at h
    split at h
    · obtain ⟨h, h8⟩ := and2 h
      obtain ⟨h, h7⟩ := and2 h
      obtain ⟨h, h6⟩ := and2 h
      obtain ⟨h, h5⟩ := and2 h
      obtain ⟨h, h4⟩ := and2 h
      obtain ⟨h, h3⟩ := and2 h
      obtain ⟨h1, h2⟩ := and2 h
      have hh := hotF h1
      subst hh
      have e1 := of_decide_eq_true h2
      subst e1
      have hfn : ∀ x, (fun (_ : Str) => true) x = true → X.fn x = true := fun x _ => by rw [ok.fn]
      exact pS_pop (of_decide_eq_true h4) (visV h5) h6 h3 (Tg.sound ok.hK ok.nd (ok.cm rfl) _ hfn t _ h7) h8 (storesN (.inr fun a b d e => nomatch e) (tgtOr h7))
    · cases h
  | .exp e, X, c, st, ok, h => by
    unfold S.chk at h
    split at h
    · obtain ⟨h, h3⟩ := and2 h
      obtain ⟨h1, h2⟩ := and2 h
      exact pS_exp (E.sound T k hot e X c _ ok.toOkx h3).e (swapN h1)
    · cases h
  | .ret e fr, X, c, st, ok, h => by
    unfold S.chk at h
    split at h
    · exact pS_ret (E.sound T k hot e X c _ ok.toOkx h).e
    · cases h
  | .ite t a b, X, c, st, ok, h => by
    unfold S.chk at h
    split at h
    · obtain ⟨h, h3⟩ := and2 h
      obtain ⟨h1, h2⟩ := and2 h
      exact pS_ite (E.sound T k hot t X c _ ok.toOkx h1).t (Ss.sound T k n hot a X c _ ok h2) (Ss.sound T k n hot b X c _ ok h3)
    · cases h
  | .forl t kd is b fr, X, c, st, ok, h => by
    unfold S.chk at h
    split at h
    · obtain ⟨h, h5⟩ := and2 h
      obtain ⟨h, h4⟩ := and2 h
      obtain ⟨h, h3⟩ := and2 h
      obtain ⟨h1, h2⟩ := and2 h
      have hh := hotF h1
      subst hh
      have hfn : ∀ x, (fun (_ : Str) => true) x = true → X.fn x = true := fun x _ => by rw [ok.fn]
      exact pS_for ok.po (ok.cm rfl) (itS ok.toOkx (ok.cm rfl) h3) (Tg.sound ok.hK ok.nd (ok.cm rfl) _ hfn t _ h4) (Ss.sound T k n _ b X c _ ok h5) h2
    · cases h
  | .whl m t b, X, c, st, ok, h => by
    unfold S.chk at h
    split at h
    · obtain ⟨h, h3⟩ := and2 h
      obtain ⟨h1, h2⟩ := and2 h
      exact pS_whl ok.po (E.sound T k hot t X c _ ok.toOkx h2).t (Ss.sound T k n hot b X c _ ok h3)
    · cases h
  | .rais cl, X, c, st, ok, h => by
    unfold S.chk at h
    split at h
    · obtain ⟨h, h5⟩ := and2 h
      obtain ⟨h, h4⟩ := and2 h
      obtain ⟨h, h3⟩ := and2 h
      obtain ⟨h1, h2⟩ := and2 h
      have hh := hotF h1
      subst hh
      exact pS_rais ok.toOkx (of_decide_eq_true h2) (glG h3) h4 (of_decide_eq_false (hotF h5))
    · cases h
  | .dcp i e, X, c, st, ok, h => by
    unfold S.chk at h
    split at h
    · obtain ⟨h1, h⟩ := and2 h
      obtain ⟨h2, h⟩ := and2 h
      obtain ⟨h3, h⟩ := and2 h
      obtain ⟨h4, h⟩ := and2 h
      obtain ⟨h5, h⟩ := and2 h
      obtain ⟨h6, h7⟩ := and2 h
      have hh := hotF h1
      subst hh
      have e1 := of_decide_eq_true h2
      subst e1
      have l := lcL (X := X) (fn := fun _ => true) (fun x _ => by rw [ok.fn]) h5
      exact pS_dcp ok.hK ok.nd (of_decide_eq_true h4) l.1 l.2 (glG h3) (ok.toOkx.bl (by decide +kernel)) h6 (E.sound T k _ e X c _ ok.toOkx h7).e
    · cases h
  | .dst i s e fr, X, c, st, ok, h => by
    unfold S.chk at h
    split at h
    · obtain ⟨h1, h⟩ := and2 h
      obtain ⟨h2, h⟩ := and2 h
      obtain ⟨h3, h⟩ := and2 h
      obtain ⟨h4, h⟩ := and2 h
      obtain ⟨h5, h⟩ := and2 h
      obtain ⟨h6, h⟩ := and2 h
      obtain ⟨h7, h8⟩ := and2 h
      have hh := hotF h1
      subst hh
      have e1 := of_decide_eq_true h2
      subst e1
      exact pS_dst ok.hu (of_decide_eq_true h3) (visV h4) h5 h6 (E.sound T k _ e X c _ ok.toOkx h8).e
    · cases h
  | .dup i e, X, c, st, ok, h => by
    unfold S.chk at h
    split at h
    · obtain ⟨h1, h⟩ := and2 h
      obtain ⟨h2, h⟩ := and2 h
      obtain ⟨h3, h⟩ := and2 h
      obtain ⟨h4, h⟩ := and2 h
      obtain ⟨h5, h⟩ := and2 h
      obtain ⟨h6, h⟩ := and2 h
      obtain ⟨h7, h8⟩ := and2 h
      have hh := hotF h1
      subst hh
      have e1 := of_decide_eq_true h2
      subst e1
      exact pS_dup (of_decide_eq_true h4) (visV h5) h6 h3 h7 (E.sound T k _ e X c _ ok.toOkx h8).e
    · cases h
  | .dml j f i es, X, c, st, ok, h => by
    unfold S.chk at h
    split at h
    · obtain ⟨h1, h⟩ := and2 h
      obtain ⟨h2, h⟩ := and2 h
      obtain ⟨h3, h⟩ := and2 h
      obtain ⟨h4, h⟩ := and2 h
      obtain ⟨h5, h⟩ := and2 h
      obtain ⟨h6, h⟩ := and2 h
      obtain ⟨h7, h⟩ := and2 h
      obtain ⟨h8, h⟩ := and2 h
      obtain ⟨h9, h⟩ := and2 h
      obtain ⟨h10, h⟩ := and2 h
      obtain ⟨h11, h12⟩ := and2 h
      have hh := hotF h1
      subst hh
      have e3 := of_decide_eq_true h3
      cases q : T.fns[f]? with
      | none => rw [q] at e3; cases e3
      | some g =>
        rw [q] at e3
        have e3 := Option.some.inj e3
        injection e3 with e4 e5
        subst e4
        have l := lcL (X := X) (fn := fun _ => true) (fun x _ => by rw [ok.fn]) h11
        exact pS_dml ok.toOkx q h2 (of_decide_eq_true h6) (fun ρ ds e => by rw [evs_len T es ρ ds e]; exact e5.symm) (glG h4) h5 (of_decide_eq_true h7) (visV h8) h9 (of_decide_eq_true h10) l.1 l.2 (Es.sound T k _ es X c _ ok.toOkx h12).1 (esPl es _ _ _ h12)
    · cases h
  | .rtd e, X, c, st, ok, h => by
    unfold S.chk at h
    split at h
    · exact pS_rtd (E.sound T k _ e X c _ ok.toOkx h).e
    · cases h
  | .brk, X, c, st, ok, h => by
    unfold S.chk at h
    split at h
    · exact pS_brk
    · cases h
  | .pass, X, c, st, ok, h => by
    unfold S.chk at h
    split at h
    · exact pS_pass
    · cases h
  | .tryx b cl i hd, X, c, st, ok, h => by
    unfold S.chk at h
    split at h
    · obtain ⟨h, h8⟩ := and2 h
      obtain ⟨h, h7⟩ := and2 h
      obtain ⟨h, h6⟩ := and2 h
      obtain ⟨h, h5⟩ := and2 h
      obtain ⟨h, h4⟩ := and2 h
      obtain ⟨h, h3⟩ := and2 h
      obtain ⟨h1, h2⟩ := and2 h
      have hh := hotF h1
      subst hh
      exact pS_try ok (of_decide_eq_true h5) (locL h6) (of_decide_eq_true h2) (glG h3) h4 (fun W pn xe tk po => Ss.sound T k n false b (X.tr pn xe) (c.wi W) _ (ok.tr tk po) h7)
        (fun a e oe pn hz hf hl => Ss.sound T k n true hd (X.suite a ((a, oe) :: pn)) (c.suite a e) _ (ok.suite hz hf hl) h8)
    · cases h
theorem Ss.sound (T : Tb) (k n : Nat) (hot : Bool) : ∀ (ss : Ss) (X : Cx) (c : Cw) (l : List Stmt), Oks T c k hot X → ss.chk T hot X.N X.env.scope l = true → PSs X l (tS c n (ss.ex T))
  | .nil, X, c, l, ok, h => by
    unfold Ss.chk at h
    split at h
    · exact pSs_nil
    · cases h
    · cases h
  | .cons s ss, X, c, l, ok, h => by
    unfold Ss.chk at h
    split at h
    · obtain ⟨h1, h2⟩ := and2 h
      exact pSs_cons (S.sound T k n hot s X c _ ok h1) (Ss.sound T k n hot ss X c _ ok h2)
    · cases h
end
end Rf
set_option Elab.async false
set_option linter.all false
set_option maxRecDepth 100000
set_option maxHeartbeats 4000000
namespace Rf
open PySem PySem.Spec PyProof.Rows L2
theorem undocOk {X : Cx} {t : TS} : ∀ {l : List Stmt}, PSs X (undoc l) t → PSs X l t := by
  intro l h
  unfold undoc at h
  split at h
  · exact PSs.mono (pss_cons ps_doc h) fun D σ H q => q
  · exact h
theorem start_env {K : Kx} {G H : Hp} {N : List Str} : ∀ {vs : List V} {ds : List D} {m : Nat}, DpAll K.1 G vs ds → EnvR K G H (ds.map Sl.fz ++ List.replicate m Sl.un) (vs.map some ++ List.replicate m none)
  | _, _, m, .nil => by
    refine ⟨by simp, fun i s v e1 e2 => ?_⟩
    simp only [List.map_nil, List.nil_append] at e1
    rw [List.getElem?_replicate] at e1
    split at e1
    · have := Option.some.inj e1; subst this; trivial
    · cases e1
  | v :: vs, d :: ds, m, .cons a b => by
    have ih := start_env (H := H) (N := N) (m := m) b
    refine ⟨by simp [DpAll_len b], fun i s w e1 e2 => ?_⟩
    cases i with
    | zero =>
      have e1 : some (Sl.fz d) = some s := e1
      have e2 : some (some v) = some w := e2
      injection e1 with e1
      injection e2 with e2
      subst e1 e2
      exact ⟨v, rfl, a⟩
    | succ i => exact ih.at_ i s w e1 e2
theorem bodyOk {Z : Wd} {T : Tb} {k : Nat} (Tk : Tok T Z k) {x qual : Str} {scope : Scope} {body : List Stmt} {N ps : List Str} {b : Ss} {pl : Bool} (S : FnScope N ps scope) (hchk : b.chk T false N scope (undoc body) = true) {f : Addr}
    (cdv : Value) (A : Around) (outer : List PySem.Env) (s : Shared) (H : Hp) (vs : List V) (Q : VK) (E : XK) (hr : Room k (A.deeper (envOfC qual scope s.heap.objs.size f cdv))) (hsp : spF Z.K Z.ca ⟨x, ps.length, runD T ps.length N.length b, pl⟩ vs H Q E) :
    ∃ t, PSs (cxOf (L2.CX Z.P Z.w) Z.P Z.w Z.K Z.mg Z.base N qual scope f cdv A outer s H E) body t ∧ t { nx := fun _ H' => Q .non H', rt := Q } (L2.start N vs) H := by
  obtain ⟨ds, G, hl, sg, rd, p⟩ := hsp
  have hpl : ps.length ≤ N.length := by have := congrArg List.length S.pre; rw [List.length_take] at this; omega
  let c : Cw := ⟨Z.K, Z.ca, fun cls d _ H => E cls d H, none, fun _ => 0⟩
  have ok : Oks T c k false (cxOf (L2.CX Z.P Z.w) Z.P Z.w Z.K Z.mg Z.base N qual scope f cdv A outer s H E) :=
    { hK := rfl, nd := S.nd, tk := takes_of rfl rfl rfl rfl, rm := fun _ => hr, cm := fun _ => rfl, hu := by have := hr.un; show (A.deeper (envOfC qual scope s.heap.objs.size f cdv)).units + 65 < cLine; omega
      isE := (fun _ _ h => nomatch h), tb := Tk, ps := Pas.top (takes_of rfl rfl rfl rfl) rfl rfl, kd := S.kind, po := passes_of rfl, hs := rfl, hf := rfl, fn := rfl }
  refine ⟨tS c N.length (b.ex T), undocOk (Ss.sound T k N.length false b _ c _ ok hchk), ?_⟩
  have hl : ds.length = ps.length := hl
  have hvl : vs.length = ps.length := by rw [DpAll_len rd]; exact hl
  have noFp : ∀ (i : Nat) s v b, (ds.map Sl.fz ++ List.replicate (N.length - ps.length) Sl.un)[i]? = some s → ¬ fp H s v b := fun i s v b e f => by
    rcases List.mem_append.mp (List.mem_of_getElem? e) with q | q
    · obtain ⟨_, _, z⟩ := List.mem_map.mp q; subst z; exact f
    · have := (List.mem_replicate.mp q).2; subst this; exact f
  refine ⟨ds.map .fz ++ List.replicate (N.length - ps.length) .un, G, H, G, ⟨by rw [List.length_append, List.length_map, List.length_replicate, hl]; omega, Stp.refl sg, ?_, fun i s v b e1 _ f => ?_, fun i j s t v w b _ e1 _ _ _ f _ => ?_⟩, ?_⟩
  · have : L2.start N vs = vs.map some ++ List.replicate (N.length - ps.length) none := by unfold L2.start; rw [hvl]
    rw [this]
    exact start_env (K := c.kx) (N := N) rd
  · exact (noFp i _ _ _ e1 f).elim
  · exact (noFp i _ _ _ e1 f).elim
  · have p : PoG (Dp Z.K) ⟨Z.K, Z.ca, fun cls d _ H => E cls d H, none, fun _ => 0⟩ [] G H (runD T ps.length N.length b ds) Q := p
    unfold runD at p
    rw [if_pos hl] at p
    cases q : b.ex T (ds.map .fz ++ List.replicate (N.length - ps.length) .un) with
    | ok fl =>
      rw [q] at p
      cases fl with
      | nx ρ => exact fun σ' G' H' h => p .non G' H' h.st .non
      | rt d => exact fun u G' H' st r => p u G' H' st r
      | bk ρ => exact p.elim
      | ct ρ => exact p.elim
      | rd d ps => exact p.elim
    | ex e =>
      rw [q] at p
      intro σ' G' H' _ st
      have p := p G' H' st
      unfold XW at p ⊢
      cases z : e.2 with
      | none => rw [z] at p; exact p
      | some v => rw [z] at p; exact p
    | no => rw [q] at p; exact p.elim
theorem def_ok {Z : Wd} {T : Tb} {k : Nat} (Tk : Tok T Z k) {x qual : Str} {params : Arguments} {body : List Stmt} {scope : Scope} {dvs : List V} {kws : List (Str × V)} {fa : Addr} {fd : FuncData} {N ps : List Str} {b : Ss} {pl : Bool} (F : L2.FunD Z.K x qual params body scope dvs kws fa fd) (S : FnScope N ps scope) (hchk : b.chk T false N scope (undoc body) = true) :
    FnOk Z.P Z.w Z.K Z.mg Z.base (L2.CX Z.P Z.w) (k + 1) fa fd ps (spF Z.K Z.ca ⟨x, ps.length, runD T ps.length N.length b, pl⟩) := by
  refine F.ok S (fun vs H Q E h => ?_) (fun cdv A outer s H vs Q E hr h => bodyOk Tk S hchk cdv A outer s H vs Q E hr h)
  obtain ⟨ds, G, hl, sg, rd, p⟩ := h
  rw [DpAll_len rd]; exact hl
theorem Tok.mono {T : Tb} {Z : Wd} {j k : Nat} (h : Tok T Z j) (hk : j ≤ k) : Tok T Z k := ⟨h.cls, h.isa, fun i f e q => (h.fns i f e q).mono hk, fun i s f e1 e2 => (h.shs i s f e1 e2).mono hk, h.gls, h.blt, fun i e => let ⟨f, a, b⟩ := h.mus i e; ⟨f, a, b.mono hk⟩⟩
/-- one def more -/
theorem Tok.pushX {T T' : Tb} {Z : Wd} {k : Nat} (h : Tok T Z k) {f : Fn} (hf : f.pl = true → Fok Z (k + 1) f) (e1 : T'.fns = T.fns ++ [f]) (e2 : T'.shs = T.shs) (e3 : T'.gls = T.gls) (e4 : T'.cls = T.cls) (e5 : T'.isa = T.isa)
    (hs : ∀ s ∈ T.shs, s.1 = T.fns.length → Sok Z (k + 1) f s) (hmu : ∀ i, T'.mus.contains i = true → ∃ g, T'.fns[i]? = some g ∧ Mok Z (k + 1) g) : Tok T' Z (k + 1) := by
  have h := h.mono (Nat.le_succ k)
  refine ⟨by rw [e4]; exact h.cls, by rw [e4, e5]; exact h.isa, fun i g e => ?_, fun i s g e6 e7 => ?_, by rw [e3]; exact h.gls, h.blt, hmu⟩
  · rw [e1] at e
    by_cases hi : i < T.fns.length
    · rw [List.getElem?_append_left hi] at e; exact h.fns i g e
    · rw [List.getElem?_append_right (by omega)] at e
      cases q : i - T.fns.length with
      | zero => rw [q] at e; cases e; exact hf
      | succ n => rw [q] at e; cases e
  · rw [e2] at e6
    rw [e1] at e7
    by_cases hi : s.1 < T.fns.length
    · rw [List.getElem?_append_left hi] at e7; exact h.shs i s g e6 e7
    · rw [List.getElem?_append_right (by omega)] at e7
      cases q : s.1 - T.fns.length with
      | zero => rw [q] at e7; cases e7; exact hs s (List.mem_of_getElem? e6) (by omega)
      | succ n => rw [q] at e7; cases e7
/-- one def more -/
theorem Tok.push {T T' : Tb} {Z : Wd} {k : Nat} (h : Tok T Z k) {f : Fn} (hf : f.pl = true → Fok Z (k + 1) f) (e1 : T'.fns = T.fns ++ [f]) (e2 : T'.shs = T.shs) (e3 : T'.gls = T.gls) (e4 : T'.cls = T.cls) (e5 : T'.isa = T.isa)
    (hs : ∀ s ∈ T.shs, s.1 = T.fns.length → Sok Z (k + 1) f s) (e6 : T'.mus = T.mus := by rfl) : Tok T' Z (k + 1) := by
  refine h.pushX hf e1 e2 e3 e4 e5 hs fun i e => ?_
  rw [e6] at e
  obtain ⟨g, a, b⟩ := h.mus i e
  exact ⟨g, by rw [e1, List.getElem?_append_left (List.getElem?_eq_some_iff.mp a).1]; exact a, b.mono (Nat.le_succ k)⟩
/-- a def without defaults, called by places alone -/
theorem Tok.def {T T' : Tb} {Z : Wd} {k : Nat} (h : Tok T Z k) {x qual : Str} {params : Arguments} {body : List Stmt} {scope : Scope} {fa : Addr} {fd : FuncData} {N ps : List Str} {b : Ss} (F : L2.FunD Z.K x qual params body scope [] [] fa fd) (S : FnScope N ps scope) (hchk : b.chk T false N scope (undoc body) = true)
    (hm : Z.mg x = some (.ref fa)) (hb : L2.Binds Z.K fd ps []) (e1 : T'.fns = T.fns ++ [⟨x, ps.length, runD T ps.length N.length b, true⟩]) (e2 : T'.shs = T.shs) (e3 : T'.gls = T.gls) (e4 : T'.cls = T.cls) (e5 : T'.isa = T.isa) (hs : (T.shs.all fun s => s.1 != T.fns.length) = true) (e6 : T'.mus = T.mus := by rfl) : Tok T' Z (k + 1) :=
  h.push (fun _ => ⟨fa, fd, ps, def_ok h F S hchk, rfl, hm, F.kp, hb⟩) e1 e2 e3 e4 e5 (e6 := e6) fun s hs1 e => by
    have := List.all_eq_true.mp hs s hs1
    rw [e] at this
    simp at this
/-- the keyword-only ones in order: (true, j): the j-th keyword, (false, j): the j-th that lacks -/
def pick {α : Type} (sel : List (Bool × Nat)) (us mv ws : List α) : List α := us ++ sel.filterMap fun p => if p.1 = true then ws[p.2]? else mv[p.2]?
/-- a default as data -/
def dvD : He.Dv → D
  | .non => .none
  | .bl b => .bool b
  | .int i => .int i
  | .str x => .str x
  | _ => .none
theorem dv_dp {K : PySem.W.Frag} {G : Hp} {d : He.Dv} (h : dvOk d = true) : Dp K G (d.v K) (dvD d) := by
  cases d with
  | non => exact .non
  | bl b => exact .bl b
  | int i => exact .int i
  | str x => exact .str x
  | _ => cases h
/-- one way to call a def that has keyword-only parameters -/
structure Sh where
  f : Nat
  n : Nat
  ks : List Str
  ms : List (Str × He.Dv)
  sel : List (Bool × Nat)
def Sh.tup (s : Sh) : Nat × Nat × List Str × (List D → List D → List D) := (s.f, s.n, s.ks, fun ds es => pick s.sel ds (s.ms.map fun q => dvD q.2) es)
theorem xok_mk {Z : Wd} {C : Addr} {x : Str} (a : Z.mg x = some (.ref C)) (xi : x ≠ ("NoRoom" : Str) → PySem.W.excIn Z.K C [.type "ValueError", .type "Exception", .type "BaseException", .type "object"] "ValueError.__new__" = true) (kp : PySem.W.keepIn Z.K (.ref C) = true)
    (sb : PySem.W.subIn Z.K (.ref C) (.type "BaseException") = some true) (sv : PySem.W.subIn Z.K (.ref C) (.type "ValueError") = some true) (ty : PySem.W.typeIn Z.K (.ref C) = some (.type "type")) (hd : PySem.W.hasDictIn Z.K C = true)
    (hg : PySem.W.findIn Z.K (.ref C) "__getattribute__" = some (some (.builtin "BaseException.__getattribute__"))) (hk : PySem.W.findIn Z.K (.ref C) "__getattr__" = some none) (ha : PySem.W.findIn Z.K (.ref C) "__class__" = some (some (.builtin "object.__class__")))
    (hn : PySem.W.specialIn Z.K (.builtin "object.__class__") "__get__" = some (some (.builtin "getset_descriptor.__get__"))) (ht : PySem.W.takesIn Z.K (.builtin "object.__class__") = some true) (hm : PySem.W.mroIn Z.K C (.type "object") = some true) : Xok Z C x := by
  refine ⟨a, xi, kp, sb, ty, ?_, ⟨hg, hk, sb, hd, ha, hn, ht, hm⟩⟩
  have h : PySem.W.kitMeta "ValueError" = true := by decide +kernel
  show (if (Value.ref C == Value.type "ValueError") = true then some true else PySem.W.kitCls Z.K (.ref C) (.type "ValueError")) = some true
  rw [if_neg (show ¬ ((Value.ref C == Value.type "ValueError") = true) from by simp)]
  unfold PySem.W.kitCls
  simp only [h, if_true]
  exact sv
theorem xokB_ok {Z : Wd} {C : Addr} {x : Str} {h : Heap} (X : Z.K.In h) (G : h.Ns mainGlobals Z.mg) (c : xokB Z.K C x = true) : Xok Z C x := by
  unfold xokB isOk at c
  simp only [Bool.and_eq_true, Bool.or_eq_true, decide_eq_true_eq] at c
  obtain ⟨c1, c2, c3, c4, c5, c6, c7, c8, c9, c10, c11, c12, c13⟩ := c
  exact xok_mk (PySem.W.mg_of X G c1) (fun hne => c2.resolve_left hne) c3 c4 c5 c6 c7 c8 c9 c10 c11 c12 c13
def Gc.d : Gc → D
  | .dv d => dvD d
  | .tup ds => .tuple (ds.map dvD)
theorem dvAll_dp {K : PySem.W.Frag} {G : Hp} : ∀ {l : List He.Dv}, l.all dvOk = true → DpAll K G (l.map (He.Dv.v K)) (l.map dvD)
  | [], _ => .nil
  | q :: l, h => by
    rw [List.all_cons, Bool.and_eq_true] at h
    exact .cons (dv_dp h.1) (dvAll_dp h.2)
theorem gcB_ok {Z : Wd} {x : Str} {g : Gc} {h : Heap} (X : Z.K.In h) (G : h.Ns mainGlobals Z.mg) (c : gcB Z.K x g = true) : ∃ v u, Z.mg x = some u ∧ RelV v u ∧ ∀ G, Dp Z.K G v g.d := by
  cases g with
  | dv d =>
    unfold gcB at c
    rw [Bool.and_eq_true] at c
    cases q : PySem.W.nsIn Z.K mainGlobals x with
    | none => rw [q] at c; cases c.2
    | some o =>
      cases o with
      | none => rw [q] at c; cases c.2
      | some u => rw [q] at c; exact ⟨d.v Z.K, u, PySem.W.mg_of X G q, He.relB_ok c.2, fun G => dv_dp c.1⟩
  | tup ds =>
    unfold gcB at c
    simp only [Bool.and_eq_true, decide_eq_true_eq] at c
    obtain ⟨c1, c2, c3⟩ := c
    exact ⟨.ref (He.ga Z.K x), _, PySem.W.mg_of X G c2, rfl, fun G => .tup (He.tupB_ok c3 G) (dvAll_dp c1)⟩
def tb0 (cls : List Str) (isa : Nat → Nat → Bool) (gls : List (Str × Gc)) (shs : List Sh) : Tb := { fns := [], shs := shs.map Sh.tup, gls := gls.map fun p => (p.1, p.2.d), cls := cls, isa := isa }
theorem tok0 {Z : Wd} {h : Heap} {cls : List Str} {isa : Nat → Nat → Bool} {gls : List (Str × Gc)} {shs : List Sh} (X : Z.K.In h) (G : h.Ns mainGlobals Z.mg) (c : topB cls isa gls Z.K = true) (hca : Z.ca = caOf Z.K cls) : Tok (tb0 cls isa gls shs) Z 0 := by
  unfold topB at c
  simp only [Bool.and_eq_true] at c
  obtain ⟨c1, c2, c3, c4⟩ := c
  refine ⟨fun i x e => ?_, fun i j hi hj => ?_, fun i f e => ?_, fun i s f e1 e2 => ?_, fun i p e => ?_, fun x hx => ?_, fun i e => nomatch e⟩
  · have hi : i < cls.length := (List.getElem?_eq_some_iff.mp e).1
    have q := List.all_eq_true.mp c1 i (List.mem_range.mpr hi)
    have e : cls[i]? = some x := e
    have e2 : cls.getD i default = x := by rw [List.getD_eq_getElem?_getD, e]; rfl
    rw [e2] at q
    rw [hca]
    exact xokB_ok X G q
  · have q := List.all_eq_true.mp (List.all_eq_true.mp c2 i (List.mem_range.mpr hi)) j (List.mem_range.mpr hj)
    unfold isaB at q
    simp only [Bool.and_eq_true, decide_eq_true_eq] at q
    rw [hca]; exact q
  · cases e
  · cases e2
  · have e : (gls.map fun p => (p.1, p.2.d))[i]? = some p := e
    rw [List.getElem?_map] at e
    cases q : gls[i]? with
    | none => rw [q] at e; cases e
    | some g =>
      rw [q] at e
      have e : (g.1, g.2.d) = p := Option.some.inj e
      subst e
      exact gcB_ok X G (List.all_eq_true.mp c3 g (List.mem_of_getElem? q))
  · have q := of_decide_eq_true (List.all_eq_true.mp c4 x (show x ∈ bnamesA from hx))
    exact PySem.W.mg_none_of X G q
/-- what is looked at behind the top: the defs, and more -/
def obsR (fn : List He.DefD) (m : PySem.W.Frag → Bool) (K : PySem.W.Frag) : He.AlD := ((fn.all fun d => d.ok K && isOk K (He.fAd K d.at_) d.name) && m K, fn.map fun d => He.fnW K d.at_)
def SaysR (fn : List He.DefD) (m : PySem.W.Frag → Bool) (K : PySem.W.Frag) : Prop := obsR fn m K = He.valD fn
def obsRG (n : Nat) (fn : List He.DefD) (m : PySem.W.Frag → Bool) (g : Addr → Option Obj) : He.AlD := obsR fn m (He.frG g (He.asD g n))
def hookR (n : Nat) (fn : List He.DefD) (m : PySem.W.Frag → Bool) : PySem.W.Hook := lookHook n (obsR fn m) (He.valD fn) (SaysR fn m) fun _ seen => seen
theorem obsRG_eq {n : Nat} {fn : List He.DefD} {m : PySem.W.Frag → Bool} {g : Addr → Option Obj} {s : Shared} (h : ∀ a, g a = s.heap.get? a) : obsRG n fn m g = (hookR n fn m).obs s :=
  congrArg (obsRG n fn m) (funext h)
/-- of one def: what was looked at is what is wanted -/
theorem look_at {fn : List He.DefD} {K : PySem.W.Frag} {i : Nat} {d : He.DefD} (seen : (fn.map fun d => He.fnW K d.at_) = fn.map He.DefD.val) (h : fn[i]? = some d) : He.fnW K d.at_ = d.val := by
  have q := congrArg (fun l => l[i]?) seen
  simpa only [List.getElem?_map, h, Option.map_some, Option.some.injEq] using q
section
variable {fn : List He.DefD} {m : PySem.W.Frag → Bool} {K : PySem.W.Frag}
theorem SaysR.both (c : SaysR fn m K) : (fn.all fun d => d.ok K && isOk K (He.fAd K d.at_) d.name) = true ∧ m K = true := Bool.and_eq_true_iff.mp (congrArg Prod.fst (show obsR fn m K = (true, fn.map He.DefD.val) from c))
theorem SaysR.more (c : SaysR fn m K) : m K = true := c.both.2
theorem SaysR.def_ (c : SaysR fn m K) (i : Nat) {d : He.DefD} (h : fn[i]? = some d := by rfl) : ∃ fd, FunD K d.name d.qual d.params d.body d.scope (d.dvs K) (d.kws K) (He.fAd K d.at_) fd ∧ PySem.W.nsIn K mainGlobals d.name = some (some (.ref (He.fAd K d.at_))) := by
  obtain ⟨ok, named⟩ := Bool.and_eq_true_iff.mp (List.all_eq_true.mp c.both.1 d (List.mem_of_getElem? h))
  obtain ⟨fd, F⟩ := He.DefD.funD (look_at (congrArg Prod.snd (show obsR fn m K = (true, fn.map He.DefD.val) from c)) h) ok
  exact ⟨fd, F, of_decide_eq_true named⟩
end
theorem ints_dp {K : PySem.W.Frag} {G : Hp} : ∀ ns : List Int, DpAll K G (ns.map V.int) (ns.map PyData.int)
  | [] => .nil
  | n :: ns => .cons (.int n) (ints_dp ns)
theorem law_asks {K : PySem.W.Frag} {ca : Nat → Addr} {f : Fn} (har : f.ar = 1) (hm : ∀ ns : List Int, ns.length ≤ 63 → f.m [.list (ns.map PyData.int)] = .ok (.bool true)) (H : Hp) (a : Addr) (ns : List Int) (hl : ns.length ≤ 63) (hS : SqL K H a (ns.map V.int)) :
    spF K ca f [.ref a] H (fun v _ => v = .bl true) fun _ _ _ => False := by
  refine ⟨[.list (ns.map PyData.int)], H, har.symm, Same.refl H, .cons (.lst hS (ints_dp ns)) .nil, ?_⟩
  show PoG (Dp K) _ _ H H (f.m [.list (ns.map PyData.int)]) _
  rw [hm ns hl]
  intro u G' H' _ r
  cases r
  rfl
theorem law_walk {l : PySem.W.OpenLaw} {n k : Nat} {q : Program} {loose : List Str} {XP : (Str → Option Value) → Heap → Prop} {YP : World → Heap → Prop} {d : DefRec} {x : Str} (hn : l.most = some n) (hn2 : n ≤ sizeLine) (hdf : d.params.defaults = []) (hr : Room k callerA)
    (F : ∀ (w : World) (mg : Str → Option Value) (fa : Addr) (h : Heap), YP w h → h.Ns mainGlobals mg → mg d.name = some (.ref fa) → ∃ (K : PySem.W.Frag) (fd : FuncData) (sp : Sp), K.In h ∧ (∀ (s : Shared) (u : Value), BindsTo s fd ⟨[u], []⟩ [(x, u)]) ∧
      (∀ (H : Hp) (a : Addr) (ns : List Int), ns.length ≤ n → SqL K H a (ns.map V.int) → sp [.ref a] H (fun v _ => v = .bl true) fun _ _ _ => False) ∧ ∀ base : Heap, K.In base → base.Ns mainGlobals mg → FnOk l.prog w K mg base (L2.CX l.prog w) k fa fd [x] sp) :
    PySem.W.WalkO q loose XP YP l.row.toRowW d [] (fun f vs => PySem.call f vs) := by
  refine Att.attach_callB hn hdf fun w _ s1 mg _ fa _ _ _ _ a _ ns top Y _ _ _ at_ obj nums len _ given => ?_
  have ⟨K, fd, sp, kin, binds, asks, runs⟩ := F w mg fa s1.heap Y top.T.g at_
  exact law_call kin top.T.g top.T.b top.T.builtins top.T.nolimit given obj nums (Nat.le_trans len hn2) hr runs binds (fun G _ is => asks G a ns len is) fun _ _ _ ⟨_, _, _, _, _, _, _, _, _, _, _, _, raised⟩ => raised
end Rf
set_option linter.all false
namespace Rf
open PySem
/-- a def -/
def B_law_drawn : Ss := (.cons (.asg (.nm 3) (.bin .Mult (.cst (.int 7)) (.var 1)) []) (.cons (.ite (.cmp .NotEq (.var 0) (.lst .nil)) (.cons (.asg (.nm 3) (.idx (.var 0) (.bin .Mod (.var 1) (.bcl .len (.cons (.var 0) .nil)))) []) (.cons (.asg (.nm 4) (.bin .FloorDiv (.var 1) (.bcl .len (.cons (.var 0) .nil))) []) (.cons (.ite (.and (.cmp .GtE (.var 3) (.bin .Pow (.cst (.int 10)) (.cst (.int 18)))) (.cmp .Lt (.var 4) (.cst (.int 60)))) (.cons (.asg (.nm 5) (.bin .FloorDiv (.var 3) (.bin .Pow (.cst (.int 10)) (.cst (.int 18)))) []) (.cons (.whl 10000 (.and (.cmp .Gt (.var 5) (.cst (.int 0))) (.cmp .Gt (.var 4) (.cst (.int 0)))) (.cons (.asg (.nm 5) (.bin .FloorDiv (.var 5) (.cst (.int 1000000))) []) (.cons (.asg (.nm 4) (.bin .Sub (.var 4) (.cst (.int 1))) []) .nil))) (.cons (.ite (.cmp .Gt (.var 5) (.cst (.int 0))) (.cons (.ret (.bin .Mod (.bin .Mod (.var 5) (.cst (.int 1000000))) (.var 2)) []) .nil) .nil) .nil))) .nil) (.cons (.asg (.nm 3) (.bin .Add (.var 3) (.bin .Mult (.cst (.int 6553)) (.bin .FloorDiv (.var 1) (.bcl .len (.cons (.var 0) .nil))))) []) .nil)))) .nil) (.cons (.asg (.nm 3) (.bin .Mod (.bin .Add (.bin .Mult (.bin .Mod (.var 3) (.cst (.int 2147483563))) (.cst (.int 69069))) (.bin .Mult (.cst (.int 104723)) (.bin .Add (.var 1) (.cst (.int 1))))) (.cst (.int 2147483563))) []) (.cons (.asg (.nm 3) (.bin .Mod (.bin .Add (.bin .Mult (.var 3) (.var 3)) (.bin .FloorDiv (.var 3) (.cst (.int 3)))) (.cst (.int 2147483399))) []) (.cons (.ret (.bin .Mod (.bin .FloorDiv (.bin .Mod (.bin .Add (.bin .Mult (.var 3) (.var 3)) (.bin .FloorDiv (.var 3) (.cst (.int 7)))) (.cst (.int 2147483647))) (.cst (.int 11))) (.var 2)) []) .nil)))))
/-- a def -/
def B_law_flat : Ss := (.cons (.asg (.nm 1) (.lst .nil) []) (.cons (.forl (.nm 2) .seq (.cons (.var 0) .nil) (.cons (.asg (.nm 1) (.bin .Add (.var 1) (.bcl .list (.cons (.var 2) .nil))) []) .nil) []) (.cons (.ret (.var 1) []) .nil)))
/-- a def -/
def B_law_picture (f__law_drawn : Nat) : Ss := (.cons (.par 4 5 (.v (.idx (.lst (.cons (.cst (.int 2)) (.cons (.cst (.int 5)) (.cons (.cst (.int 100)) (.cons (.cst (.int 10)) .nil))))) (.fcl f__law_drawn (.cons (.var 0) (.cons (.var 1) (.cons (.cst (.int 4)) .nil)))))) (.o .nil) []) (.cons (.forl (.nm 6) .rng (.cons (.var 3) .nil) (.cons (.app 5 (.bcl .tuple (.cons (.cmpr (.fcl f__law_drawn (.cons (.var 0) (.cons (.bin .Add (.bin .Add (.bin .Add (.var 1) (.cst (.int 1))) (.bin .Mult (.var 2) (.var 6))) (.var 7)) (.cons (.var 4) .nil)))) (.nm 7) .rng (.cons (.var 2) .nil) .nil [7]) .nil)) []) .nil) []) (.cons (.ret (.bcl .tuple (.cons (.var 5) .nil)) [5]) .nil)))
/-- a def -/
def B_law_some (f__law_picture f__law_drawn : Nat) : Ss := (.cons (.ret (.fcl f__law_picture (.cons (.var 0) (.cons (.bin .Add (.var 1) (.cst (.int 2))) (.cons (.bin .Add (.cst (.int 1)) (.fcl f__law_drawn (.cons (.var 0) (.cons (.var 1) (.cons (.var 2) .nil))))) (.cons (.bin .Add (.cst (.int 1)) (.fcl f__law_drawn (.cons (.var 0) (.cons (.bin .Add (.var 1) (.cst (.int 1))) (.cons (.var 3) .nil))))) .nil))))) []) .nil)
/-- a def -/
def B_law_way (f__law_drawn : Nat) : Ss := (.cons (.own 4 (.cons (.fcl f__law_drawn (.cons (.var 0) (.cons (.var 1) (.cons (.var 2) .nil)))) .nil) []) (.cons (.forl (.nm 5) .rng (.cons (.bin .Sub (.var 3) (.cst (.int 1))) .nil) (.cons (.app 4 (.bcl .max (.cons (.cst (.int 0)) (.cons (.bcl .min (.cons (.bin .Sub (.var 2) (.cst (.int 1))) (.cons (.bin .Sub (.bin .Add (.vdx 4 (.neg (.cst (.int 1)))) (.fcl f__law_drawn (.cons (.var 0) (.cons (.bin .Add (.bin .Add (.var 1) (.cst (.int 1))) (.var 5)) (.cons (.cst (.int 3)) .nil))))) (.cst (.int 1))) .nil))) .nil))) []) .nil) []) (.cons (.ret (.bcl .tuple (.cons (.var 4) .nil)) [4]) .nil)))
/-- a def -/
def B_brightness (f_need_picture : Nat) : Ss := (.cons (.exp (.fcl f_need_picture (.cons (.var 0) .nil))) (.cons (.ret (.bcl .sum (.cons (.cm2 (.var 2) (.nm 1) .seq (.cons (.var 0) .nil) (.nm 2) .seq (.cons (.var 1) .nil) [1, 2] [2]) .nil)) []) .nil))
/-- a def -/
def B_cells_of (f_need_seam f_need_picture : Nat) : Ss := (.cons (.exp (.fcl f_need_picture (.cons (.var 0) .nil))) (.cons (.exp (.fcl f_need_seam (.cons (.var 0) (.cons (.var 1) .nil)))) (.cons (.ret (.bcl .tuple (.cons (.cmpr (.idx (.var 2) (.var 3)) (.t2 (.nm 2) (.nm 3)) .zip (.cons (.var 0) (.cons (.var 1) .nil)) .nil [2, 3]) .nil)) []) .nil)))
/-- a def -/
def B_counted (f_need_picture : Nat) : Ss := (.cons (.exp (.fcl f_need_picture (.cons (.var 0) .nil))) (.cons (.asg (.nm 1) (.cm2 (.var 3) (.nm 2) .seq (.cons (.var 0) .nil) (.nm 3) .seq (.cons (.var 2) .nil) [2, 3] [3]) []) (.cons (.ret (.cmpr (.tup (.cons (.var 3) (.cons (.met .count (.var 1) (.cons (.var 3) .nil)) .nil))) (.nm 3) .seq (.cons (.ssc false (.var 3) (.nm 3) .seq (.cons (.var 1) .nil) [3]) .nil) .nil [3]) []) .nil)))
/-- a def -/
def B_cut (f_without f_need_seam f_need_picture : Nat) : Ss := (.cons (.exp (.fcl f_need_picture (.cons (.var 0) .nil))) (.cons (.exp (.fcl f_need_seam (.cons (.var 0) (.cons (.var 1) .nil)))) (.cons (.ret (.ite (.cmp .Gt (.bcl .len (.cons (.idx (.var 0) (.cst (.int 0))) .nil)) (.cst (.int 1))) (.fcl f_without (.cons (.var 0) (.cons (.var 1) .nil))) (.cst .none)) []) .nil)))
/-- a def -/
def B_doubled (g_MOST_SIDE f_put_in f_means f_need_seam f_need_picture : Nat) : Ss := (.cons (.exp (.fcl f_need_picture (.cons (.var 0) .nil))) (.cons (.exp (.fcl f_need_seam (.cons (.var 0) (.cons (.var 1) .nil)))) (.cons (.asg (.nm 2) (.bcl .tuple (.cons (.cmpr (.bin .Add (.var 3) (.cst (.int 1))) (.nm 3) .seq (.cons (.var 1) .nil) .nil [3]) .nil)) []) (.cons (.ret (.ite (.cmp .Lt (.bcl .len (.cons (.idx (.var 0) (.cst (.int 0))) .nil)) (.glb g_MOST_SIDE)) (.fcl f_put_in (.cons (.var 0) (.cons (.var 2) (.cons (.fcl f_means (.cons (.var 0) (.cons (.var 1) .nil))) .nil)))) (.cst .none)) []) .nil))))
/-- a def -/
def B_is_cells (f_is_number g_MOST_CELL : Nat) : Ss := (.cons (.ret (.and (.isi (.var 0) "tuple") (.and (.cmp .Eq (.bcl .len (.cons (.var 0) .nil)) (.var 1)) (.bcl .all (.cons (.cmpr (.fcl f_is_number (.cons (.var 2) (.cons (.cst (.int 0)) (.cons (.glb g_MOST_CELL) .nil)))) (.nm 2) .seq (.cons (.var 0) .nil) .nil [2]) .nil)))) []) .nil)
/-- a def -/
def B_is_number : Ss := (.cons (.ret (.and (.isi (.var 0) "int") (.and (.nt (.isi (.var 0) "bool")) (.chn .LtE .LtE (.var 1) (.var 0) (.var 2)))) []) .nil)
/-- a def -/
def B_is_picture (f_is_row g_MOST_SIDE : Nat) : Ss := (.cons (.ite (.or (.nt (.isi (.var 0) "tuple")) (.or (.nt (.chn .LtE .LtE (.cst (.int 1)) (.bcl .len (.cons (.var 0) .nil)) (.glb g_MOST_SIDE))) (.nt (.isi (.idx (.var 0) (.cst (.int 0))) "tuple")))) (.cons (.ret (.cst (.bool false)) []) .nil) .nil) (.cons (.ret (.and (.chn .LtE .LtE (.cst (.int 1)) (.bcl .len (.cons (.idx (.var 0) (.cst (.int 0))) .nil)) (.glb g_MOST_SIDE)) (.bcl .all (.cons (.cmpr (.fcl f_is_row (.cons (.var 1) (.cons (.bcl .len (.cons (.idx (.var 0) (.cst (.int 0))) .nil)) .nil))) (.nm 1) .seq (.cons (.var 0) .nil) .nil [1]) .nil))) []) .nil))
/-- a def -/
def B_is_row (f_is_number g_MOST_CELL : Nat) : Ss := (.cons (.ret (.and (.isi (.var 0) "tuple") (.and (.cmp .Eq (.bcl .len (.cons (.var 0) .nil)) (.var 1)) (.bcl .all (.cons (.cmpr (.fcl f_is_number (.cons (.var 2) (.cons (.cst (.int 0)) (.cons (.glb g_MOST_CELL) .nil)))) (.nm 2) .seq (.cons (.var 0) .nil) .nil [2]) .nil)))) []) .nil)
/-- a def -/
def B_is_seam (f_is_way f_need_picture : Nat) : Ss := (.cons (.exp (.fcl f_need_picture (.cons (.var 1) .nil))) (.cons (.ret (.fcl f_is_way (.cons (.var 0) (.cons (.bcl .len (.cons (.idx (.var 1) (.cst (.int 0))) .nil)) (.cons (.bcl .len (.cons (.var 1) .nil)) .nil)))) []) .nil))
/-- a def -/
def B_is_way (f_is_number : Nat) : Ss := (.cons (.ite (.or (.nt (.isi (.var 0) "tuple")) (.or (.cmp .NotEq (.bcl .len (.cons (.var 0) .nil)) (.var 2)) (.nt (.bcl .all (.cons (.cmpr (.fcl f_is_number (.cons (.var 3) (.cons (.cst (.int 0)) (.cons (.bin .Sub (.var 1) (.cst (.int 1))) .nil)))) (.nm 3) .seq (.cons (.var 0) .nil) .nil [3]) .nil))))) (.cons (.ret (.cst (.bool false)) []) .nil) .nil) (.cons (.ret (.bcl .all (.cons (.cmpr (.cmp .Lt (.bcl .abs (.cons (.bin .Sub (.var 4) (.var 5)) .nil)) (.cst (.int 2))) (.t2 (.nm 4) (.nm 5)) .zip (.cons (.var 0) (.cons (.sl10 (.var 0) (.cst (.int 1))) .nil)) .nil [4, 5]) .nil)) []) .nil))
/-- a def -/
def B_law_k26 (f_counted f_mirrored f_cells_of f_size_of f_cut f_doubled f_put_back f__law_drawn f__law_way f__law_flat f_brightness f_is_picture f__law_some : Nat) : Ss := (.cons (.asg (.nm 1) (.fcl f__law_some (.cons (.var 0) (.cons (.cst (.int 0)) (.cons (.cst (.int 9)) (.cons (.cst (.int 7)) .nil))))) []) (.cons (.asg (.t2 (.nm 2) (.nm 3)) (.fcl f_size_of (.cons (.var 1) .nil)) []) (.cons (.forl (.nm 4) .rng (.cons (.cst (.int 3)) .nil) (.cons (.asg (.nm 5) (.fcl f__law_way (.cons (.var 0) (.cons (.bin .Add (.cst (.int 80)) (.bin .Mult (.cst (.int 10)) (.var 4))) (.cons (.var 2) (.cons (.var 3) .nil))))) []) (.cons (.asg (.nm 6) (.fcl f_cells_of (.cons (.var 1) (.cons (.var 5) .nil))) []) (.cons (.ite (.cmp .NotEq (.bcl .len (.cons (.var 6) .nil)) (.var 3)) (.cons (.ret (.cst (.bool false)) []) .nil) .nil) (.cons (.ite (.cmp .Gt (.var 2) (.cst (.int 1))) (.cons (.asg (.nm 7) (.fcl f_cut (.cons (.var 1) (.cons (.var 5) .nil))) []) (.cons (.ite (.or (.nt (.fcl f_is_picture (.cons (.var 7) .nil))) (.cmp .NotEq (.fcl f_size_of (.cons (.var 7) .nil)) (.tup (.cons (.bin .Sub (.var 2) (.cst (.int 1))) (.cons (.var 3) .nil))))) (.cons (.ret (.cst (.bool false)) []) .nil) .nil) (.cons (.ite (.cmp .NotEq (.fcl f_put_back (.cons (.var 7) (.cons (.var 5) (.cons (.var 6) .nil)))) (.var 1)) (.cons (.ret (.cst (.bool false)) []) .nil) .nil) (.cons (.ite (.cmp .NotEq (.bin .Add (.fcl f_brightness (.cons (.var 7) .nil)) (.bcl .sum (.cons (.var 6) .nil))) (.fcl f_brightness (.cons (.var 1) .nil))) (.cons (.ret (.cst (.bool false)) []) .nil) .nil) (.cons (.asg (.nm 8) (.fcl f__law_flat (.cons (.var 7) .nil)) []) (.cons (.ite (.cmp .NotEq (.bcl .sorted (.cons (.bin .Add (.var 8) (.bcl .list (.cons (.var 6) .nil))) .nil)) (.bcl .sorted (.cons (.fcl f__law_flat (.cons (.var 1) .nil)) .nil))) (.cons (.ret (.cst (.bool false)) []) .nil) .nil) (.cons (.ite (.cmp .NotEq (.fcl f_mirrored (.cons (.var 7) .nil)) (.fcl f_cut (.cons (.fcl f_mirrored (.cons (.var 1) .nil)) (.cons (.bcl .tuple (.cons (.cmpr (.bin .Sub (.bin .Sub (.var 2) (.cst (.int 1))) (.var 15)) (.nm 15) .seq (.cons (.var 5) .nil) .nil [15]) .nil)) .nil)))) (.cons (.ret (.cst (.bool false)) []) .nil) .nil) .nil))))))) .nil) (.cons (.asg (.nm 9) (.fcl f__law_way (.cons (.var 0) (.cons (.bin .Add (.cst (.int 110)) (.bin .Mult (.cst (.int 10)) (.var 4))) (.cons (.bin .Add (.var 2) (.cst (.int 1))) (.cons (.var 3) .nil))))) []) (.cons (.asg (.nm 10) (.bcl .tuple (.cons (.cmpr (.fcl f__law_drawn (.cons (.var 0) (.cons (.bin .Add (.bin .Add (.cst (.int 140)) (.bin .Mult (.cst (.int 8)) (.var 4))) (.var 17)) (.cons (.cst (.int 100)) .nil)))) (.nm 17) .rng (.cons (.var 3) .nil) .nil [17]) .nil)) []) (.cons (.asg (.nm 11) (.fcl f_put_back (.cons (.var 1) (.cons (.var 9) (.cons (.var 10) .nil)))) []) (.cons (.ite (.or (.cmp .NotEq (.fcl f_cut (.cons (.var 11) (.cons (.var 9) .nil))) (.var 1)) (.cmp .NotEq (.fcl f_cells_of (.cons (.var 11) (.cons (.var 9) .nil))) (.var 10))) (.cons (.ret (.cst (.bool false)) []) .nil) .nil) (.cons (.asg (.nm 12) (.fcl f_doubled (.cons (.var 1) (.cons (.var 5) .nil))) []) (.cons (.asg (.nm 13) (.bcl .tuple (.cons (.cmpr (.bin .Add (.var 15) (.cst (.int 1))) (.nm 15) .seq (.cons (.var 5) .nil) .nil [15]) .nil)) []) (.cons (.ite (.or (.cmp .NotEq (.fcl f_cut (.cons (.var 12) (.cons (.var 13) .nil))) (.var 1)) (.cmp .NotEq (.fcl f_size_of (.cons (.var 12) .nil)) (.tup (.cons (.bin .Add (.var 2) (.cst (.int 1))) (.cons (.var 3) .nil))))) (.cons (.ret (.cst (.bool false)) []) .nil) .nil) (.cons (.forl (.t3 (.nm 14) (.nm 15) (.nm 16)) .zip (.cons (.var 1) (.cons (.var 5) (.cons (.fcl f_cells_of (.cons (.var 12) (.cons (.var 13) .nil))) .nil))) (.cons (.ite (.or (.cmp .Lt (.var 16) (.bcl .min (.cons (.sl11 (.var 14) (.var 15) (.bin .Add (.var 15) (.cst (.int 2)))) .nil))) (.cmp .Gt (.var 16) (.bcl .max (.cons (.sl11 (.var 14) (.var 15) (.bin .Add (.var 15) (.cst (.int 2)))) .nil)))) (.cons (.ret (.cst (.bool false)) []) .nil) .nil) .nil) []) .nil)))))))))))) []) (.cons (.ret (.cmp .Eq (.fcl f_counted (.cons (.var 1) .nil)) (.fcl f_counted (.cons (.fcl f_mirrored (.cons (.var 1) .nil)) .nil))) []) .nil))))
/-- a def -/
def B_means (f_near_next : Nat) : Ss := (.cons (.ret (.bcl .tuple (.cons (.cmpr (.bin .FloorDiv (.bin .Add (.idx (.var 2) (.var 3)) (.fcl f_near_next (.cons (.var 2) (.cons (.var 3) .nil)))) (.cst (.int 2))) (.t2 (.nm 2) (.nm 3)) .zip (.cons (.var 0) (.cons (.var 1) .nil)) .nil [2, 3]) .nil)) []) .nil)
/-- a def -/
def B_mirrored (f_need_picture : Nat) : Ss := (.cons (.exp (.fcl f_need_picture (.cons (.var 0) .nil))) (.cons (.ret (.bcl .tuple (.cons (.cmpr (.rev (.var 1)) (.nm 1) .seq (.cons (.var 0) .nil) .nil [1]) .nil)) []) .nil))
/-- a def -/
def B_near_next : Ss := (.cons (.ret (.idx (.var 0) (.bcl .min (.cons (.bin .Sub (.bcl .len (.cons (.var 0) .nil)) (.cst (.int 1))) (.cons (.bin .Add (.var 1) (.cst (.int 1))) .nil)))) []) .nil)
/-- a def -/
def B_need_picture (f_is_picture c_NoPicture : Nat) : Ss := (.cons (.ite (.nt (.fcl f_is_picture (.cons (.var 0) .nil))) (.cons (.rais c_NoPicture) .nil) .nil) .nil)
/-- a def -/
def B_need_seam (f_is_seam c_NoSeam : Nat) : Ss := (.cons (.ite (.nt (.fcl f_is_seam (.cons (.var 1) (.cons (.var 0) .nil)))) (.cons (.rais c_NoSeam) .nil) .nil) .nil)
/-- a def -/
def B_put_back (g_MOST_SIDE f_put_in f_is_cells c_NoCells f_is_way c_NoSeam f_need_picture : Nat) : Ss := (.cons (.exp (.fcl f_need_picture (.cons (.var 0) .nil))) (.cons (.ite (.nt (.fcl f_is_way (.cons (.var 1) (.cons (.bin .Add (.bcl .len (.cons (.idx (.var 0) (.cst (.int 0))) .nil)) (.cst (.int 1))) (.cons (.bcl .len (.cons (.var 0) .nil)) .nil))))) (.cons (.rais c_NoSeam) .nil) .nil) (.cons (.ite (.nt (.fcl f_is_cells (.cons (.var 2) (.cons (.bcl .len (.cons (.var 0) .nil)) .nil)))) (.cons (.rais c_NoCells) .nil) .nil) (.cons (.ret (.ite (.cmp .Lt (.bcl .len (.cons (.idx (.var 0) (.cst (.int 0))) .nil)) (.glb g_MOST_SIDE)) (.fcl f_put_in (.cons (.var 0) (.cons (.var 1) (.cons (.var 2) .nil)))) (.cst .none)) []) .nil))))
/-- a def -/
def B_put_in : Ss := (.cons (.ret (.bcl .tuple (.cons (.cmpr (.bin .Add (.bin .Add (.sl01 (.var 3) (.var 4)) (.tup (.cons (.var 5) .nil))) (.sl10 (.var 3) (.var 4))) (.t3 (.nm 3) (.nm 4) (.nm 5)) .zip (.cons (.var 0) (.cons (.var 1) (.cons (.var 2) .nil))) .nil [3, 4, 5]) .nil)) []) .nil)
/-- a def -/
def B_size_of (f_need_picture : Nat) : Ss := (.cons (.exp (.fcl f_need_picture (.cons (.var 0) .nil))) (.cons (.ret (.tup (.cons (.bcl .len (.cons (.idx (.var 0) (.cst (.int 0))) .nil)) (.cons (.bcl .len (.cons (.var 0) .nil)) .nil))) []) .nil))
/-- a def -/
def B_without : Ss := (.cons (.ret (.bcl .tuple (.cons (.cmpr (.bin .Add (.sl01 (.var 2) (.var 3)) (.sl10 (.var 2) (.bin .Add (.var 3) (.cst (.int 1))))) (.t2 (.nm 2) (.nm 3)) .zip (.cons (.var 0) (.cons (.var 1) .nil)) .nil [2, 3]) .nil)) []) .nil)
end Rf
set_option Elab.async false
set_option linter.all false
namespace Rf
open PySem
/-- a comprehension behind its walk -/
def cmpR (F : D → Rs (Option D)) (its : List D) : Rs D := grd (few its.length) ((gather F its).map .list)
/-- what comes behind a value, told as a class so that no simp goes into it before the value is there -/
class Kt (α β : Type) where
  go : α → Rs β
def Rs.bk {α β : Type} (x : Rs α) [k : Kt α β] : Rs β := x.bind k.go
@[simp] theorem bk_ok {α β : Type} (a : α) (k : Kt α β) : (Rs.ok a).bk (k := k) = k.go a := id rfl
@[simp] theorem bk_ex {α β : Type} (e : Xn) (k : Kt α β) : (Rs.ex e : Rs α).bk (k := k) = .ex e := id rfl
@[simp] theorem bk_no {α β : Type} (k : Kt α β) : (Rs.no : Rs α).bk (k := k) = .no := id rfl
/-- a comprehension's turn, a loop's turn: closed till they are given what they walk -/
def turnE (T : Tb) (t : Tg) (c : Es) (e : E) (own : List Nat) (ρ : Env) (d : D) : Rs (Option D) := turnD t (fun ρ1 => (c.ev T ρ1).bind tst) (fun ρ1 => e.ev T ρ1) own ρ d
def stepS (T : Tb) (t : Tg) (b : Ss) (d : D) (ρ : Env) : Rs Fl := (setTg t d ρ).quiet.bind fun ρ2 => b.ex T ρ2
@[simp] theorem turnE_eq (T : Tb) (t : Tg) (c : Es) (e : E) (own : List Nat) (ρ : Env) (d : D) : turnE T t c e own ρ d = (setTg t d (wipeE ρ own)).bk (k := ⟨fun ρ1 => ((c.ev T ρ1).bk (k := ⟨tst⟩)).bk (k := ⟨fun b => if b = true then (e.ev T ρ1).map some else .ok none⟩)⟩) := id rfl
@[simp] theorem stepS_eq (T : Tb) (t : Tg) (b : Ss) (d : D) (ρ : Env) : stepS T t b d ρ = (setTg t d ρ).quiet.bk (k := ⟨fun ρ2 => b.ex T ρ2⟩) := id rfl
/-- a set by a comprehension: how many, or in order -/
def sscR (ln : Bool) (F : D → Rs (Option D)) (its : List D) : Rs D := ((gather F its).bind intsD).quiet.bind (sscD ln)
/-- a comprehension of two clauses -/
def cm2R (F : D → Rs (List D)) (its : List D) : Rs D := (gath2 F its).bind fun r => grd (few r.length) (.ok (.list r))
def turnF (T : Tb) (t : Tg) (k1 : It) (is1 : Es) (t1 : Tg) (e : E) (own own1 : List Nat) (ρ : Env) (d : D) : Rs (List D) := turn2 t (fun ρ1 => (is1.ev T ρ1).bind fun ds => (itD k1 ds).quiet) t1 (fun ρ2 => e.ev T ρ2) own own1 ρ d
@[simp] theorem turnF_eq (T : Tb) (t : Tg) (k1 : It) (is1 : Es) (t1 : Tg) (e : E) (own own1 : List Nat) (ρ : Env) (d : D) : turnF T t k1 is1 t1 e own own1 ρ d = (setTg t d (wipeE ρ own)).bk (k := ⟨fun ρ1 => ((is1.ev T ρ1).bk (k := ⟨fun ds => (itD k1 ds).quiet⟩)).bk (k := ⟨gather (turnE T t1 .nil e own1 ρ1)⟩)⟩) := id rfl
section
variable (T : Tb) (ρ : Env)
@[simp] theorem ev_var (i : Nat) : (E.var i).ev T ρ = varD ρ[i]? := id rfl
@[simp] theorem ev_cst (d : D) : (E.cst d).ev T ρ = .ok d := id rfl
@[simp] theorem ev_glb (i : Nat) : (E.glb i).ev T ρ = T.gl i := id rfl
@[simp] theorem ev_bin (o : Operator) (a b : E) : (E.bin o a b).ev T ρ = (a.ev T ρ).bk (k := ⟨fun x => (b.ev T ρ).bk (k := ⟨fun y => (binD o x y).quiet⟩)⟩) := id rfl
@[simp] theorem ev_neg (a : E) : (E.neg a).ev T ρ = (a.ev T ρ).bk (k := ⟨fun x => (negD x).quiet⟩) := id rfl
@[simp] theorem ev_nt (a : E) : (E.nt a).ev T ρ = (a.ev T ρ).bk (k := ⟨fun x => (asB x).map fun b => .bool (!b)⟩) := id rfl
@[simp] theorem ev_and (a b : E) : (E.and a b).ev T ρ = (a.ev T ρ).bk (k := ⟨fun x => (asB x).bk (k := ⟨fun c => if c = true then b.ev T ρ else .ok (.bool false)⟩)⟩) := id rfl
@[simp] theorem ev_or (a b : E) : (E.or a b).ev T ρ = (a.ev T ρ).bk (k := ⟨fun x => (asB x).bk (k := ⟨fun c => if c = true then .ok (.bool true) else b.ev T ρ⟩)⟩) := id rfl
@[simp] theorem ev_cmp (o : CmpOp) (a b : E) : (E.cmp o a b).ev T ρ = (a.ev T ρ).bk (k := ⟨fun x => (b.ev T ρ).bk (k := ⟨fun y => (cmpD o x y).quiet⟩)⟩) := id rfl
@[simp] theorem ev_chn (o p : CmpOp) (a b c : E) : (E.chn o p a b c).ev T ρ = (a.ev T ρ).bk (k := ⟨fun x => (b.ev T ρ).bk (k := ⟨fun y => (cmpB o x y).quiet.bk (k := ⟨fun k => if k = true then (c.ev T ρ).bk (k := ⟨fun z => (cmpD p y z).quiet⟩) else .ok (.bool false)⟩)⟩)⟩) := id rfl
@[simp] theorem ev_ite (c a b : E) : (E.ite c a b).ev T ρ = (c.ev T ρ).bk (k := ⟨fun x => (asB x).bk (k := ⟨fun k => if k = true then a.ev T ρ else b.ev T ρ⟩)⟩) := id rfl
@[simp] theorem ev_tup (es : Es) : (E.tup es).ev T ρ = (es.ev T ρ).map .tuple := id rfl
@[simp] theorem ev_lst (es : Es) : (E.lst es).ev T ρ = (es.ev T ρ).map .list := id rfl
@[simp] theorem ev_idx (a i : E) : (E.idx a i).ev T ρ = (a.ev T ρ).bk (k := ⟨fun x => (i.ev T ρ).bk (k := ⟨fun y => (idxD x y).quiet⟩)⟩) := id rfl
@[simp] theorem ev_vdx (v : Nat) (i : E) : (E.vdx v i).ev T ρ = (lookD ρ[v]?).bk (k := ⟨fun x => (i.ev T ρ).bk (k := ⟨fun y => (idxD x y).quiet⟩)⟩) := id rfl
@[simp] theorem ev_vln (v : Nat) : (E.vln v).ev T ρ = (lookD ρ[v]?).bk (k := ⟨fun x => (lenS x).quiet⟩) := id rfl
@[simp] theorem ev_sl01 (a h : E) : (E.sl01 a h).ev T ρ = (a.ev T ρ).bk (k := ⟨fun x => (h.ev T ρ).bk (k := ⟨fun y => (asI y).bk (k := ⟨fun k => (sliD x none (some k)).quiet⟩)⟩)⟩) := id rfl
@[simp] theorem ev_sl10 (a h : E) : (E.sl10 a h).ev T ρ = (a.ev T ρ).bk (k := ⟨fun x => (h.ev T ρ).bk (k := ⟨fun y => (asI y).bk (k := ⟨fun k => (sliD x (some k) none).quiet⟩)⟩)⟩) := id rfl
@[simp] theorem ev_sl11 (a l h : E) : (E.sl11 a l h).ev T ρ = (a.ev T ρ).bk (k := ⟨fun x => (l.ev T ρ).bk (k := ⟨fun y => (asI y).bk (k := ⟨fun k => (h.ev T ρ).bk (k := ⟨fun z => (asI z).bk (k := ⟨fun n => (sliD x (some k) (some n)).quiet⟩)⟩)⟩)⟩)⟩) := id rfl
@[simp] theorem ev_rev (a : E) : (E.rev a).ev T ρ = (a.ev T ρ).bk (k := ⟨fun x => (revD x).quiet⟩) := id rfl
@[simp] theorem ev_lrg1 (tp : Bool) (a : E) : (E.lrg1 tp a).ev T ρ = (a.ev T ρ).bk (k := ⟨fun x => (rngL tp [x]).quiet⟩) := id rfl
@[simp] theorem ev_lrg2 (tp : Bool) (a b : E) : (E.lrg2 tp a b).ev T ρ = (a.ev T ρ).bk (k := ⟨fun x => (b.ev T ρ).bk (k := ⟨fun y => (rngL tp [x, y]).quiet⟩)⟩) := id rfl
@[simp] theorem ev_bcl (f : Bf) (es : Es) : (E.bcl f es).ev T ρ = (es.ev T ρ).bk (k := ⟨fun ds => (bclD f ds).quiet⟩) := id rfl
@[simp] theorem ev_fcl (f : Nat) (es : Es) : (E.fcl f es).ev T ρ = (es.ev T ρ).bk (k := ⟨(T.fn f)⟩) := id rfl
@[simp] theorem ev_kcl (f sh : Nat) (es ks : Es) : (E.kcl f sh es ks).ev T ρ = (es.ev T ρ).bk (k := ⟨fun ds => (ks.ev T ρ).bk (k := ⟨fun zs => T.fn f (T.arr sh ds zs)⟩)⟩) := id rfl
@[simp] theorem ev_met (m : Mf) (a : E) (es : Es) : (E.met m a es).ev T ρ = (a.ev T ρ).bk (k := ⟨fun x => grd (metOk m x) ((es.ev T ρ).bk (k := ⟨fun ds => (metD m x ds).quiet⟩))⟩) := id rfl
@[simp] theorem ev_isi (a : E) (t : String) : (E.isi a t).ev T ρ = (a.ev T ρ).bk (k := ⟨fun x => ((isiD t x).map .bool).quiet⟩) := id rfl
end
def isxD (T : Tb) (c : Nat) : Option Sl → Rs D
  | some (.xn e) => grd (decide (e.1 < T.cls.length) && decide (c < T.cls.length)) (.ok (.bool (T.isa e.1 c)))
  | _ => .no
@[simp] theorem isxD_xn (T : Tb) (c : Nat) (e : Xn) : isxD T c (some (.xn e)) = grd (decide (e.1 < T.cls.length) && decide (c < T.cls.length)) (.ok (.bool (T.isa e.1 c))) := id rfl
section
variable (T : Tb) (ρ : Env)
@[simp] theorem ev_isx (v c : Nat) : (E.isx v c).ev T ρ = isxD T c ρ[v]? := by
  show (match ρ[v]? with | some (.xn e) => grd (decide (e.1 < T.cls.length) && decide (c < T.cls.length)) (Rs.ok (PyData.bool (T.isa e.1 c))) | _ => .no) = _
  cases ρ[v]? with
  | none => rfl
  | some s => cases s <;> rfl
@[simp] theorem ev_cmpr (e : E) (t : Tg) (k : It) (is c : Es) (own : List Nat) : (E.cmpr e t k is c own).ev T ρ = ((is.ev T ρ).bk (k := ⟨fun ds => (itD k ds).quiet⟩)).bk (k := ⟨(cmpR (turnE T t c e own ρ))⟩) := id rfl
@[simp] theorem ev_sst (e : E) : (E.sst e).ev T ρ = (e.ev T ρ).bk (k := ⟨sstD⟩) := id rfl
@[simp] theorem ev_ssc (ln : Bool) (e : E) (t : Tg) (k : It) (is : Es) (own : List Nat) : (E.ssc ln e t k is own).ev T ρ = ((is.ev T ρ).bk (k := ⟨fun ds => (itD k ds).quiet⟩)).bk (k := ⟨sscR ln (turnE T t .nil e own ρ)⟩) := id rfl
@[simp] theorem ev_cm2 (e : E) (t : Tg) (k : It) (is : Es) (t1 : Tg) (k1 : It) (is1 : Es) (own own1 : List Nat) : (E.cm2 e t k is t1 k1 is1 own own1).ev T ρ = ((is.ev T ρ).bk (k := ⟨fun ds => (itD k ds).quiet⟩)).bk (k := ⟨cm2R (turnF T t k1 is1 t1 e own own1 ρ)⟩) := id rfl
@[simp] theorem evs_nil : Es.nil.ev T ρ = .ok [] := id rfl
@[simp] theorem evs_cons (e : E) (es : Es) : (Es.cons e es).ev T ρ = (e.ev T ρ).bk (k := ⟨fun x => (es.ev T ρ).map fun r => x :: r⟩) := id rfl
@[simp] theorem ex_asg (t : Tg) (e : E) (fr : List Nat) : (S.asg t e fr).ex T ρ = (e.ev T (frzL fr ρ)).bk (k := ⟨fun d => (setTg t d (frzL fr ρ)).quiet.map .nx⟩) := id rfl
@[simp] theorem ex_own (i : Nat) (es : Es) (fr : List Nat) : (S.own i es fr).ex T ρ = (es.ev T (frzL fr ρ)).map fun ds => .nx ((frzL fr ρ).set i (.ow ds)) := id rfl
@[simp] theorem ex_par (i j : Nat) (a b : Pv) (fr : List Nat) : (S.par i j a b fr).ex T ρ = (a.ev T (frzL fr ρ)).bk (k := ⟨fun x => (b.ev T (frzL fr ρ)).map fun y => .nx (((frzL fr ρ).set i x).set j y)⟩) := id rfl
@[simp] theorem ex_star (o : Bool) (i j : Nat) (e : E) (fr : List Nat) : (S.star o i j e fr).ex T ρ = (e.ev T (frzL fr ρ)).bk (k := ⟨fun d => (starD d).map fun q => .nx (((frzL fr ρ).set i (.fz q.1)).set j (starS o q.2))⟩) := id rfl
@[simp] theorem ex_par3 (i j l : Nat) (a b d : Pv) (fr : List Nat) : (S.par3 i j l a b d fr).ex T ρ = (a.ev T (frzL fr ρ)).bk (k := ⟨fun x => (b.ev T (frzL fr ρ)).bk (k := ⟨fun y => (d.ev T (frzL fr ρ)).map fun z => .nx ((((frzL fr ρ).set i x).set j y).set l z)⟩)⟩) := id rfl
@[simp] theorem ex_aug (i : Nat) (o : Operator) (e : E) : (S.aug i o e).ex T ρ = (varD ρ[i]?).bk (k := ⟨fun x => (e.ev T ρ).bk (k := ⟨fun y => (binIntD o x y).quiet.map fun z => .nx (ρ.set i (.fz z))⟩)⟩) := id rfl
@[simp] theorem ex_rpl (i : Nat) (a : E) (qs : List (Str × Str)) : (S.rpl i a qs).ex T ρ = (a.ev T ρ).bk (k := ⟨fun d => (rplAll qs d).map fun z => .nx (ρ.set i (.fz z))⟩) := id rfl
@[simp] theorem ex_pop (t : Tg) (i : Nat) : (S.pop t i).ex T ρ = popD t i ρ := id rfl
@[simp] theorem ex_app (i : Nat) (e : E) (fr : List Nat) : (S.app i e fr).ex T ρ = appD (e.ev T) i (frzL fr ρ) := id rfl
@[simp] theorem ex_exp (e : E) : (S.exp e).ex T ρ = (e.ev T ρ).map fun _ => .nx ρ := id rfl
@[simp] theorem ex_ret (e : E) (fr : List Nat) : (S.ret e fr).ex T ρ = (e.ev T (frzL fr ρ)).map .rt := id rfl
@[simp] theorem ex_ite (c : E) (a b : Ss) : (S.ite c a b).ex T ρ = (tstE T c ρ).bk (k := ⟨fun k => if k = true then a.ex T ρ else b.ex T ρ⟩) := id rfl
@[simp] theorem ex_forl (t : Tg) (k : It) (is : Es) (b : Ss) (fr : List Nat) : (S.forl t k is b fr).ex T ρ = ((is.ev T (frzL fr ρ)).bk (k := ⟨fun ds => (itD k ds).quiet⟩)).bk (k := ⟨fun its => forD (stepS T t b) its (frzL fr ρ)⟩) := id rfl
@[simp] theorem ex_whl (n : Nat) (c : E) (b : Ss) : (S.whl n c b).ex T ρ = whlD (tstE T c) (b.ex T) n ρ := id rfl
@[simp] theorem ex_rais (cl : Nat) : (S.rais cl).ex T ρ = grd (decide (cl < T.cls.length)) (.ex (cl, none)) := id rfl
@[simp] theorem ex_brk : S.brk.ex T ρ = .ok (.bk ρ) := id rfl
@[simp] theorem ex_pass : S.pass.ex T ρ = .ok (.nx ρ) := id rfl
@[simp] theorem ex_tryx (b : Ss) (cl i : Nat) (h : Ss) : (S.tryx b cl i h).ex T ρ = tryD T cl (fun e => h.ex T ((blank ρ).set i (.xn e))) (b.ex T ρ) := id rfl
@[simp] theorem exs_nil : Ss.nil.ex T ρ = .ok (.nx ρ) := id rfl
@[simp] theorem exs_cons (s : S) (ss : Ss) : (Ss.cons s ss).ex T ρ = (s.ex T ρ).bk (k := ⟨fun f => seqF f (ss.ex T)⟩) := id rfl
@[simp] theorem pv_v (x : E) : (Pv.v x).ev T ρ = (x.ev T ρ).map .fz := id rfl
@[simp] theorem pv_o (es : Es) : (Pv.o es).ev T ρ = (es.ev T ρ).map .ow := id rfl
@[simp] theorem tst_e (c : E) : tstE T c ρ = (c.ev T (viewE ρ)).bk (k := ⟨asB⟩) := id rfl
end
@[simp] theorem bindA {α β γ : Type} (x : Rs α) (k : Kt α β) (g : Kt β γ) : (x.bk (k := k)).bk (k := g) = x.bk (k := ⟨fun a => (k.go a).bk (k := g)⟩) := by cases x <;> rfl
@[simp] theorem mapB {α β γ : Type} (x : Rs α) (f : α → β) (g : Kt β γ) : (x.map f).bk (k := g) = x.bk (k := ⟨fun a => g.go (f a)⟩) := by cases x <;> rfl
@[simp] theorem mapM {α β γ : Type} (x : Rs α) (f : α → β) (g : β → γ) : (x.map f).map g = x.map fun a => g (f a) := by cases x <;> rfl
@[simp] theorem bindM {α β γ : Type} (x : Rs α) (k : Kt α β) (g : β → γ) : (x.bk (k := k)).map g = x.bk (k := ⟨fun a => (k.go a).map g⟩) := by cases x <;> rfl
@[simp] theorem bind_bk {α β : Type} (x : Rs α) (f : α → Rs β) : x.bind f = x.bk (k := ⟨f⟩) := id rfl
@[simp] theorem map_ok {α β : Type} (f : α → β) (a : α) : (Rs.ok a).map f = .ok (f a) := id rfl
@[simp] theorem map_ex {α β : Type} (f : α → β) (e : Xn) : (Rs.ex e : Rs α).map f = .ex e := id rfl
@[simp] theorem map_no {α β : Type} (f : α → β) : (Rs.no : Rs α).map f = .no := id rfl
@[simp] theorem varD_fz (d : D) : varD (some (.fz d)) = .ok d := id rfl
@[simp] theorem lookD_fz (d : D) : lookD (some (.fz d)) = .ok d := id rfl
@[simp] theorem lookD_ow (ds : List D) : lookD (some (.ow ds)) = .ok (.list ds) := id rfl
@[simp] theorem seqF_nx (ρ : Env) (k : Env → Rs Fl) : seqF (.nx ρ) k = k ρ := id rfl
@[simp] theorem seqF_rt (d : D) (k : Env → Rs Fl) : seqF (.rt d) k = .ok (.rt d) := id rfl
@[simp] theorem seqF_bk (ρ : Env) (k : Env → Rs Fl) : seqF (.bk ρ) k = .ok (.bk ρ) := id rfl
@[simp] theorem seqF_ct (ρ : Env) (k : Env → Rs Fl) : seqF (.ct ρ) k = .ok (.ct ρ) := id rfl
@[simp] theorem tryD_ok (T : Tb) (cl : Nat) (h : Xn → Rs Fl) (f : Fl) : tryD T cl h (.ok f) = .ok f := id rfl
@[simp] theorem tryD_ex (T : Tb) (cl : Nat) (h : Xn → Rs Fl) (e : Xn) : tryD T cl h (.ex e) = grd (decide (e.1 < T.cls.length) && decide (cl < T.cls.length) && e.2.isNone) (if T.isa e.1 cl = true then caught (h e) else .ex e) := id rfl
@[simp] theorem caught_rt (d : D) : caught (.ok (.rt d)) = .ok (.rt d) := id rfl
@[simp] theorem asB_bool (b : Bool) : asB (.bool b) = .ok b := id rfl
@[simp] theorem asI_int (i : Int) : asI (.int i) = .ok i := id rfl
@[simp] theorem tst_nil : tst [] = .ok true := id rfl
@[simp] theorem tst_one (b : Bool) : tst [.bool b] = .ok b := id rfl
@[simp high] theorem at0 (a : Sl) (l : List Sl) : (a :: l)[0]? = some a := id rfl
@[simp high] theorem at1 (a b : Sl) (l : List Sl) : (a :: b :: l)[1]? = some b := id rfl
@[simp high] theorem at2 (a b c : Sl) (l : List Sl) : (a :: b :: c :: l)[2]? = some c := id rfl
@[simp high] theorem at3 (a b c d : Sl) (l : List Sl) : (a :: b :: c :: d :: l)[3]? = some d := id rfl
@[simp high] theorem at4 (a b c d e : Sl) (l : List Sl) : (a :: b :: c :: d :: e :: l)[4]? = some e := id rfl
@[simp high] theorem atS (a b c d e : Sl) (l : List Sl) (n : Nat) : (a :: b :: c :: d :: e :: l)[n + 5]? = l[n]? := id rfl
@[simp] theorem vw_fz (d : D) : vw (.fz d) = .fz d := id rfl
@[simp] theorem vw_ow (d : List D) : vw (.ow d) = .fz (.list d) := id rfl
@[simp] theorem vw_un : vw .un = .un := id rfl
@[simp] theorem vw_xn (e : Xn) : vw (.xn e) = .xn e := id rfl
@[simp] theorem vw_pt (k : Nat) : vw (.pt k) = .pt k := id rfl
@[simp] theorem viewE_nil : viewE [] = [] := id rfl
@[simp] theorem viewE_cons (s : Sl) (ρ : Env) : viewE (s :: ρ) = vw s :: viewE ρ := id rfl
@[simp] theorem blank_nil : blank [] = [] := id rfl
@[simp] theorem blank_cons (s : Sl) (ρ : Env) : blank (s :: ρ) = .un :: blank ρ := id rfl
/-- the same with a count -/
def frzA (fr : List Nat) : Nat → Env → Env
  | _, [] => []
  | n, s :: ρ => (if fr.contains n = true then vw s else s) :: frzA fr (n + 1) ρ
theorem frzA_eq (fr : List Nat) : ∀ (ρ : Env) (n : Nat), ρ.mapIdx (fun i s => if fr.contains (n + i) = true then vw s else s) = frzA fr n ρ
  | [], _ => rfl
  | s :: ρ, n => by
    rw [List.mapIdx_cons]
    unfold frzA
    have := frzA_eq fr ρ (n + 1)
    have e : (fun i s => if fr.contains (n + (i + 1)) = true then vw s else s) = (fun i s => if fr.contains (n + 1 + i) = true then vw s else s) := by
      funext i s
      rw [show n + (i + 1) = n + 1 + i by omega]
    rw [e, this]
    rfl
@[simp] theorem frzL_cons (a : Nat) (l : List Nat) (ρ : Env) : frzL (a :: l) ρ = frzA (a :: l) 0 ρ := by
  rw [← frzA_eq]
  show frzP (fun i => (a :: l).contains i) ρ = _
  unfold frzP
  simp only [Nat.zero_add]
@[simp] theorem frzA_nil (fr : List Nat) (n : Nat) : frzA fr n [] = [] := id rfl
@[simp] theorem frzA_cons (fr : List Nat) (n : Nat) (s : Sl) (ρ : Env) : frzA fr n (s :: ρ) = (if fr.contains n = true then vw s else s) :: frzA fr (n + 1) ρ := id rfl
@[simp] theorem setTg_eq (t : Tg) (d : D) (ρ : Env) : setTg t d ρ = (bindTg t d).map (setAllE ρ) := id rfl
@[simp] theorem bindTg_nm (i : Nat) (d : D) : bindTg (.nm i) d = .ok [(i, d)] := id rfl
@[simp] theorem bindTg_t2 (a b : Tg) (x y : D) : bindTg (.t2 a b) (.tuple [x, y]) = (bindTg a x).bk (k := ⟨fun l => (bindTg b y).map fun r => l ++ r⟩) := id rfl
@[simp] theorem bindTg_t3 (a b c : Tg) (x y z : D) : bindTg (.t3 a b c) (.tuple [x, y, z]) = (bindTg a x).bk (k := ⟨fun l => (bindTg b y).bk (k := ⟨fun r => (bindTg c z).map fun q => l ++ (r ++ q)⟩)⟩) := id rfl
@[simp] theorem bindTg_t4 (a b c e : Tg) (x y z w : D) : bindTg (.t4 a b c e) (.tuple [x, y, z, w]) = (bindTg a x).bk (k := ⟨fun l => (bindTg b y).bk (k := ⟨fun r => (bindTg c z).bk (k := ⟨fun q => (bindTg e w).map fun o => l ++ (r ++ (q ++ o))⟩)⟩)⟩) := id rfl
@[simp] theorem setAllE_nil (ρ : Env) : setAllE ρ [] = ρ := id rfl
@[simp] theorem setAllE_cons (ρ : Env) (b : Nat × D) (bs : List (Nat × D)) : setAllE ρ (b :: bs) = setAllE (ρ.set b.1 (.fz b.2)) bs := id rfl
@[simp] theorem wipeE_nil (ρ : Env) : wipeE ρ [] = ρ := id rfl
@[simp] theorem wipeE_cons (ρ : Env) (v : Nat) (vs : List Nat) : wipeE ρ (v :: vs) = (wipeE ρ vs).set v .un := id rfl
section
variable (i j : Int) (b : Bool)
@[simp] theorem add_int : binD .Add (.int i) (.int j) = .ok (.int (i + j)) := id rfl
@[simp] theorem sub_int : binD .Sub (.int i) (.int j) = .ok (.int (i - j)) := id rfl
@[simp] theorem neg_int : negD (.int i) = .ok (.int (-i)) := id rfl
@[simp] theorem bin_int1 : binIntD .Add (.int i) (.int j) = .ok (.int (i + j)) := id rfl
@[simp] theorem bin_int2 : binIntD .Sub (.int i) (.int j) = .ok (.int (i - j)) := id rfl
@[simp] theorem len_list (xs : List D) : bclD .len [.list xs] = .ok (.int xs.length) := id rfl
@[simp] theorem len_tuple (xs : List D) : bclD .len [.tuple xs] = .ok (.int xs.length) := id rfl
@[simp] theorem lenS_list (xs : List D) : lenS (.list xs) = .ok (.int xs.length) := id rfl
@[simp] theorem lenS_tuple (xs : List D) : lenS (.tuple xs) = .ok (.int xs.length) := id rfl
@[simp] theorem tup_list (xs : List D) : bclD .tuple [.list xs] = .ok (.tuple xs) := id rfl
@[simp] theorem tup_tuple (xs : List D) : bclD .tuple [.tuple xs] = .ok (.tuple xs) := id rfl
@[simp] theorem list_list (xs : List D) : bclD .list [.list xs] = .ok (.list xs) := id rfl
@[simp] theorem list_tuple (xs : List D) : bclD .list [.tuple xs] = .ok (.list xs) := id rfl
@[simp] theorem int_int : bclD .int [.int i] = .ok (.int i) := id rfl
@[simp] theorem int_bool : bclD .int [.bool b] = .ok (.int (if b then 1 else 0)) := id rfl
@[simp] theorem abs_int : bclD .abs [.int i] = .ok (.int (if i < 0 then -i else i)) := id rfl
@[simp] theorem max_int : bclD .max [.int i, .int j] = .ok (.int (if j > i then j else i)) := id rfl
@[simp] theorem min_int : bclD .min [.int i, .int j] = .ok (.int (if j < i then j else i)) := id rfl
@[simp] theorem cmpD_eq (o : CmpOp) (d e : D) : cmpD o d e = (cmpB o d e).map .bool := id rfl
@[simp] theorem lt_int : cmpB .Lt (.int i) (.int j) = .ok (decide (i < j)) := id rfl
@[simp] theorem le_int : cmpB .LtE (.int i) (.int j) = .ok (decide (i ≤ j)) := id rfl
@[simp] theorem gt_int : cmpB .Gt (.int i) (.int j) = .ok (decide (j < i)) := id rfl
@[simp] theorem ge_int : cmpB .GtE (.int i) (.int j) = .ok (decide (j ≤ i)) := id rfl
def isNo : D → Bool
  | .none => true
  | _ => false
@[simp] theorem is_none (d : D) : cmpB .Is d .none = .ok (isNo d) := by cases d <;> rfl
@[simp] theorem isnot_none (d : D) : cmpB .IsNot d .none = .ok (!isNo d) := by cases d <;> rfl
@[simp] theorem isNo_none : isNo .none = true := id rfl
@[simp] theorem isNo_int : isNo (.int i) = false := id rfl
@[simp] theorem isNo_boo : isNo (.bool b) = false := id rfl
@[simp] theorem isNo_str (s : Str) : isNo (.str s) = false := id rfl
@[simp] theorem isNo_lst (l : List D) : isNo (.list l) = false := id rfl
@[simp] theorem isNo_tup (l : List D) : isNo (.tuple l) = false := id rfl
@[simp] theorem is_bool (a b : Bool) : cmpB .Is (.bool a) (.bool b) = .ok (decide (a = b)) := id rfl
@[simp] theorem isnot_bool (a b : Bool) : cmpB .IsNot (.bool a) (.bool b) = .ok (!decide (a = b)) := id rfl
end
end Rf
set_option Elab.async false
set_option linter.all false
set_option autoImplicit false
set_option maxHeartbeats 1000000
namespace Rf
open PySem L2
def tu {α : Type} (f : α → D) (l : List α) : D := .tuple (l.map f)
def li {α : Type} (f : α → D) (l : List α) : D := .list (l.map f)
def pr {α β : Type} (f : α → D) (g : β → D) (p : α × β) : D := .tuple [f p.1, g p.2]
def op {α : Type} (f : α → D) : Option α → D
  | none => .none
  | some a => f a
@[simp] theorem isNo_tu {α : Type} (f : α → D) (l : List α) : isNo (tu f l) = false := id rfl
@[simp] theorem isNo_li {α : Type} (f : α → D) (l : List α) : isNo (li f l) = false := id rfl
@[simp] theorem isNo_pr {α β : Type} (f : α → D) (g : β → D) (p : α × β) : isNo (pr f g p) = false := id rfl
theorem isNo_op {α : Type} {f : α → D} (h : ∀ a, isNo (f a) = false) (o : Option α) : isNo (op f o) = o.isNone := by
  cases o with
  | none => rfl
  | some a => exact h a
abbrev row : List Int → D := tu .int
abbrev pic : List (List Int) → D := tu row
/-- equality tells the values apart -/
structure Enc {α : Type} (n : Nat) (f : α → D) : Prop where
  eqv : ∀ a b, (PyData.eqv (f a) (f b) = true) ↔ a = b
  lay : ∀ a, (f a).canLay0 = true
  dep : ∀ a, (f a).depth ≤ n
theorem Enc.mono {α : Type} {n m : Nat} {f : α → D} (h : Enc n f) (k : n ≤ m) : Enc m f := ⟨h.eqv, h.lay, fun a => Nat.le_trans (h.dep a) k⟩
theorem eqvAll_map {α : Type} {n : Nat} {f : α → D} (h : Enc n f) : ∀ l m : List α, (PyData.eqvAll (l.map f) (m.map f) = true) ↔ l = m
  | [], [] => by simp [PyData.eqvAll]
  | [], _ :: _ => by simp [PyData.eqvAll]
  | _ :: _, [] => by simp [PyData.eqvAll]
  | a :: l, b :: m => by
    have i := eqvAll_map h l m
    simp only [List.map_cons, PyData.eqvAll, Bool.and_eq_true, h.eqv, i, List.cons.injEq]
theorem layAll_map {α : Type} {n : Nat} {f : α → D} (h : Enc n f) : ∀ l : List α, PyData.canLayAll0 (l.map f) = true
  | [] => rfl
  | a :: l => by simp [PyData.canLayAll0, h.lay, layAll_map h l]
theorem enc_int : Enc 1 PyData.int := ⟨fun a b => by simp [PyData.eqv], fun a => by simp [PyData.canLay0], fun a => by simp [PyData.depth]⟩
theorem depAll_map {α : Type} {n : Nat} {f : α → D} (h : Enc n f) : ∀ l : List α, PyData.depthAll (l.map f) ≤ n
  | [] => by simp [PyData.depthAll]
  | a :: l => by
    have := h.dep a
    have := depAll_map h l
    simp only [List.map_cons, PyData.depthAll]
    omega
theorem Enc.tu {α : Type} {n : Nat} {f : α → D} (h : Enc n f) : Enc (n + 1) (tu f) := ⟨fun a b => by unfold Rf.tu; simp only [PyData.eqv]; exact eqvAll_map h a b, fun a => by unfold Rf.tu; simp only [PyData.canLay0]; exact layAll_map h a, fun a => by
  have := depAll_map h a
  unfold Rf.tu
  simp only [PyData.depth]
  omega⟩
theorem Enc.li {α : Type} {n : Nat} {f : α → D} (h : Enc n f) : Enc (n + 1) (li f) := ⟨fun a b => by unfold Rf.li; simp only [PyData.eqv]; exact eqvAll_map h a b, fun a => by unfold Rf.li; simp only [PyData.canLay0]; exact layAll_map h a, fun a => by
  have := depAll_map h a
  unfold Rf.li
  simp only [PyData.depth]
  omega⟩
theorem Enc.pr {α β : Type} {n : Nat} {f : α → D} {g : β → D} (h : Enc n f) (k : Enc n g) : Enc (n + 1) (pr f g) := ⟨fun a b => by
    unfold Rf.pr
    simp only [PyData.eqv, PyData.eqvAll, Bool.and_eq_true, h.eqv, k.eqv, and_true, Prod.ext_iff], fun a => by
    unfold Rf.pr
    simp [PyData.canLay0, PyData.canLayAll0, h.lay, k.lay], fun a => by
    have := h.dep a.1
    have := k.dep a.2
    unfold Rf.pr
    simp only [PyData.depth, PyData.depthAll]
    omega⟩
theorem Enc.op {α : Type} {n : Nat} {f : α → D} (h : Enc n f) (hn : ∀ a, PyData.eqv .none (f a) = false ∧ PyData.eqv (f a) .none = false) (h1 : 1 ≤ n) : Enc n (op f) := ⟨fun a b => by
    cases a <;> cases b <;> simp [Rf.op, h.eqv, (hn _).1, (hn _).2, PyData.eqv], fun a => by
    cases a
    · rfl
    · exact h.lay _, fun a => by
    cases a
    · simpa [Rf.op, PyData.depth] using h1
    · exact h.dep _⟩
theorem shaped_enc {α : Type} {n : Nat} {f : α → D} (h : Enc n f) (hn : n ≤ 64) (a : α) : SeqAt.shaped (f a) = true := by
  unfold SeqAt.shaped
  have := h.dep a
  simp only [h.lay, Bool.true_and, decide_eq_true_eq]
  omega
theorem eq_enc {α : Type} [DecidableEq α] {n : Nat} {f : α → D} (h : Enc n f) (hn : n ≤ 64) (a b : α) : cmpB .Eq (f a) (f b) = .ok (decide (a = b)) := by
  show eqD (f a) (f b) = _
  unfold eqD
  rw [shaped_enc h hn, shaped_enc h hn]
  show Rs.ok _ = _
  have := h.eqv a b
  by_cases e : a = b
  · rw [this.mpr e]; simp [e]
  · have q : PyData.eqv (f a) (f b) = false := by
      cases z : PyData.eqv (f a) (f b) with
      | false => rfl
      | true => exact absurd (this.mp z) e
    rw [q]; simp [e]
theorem ne_enc {α : Type} [DecidableEq α] {n : Nat} {f : α → D} (h : Enc n f) (hn : n ≤ 64) (a b : α) : cmpB .NotEq (f a) (f b) = .ok (!decide (a = b)) := by
  show (cmpB .Eq (f a) (f b)).map not = _
  rw [eq_enc h hn]; rfl
theorem enc_row : Enc 2 row := enc_int.tu
theorem enc_pic : Enc 3 pic := enc_row.tu
@[simp] theorem eq_int (i j : Int) : cmpB .Eq (.int i) (.int j) = .ok (decide (i = j)) := eq_enc enc_int (by decide) i j
@[simp] theorem ne_int (i j : Int) : cmpB .NotEq (.int i) (.int j) = .ok (!decide (i = j)) := ne_enc enc_int (by decide) i j
@[simp] theorem eq_row (i j : List Int) : cmpB .Eq (row i) (row j) = .ok (decide (i = j)) := eq_enc enc_row (by decide) i j
@[simp] theorem ne_row (i j : List Int) : cmpB .NotEq (row i) (row j) = .ok (!decide (i = j)) := ne_enc enc_row (by decide) i j
@[simp] theorem eq_pic (i j : List (List Int)) : cmpB .Eq (pic i) (pic j) = .ok (decide (i = j)) := eq_enc enc_pic (by decide) i j
@[simp] theorem ne_pic (i j : List (List Int)) : cmpB .NotEq (pic i) (pic j) = .ok (!decide (i = j)) := ne_enc enc_pic (by decide) i j
def getI {α : Type} [Inhabited α] (l : List α) (i : Int) : α := (atI l i).getD default
theorem atI_some {α : Type} [Inhabited α] {l : List α} {i : Int} (h1 : -(l.length : Int) ≤ i) (h2 : i < l.length) : atI l i = some (getI l i) := by
  have h : (atI l i).isSome := by
    unfold atI ixN
    by_cases h0 : 0 ≤ i
    · rw [if_pos h0, if_pos h2]; simp; omega
    · rw [if_neg h0, if_pos h1]; simp; omega
  unfold getI
  cases q : atI l i with
  | none => rw [q] at h; cases h
  | some a => rfl
theorem getI_nat {α : Type} [Inhabited α] (l : List α) (i : Nat) : getI l (i : Int) = l.getD i default := by
  unfold getI atI ixN
  by_cases h : (i : Int) < l.length
  · rw [if_pos (by omega), if_pos h]; simp [List.getD_eq_getElem?_getD]
  · rw [if_pos (by omega), if_neg h]; simp [List.getD_eq_getElem?_getD, List.getElem?_eq_none_iff.mpr (show l.length ≤ i by omega)]
theorem getI_pos {α : Type} [Inhabited α] (l : List α) {i : Int} (h : 0 ≤ i) : getI l i = l.getD i.toNat default := by
  obtain ⟨k, rfl⟩ := Int.eq_ofNat_of_zero_le h
  rw [getI_nat]; rfl
theorem getI_neg {α : Type} [Inhabited α] (l : List α) {i : Int} (h : i < 0) (h2 : -(l.length : Int) ≤ i) : getI l i = l.getD (i + l.length).toNat default := by
  unfold getI atI ixN
  rw [if_neg (by omega), if_pos h2]; simp [List.getD_eq_getElem?_getD]
theorem getI_mem {α : Type} [Inhabited α] {l : List α} {i : Int} (h1 : -(l.length : Int) ≤ i) (h2 : i < l.length) : getI l i ∈ l := by
  by_cases h : 0 ≤ i
  · rw [getI_pos l h, List.getD_eq_getElem?_getD]
    have : i.toNat < l.length := by omega
    simp [this]
  · rw [getI_neg l (by omega) h1, List.getD_eq_getElem?_getD]
    have : (i + l.length).toNat < l.length := by omega
    simp [this]
theorem atI_map {α β : Type} (f : α → β) (l : List α) (i : Int) : atI (l.map f) i = (atI l i).map f := by
  unfold atI
  rw [List.length_map]
  cases ixN l.length i <;> simp
theorem idx_tu {α : Type} [Inhabited α] (f : α → D) (l : List α) {i : Int} (h1 : -(l.length : Int) ≤ i) (h2 : i < l.length) : idxD (tu f l) (.int i) = .ok (f (getI l i)) := by
  show (match atI (l.map f) i with | some d => Rs.ok d | none => .no) = _
  rw [atI_map, atI_some h1 h2]; rfl
theorem idx_li {α : Type} [Inhabited α] (f : α → D) (l : List α) {i : Int} (h1 : -(l.length : Int) ≤ i) (h2 : i < l.length) : idxD (li f l) (.int i) = .ok (f (getI l i)) := by
  show (match atI (l.map f) i with | some d => Rs.ok d | none => .no) = _
  rw [atI_map, atI_some h1 h2]; rfl
theorem atI_zero {α : Type} (x : α) (xs : List α) : atI (x :: xs) 0 = some x := by
  unfold atI ixN
  rw [if_pos (by omega), if_pos (by simp only [List.length_cons]; omega)]; rfl
@[simp] theorem idx_zero (x : D) (xs : List D) : idxD (.tuple (x :: xs)) (.int 0) = .ok x := by
  show (match atI (x :: xs) 0 with | some d => Rs.ok d | none => .no) = _
  rw [atI_zero]
@[simp] theorem idx_zeroL (x : D) (xs : List D) : idxD (.list (x :: xs)) (.int 0) = .ok x := by
  show (match atI (x :: xs) 0 with | some d => Rs.ok d | none => .no) = _
  rw [atI_zero]
section
variable {α β : Type} (f : α → D) (g : β → D) (l m : List α)
@[simp] theorem len_tu : bclD .len [tu f l] = .ok (.int l.length) := by show Rs.ok (PyData.int ((l.map f).length : Nat)) = _; rw [List.length_map]
@[simp] theorem len_li : bclD .len [li f l] = .ok (.int l.length) := by show Rs.ok (PyData.int ((l.map f).length : Nat)) = _; rw [List.length_map]
@[simp] theorem lenS_tu : lenS (tu f l) = .ok (.int l.length) := by show Rs.ok (PyData.int ((l.map f).length : Nat)) = _; rw [List.length_map]
@[simp] theorem lenS_li : lenS (li f l) = .ok (.int l.length) := by show Rs.ok (PyData.int ((l.map f).length : Nat)) = _; rw [List.length_map]
@[simp] theorem its_tu : itsD (tu f l) = .ok (l.map f) := id rfl
@[simp] theorem its_li : itsD (li f l) = .ok (l.map f) := id rfl
@[simp] theorem isi_tu (t : String) : isiD t (tu f l) = .ok (t == "tuple") := id rfl
@[simp] theorem isi_li (t : String) : isiD t (li f l) = .ok (t == "list") := id rfl
@[simp] theorem isi_tuple (t : String) (xs : List D) : isiD t (.tuple xs) = .ok (t == "tuple") := id rfl
@[simp] theorem isi_list (t : String) (xs : List D) : isiD t (.list xs) = .ok (t == "list") := id rfl
@[simp] theorem isi_int (t : String) (i : Int) : isiD t (.int i) = .ok (t == "int") := id rfl
@[simp] theorem isi_str (t : String) (i : Str) : isiD t (.str i) = .ok (t == "str") := id rfl
@[simp] theorem isi_none (t : String) : isiD t .none = .ok false := id rfl
@[simp] theorem isi_bool (t : String) (i : Bool) : isiD t (.bool i) = .ok (t == "bool" || t == "int") := id rfl
@[simp] theorem tuple_li : bclD .tuple [li f l] = .ok (tu f l) := id rfl
@[simp] theorem tuple_tu : bclD .tuple [tu f l] = .ok (tu f l) := id rfl
@[simp] theorem list_li : bclD .list [li f l] = .ok (li f l) := id rfl
@[simp] theorem list_tu : bclD .list [tu f l] = .ok (li f l) := id rfl
@[simp] theorem rev_tu : revD (tu f l) = .ok (tu f l.reverse) := by show Rs.ok (PyData.tuple (l.map f).reverse) = _; rw [← List.map_reverse]; rfl
@[simp] theorem rev_li : revD (li f l) = .ok (li f l.reverse) := by show Rs.ok (PyData.list (l.map f).reverse) = _; rw [← List.map_reverse]; rfl
theorem few_of {n : Nat} (h : n < 1000000) : few n = true := few_iff.mpr h
theorem add_tu (h : l.length + m.length < 1000000) : binD .Add (tu f l) (tu f m) = .ok (tu f (l ++ m)) := by
  show grd (few ((l.map f).length + (m.map f).length)) (Rs.ok (PyData.tuple (l.map f ++ m.map f))) = _
  rw [List.length_map, List.length_map, few_of h, ← List.map_append]; rfl
theorem add_li (h : l.length + m.length < 1000000) : binD .Add (li f l) (li f m) = .ok (li f (l ++ m)) := by
  show grd (few ((l.map f).length + (m.map f).length)) (Rs.ok (PyData.list (l.map f ++ m.map f))) = _
  rw [List.length_map, List.length_map, few_of h, ← List.map_append]; rfl
theorem cutD_map (lo hi : Option Int) : cutD (l.map f) lo hi = (cutD l lo hi).map f := by
  unfold cutD
  rw [List.length_map, List.map_take, List.map_drop]
@[simp] theorem sli_tu (lo hi : Option Int) : sliD (tu f l) lo hi = .ok (tu f (cutD l lo hi)) := by
  show Rs.ok (PyData.tuple (cutD (l.map f) lo hi)) = _
  rw [cutD_map]; rfl
@[simp] theorem sli_li (lo hi : Option Int) : sliD (li f l) lo hi = .ok (li f (cutD l lo hi)) := by
  show Rs.ok (PyData.list (cutD (l.map f) lo hi)) = _
  rw [cutD_map]; rfl
theorem cut_to {k : Int} (h : 0 ≤ k) : cutD l none (some k) = l.take k.toNat := by
  unfold cutD HT.sIx
  dsimp only
  rw [if_neg (by omega)]
  simp only [List.drop_zero, Nat.sub_zero]
  by_cases q : k.toNat ≤ l.length
  · rw [Nat.min_eq_left q]
  · rw [Nat.min_eq_right (by omega), List.take_length, List.take_of_length_le (by omega)]
theorem cut_from {k : Int} (h : 0 ≤ k) : cutD l (some k) none = l.drop k.toNat := by
  unfold cutD HT.sIx
  dsimp only
  rw [if_neg (by omega)]
  by_cases q : k.toNat ≤ l.length
  · rw [Nat.min_eq_left q, List.take_of_length_le (by rw [List.length_drop]; omega)]
  · rw [Nat.min_eq_right (by omega), List.drop_length, List.drop_of_length_le (by omega), List.take_nil]
@[simp] theorem sum_ints (l : List Int) : bclD .sum [li .int l] = .ok (.int l.sum) := by
  show (intsD (l.map PyData.int)).map (fun ns => PyData.int ns.sum) = _
  have : intsD (l.map PyData.int) = .ok l := by
    induction l with
    | nil => rfl
    | cons a l ih => show (intsD (l.map PyData.int)).map (a :: ·) = _; rw [ih]; rfl
  rw [this]; rfl
@[simp] theorem sum_rowI (l : List Int) : bclD .sum [row l] = .ok (.int l.sum) := sum_ints l
theorem bools_li (l : List Bool) : boolsD (l.map PyData.bool) = .ok l := by
  induction l with
  | nil => rfl
  | cons a l ih => show (boolsD (l.map PyData.bool)).map (a :: ·) = _; rw [ih]; rfl
@[simp] theorem all_bools (l : List Bool) : bclD .all [li .bool l] = .ok (.bool (l.all id)) := by
  show (boolsD (l.map PyData.bool)).map (fun bs => PyData.bool (bs.all id)) = _
  rw [bools_li]; rfl
@[simp high] theorem all_mapped {α : Type} (g : α → Bool) (l : List α) : bclD .all [li .bool (l.map g)] = .ok (.bool (l.all g)) := by
  rw [all_bools, List.all_map]; rfl
@[simp high] theorem any_mapped {α : Type} (g : α → Bool) (l : List α) : bclD .any [li .bool (l.map g)] = .ok (.bool (l.any g)) := by
  show (boolsD ((l.map g).map PyData.bool)).map (fun bs => PyData.bool (bs.any id)) = _
  rw [bools_li]
  show Rs.ok (PyData.bool ((l.map g).any id)) = _
  rw [List.any_map]; rfl
@[simp] theorem any_bools (l : List Bool) : bclD .any [li .bool l] = .ok (.bool (l.any id)) := by
  show (boolsD (l.map PyData.bool)).map (fun bs => PyData.bool (bs.any id)) = _
  rw [bools_li]; rfl
end
theorem max_ii (i j : Int) : bclD .max [.int i, .int j] = .ok (.int (max i j)) := by
  rw [max_int]; congr 2; omega
theorem min_ii (i j : Int) : bclD .min [.int i, .int j] = .ok (.int (min i j)) := by
  rw [min_int]; congr 2; omega
theorem abs_i (i : Int) : bclD .abs [.int i] = .ok (.int (i.natAbs : Int)) := by
  rw [abs_int]; congr 2; omega
/-- the whole numbers from lo on -/
def upI (lo : Int) (n : Nat) : List Int := (List.range n).map fun k => lo + (k : Nat)
theorem rngD_eq (lo hi : Int) : rngD lo hi = (upI lo (hi - lo).toNat).map PyData.int := by
  unfold rngD upI
  rw [List.map_map]; rfl
def downI (lo : Int) (n : Nat) : List Int := (List.range n).map fun k => lo - (k : Nat)
theorem mem_upI {lo : Int} {n : Nat} {x : Int} : x ∈ upI lo n ↔ lo ≤ x ∧ x < lo + n := by
  unfold upI
  rw [List.mem_map]
  constructor
  · rintro ⟨k, hk, rfl⟩
    have := List.mem_range.mp hk
    omega
  · intro ⟨h1, h2⟩
    exact ⟨(x - lo).toNat, List.mem_range.mpr (by omega), by omega⟩
@[simp] theorem len_upI (lo : Int) (n : Nat) : (upI lo n).length = n := by simp [upI]
@[simp] theorem len_downI (lo : Int) (n : Nat) : (downI lo n).length = n := by simp [downI]
theorem it_rng1 {j : Int} (h1 : -1000000 < j) (h2 : j < 1000000) : itD .rng [.int j] = .ok ((upI 0 j.toNat).map PyData.int) := by
  show grd (inRng j && few j.toNat) (Rs.ok (rngD 0 j)) = _
  have : inRng j = true := inRng_iff.mpr (by omega)
  rw [this, few_of (by omega), rngD_eq]
  show Rs.ok _ = _
  rw [show (j - 0).toNat = j.toNat by omega]
theorem lrg1 {j : Int} (h1 : -1000000 < j) (h2 : j < 1000000) : rngL false [.int j] = .ok (li .int (upI 0 j.toNat)) := by
  unfold rngL
  rw [it_rng1 h1 h2]; rfl
@[simp] theorem it_seq (d : D) : itD .seq [d] = itsD d := id rfl
theorem enumD_map {α : Type} (f : α → D) : ∀ (l : List α) (n : Nat), enumD n (l.map f) = ((upI n l.length).zip l).map (pr .int f)
  | [], n => rfl
  | a :: l, n => by
    have e : upI n (a :: l).length = (n : Int) :: upI ((n + 1 : Nat) : Int) l.length := by
      unfold upI
      rw [List.length_cons, List.range_succ_eq_map, List.map_cons, List.map_map]
      have e1 : (n : Int) + ((0 : Nat) : Int) = n := by omega
      rw [e1]
      congr 1
      apply List.map_congr_left
      intro k _
      simp only [Function.comp]
      omega
    rw [e]
    show _ :: enumD (n + 1) (l.map f) = _
    rw [enumD_map f l (n + 1)]
    rfl
@[simp] theorem it_enum_tu {α : Type} (f : α → D) (l : List α) : itD .enum [tu f l] = .ok (((upI 0 l.length).zip l).map (pr .int f)) := by
  show (itsD (tu f l)).map (enumD 0) = _
  rw [its_tu]; show Rs.ok (enumD 0 (l.map f)) = _
  rw [enumD_map]; rfl
@[simp] theorem it_enum_li {α : Type} (f : α → D) (l : List α) : itD .enum [li f l] = .ok (((upI 0 l.length).zip l).map (pr .int f)) := by
  show (itsD (li f l)).map (enumD 0) = _
  rw [its_li]; show Rs.ok (enumD 0 (l.map f)) = _
  rw [enumD_map]; rfl
theorem zip2_map {α β : Type} (f : α → D) (g : β → D) : ∀ (l : List α) (m : List β), zip2 (l.map f) (m.map g) = (l.zip m).map (pr f g)
  | [], _ => by simp [zip2]
  | _ :: _, [] => by simp [zip2]
  | a :: l, b :: m => by
    show _ :: zip2 (l.map f) (m.map g) = _
    rw [zip2_map f g l m]; rfl
theorem it_zip {α β : Type} {f : α → D} {g : β → D} {l : List α} {m : List β} {x y : D} (h1 : itsD x = .ok (l.map f)) (h2 : itsD y = .ok (m.map g)) : itD .zip [x, y] = .ok ((l.zip m).map (pr f g)) := by
  show (itsD x).bind (fun xs => (itsD y).map fun ys => zip2 xs ys) = _
  rw [h1, h2]
  show Rs.ok (zip2 (l.map f) (m.map g)) = _
  rw [zip2_map]
@[simp] theorem it_zip_tt {α β : Type} (f : α → D) (g : β → D) (l : List α) (m : List β) : itD .zip [tu f l, tu g m] = .ok ((l.zip m).map (pr f g)) := it_zip rfl rfl
@[simp] theorem it_zip_ll {α β : Type} (f : α → D) (g : β → D) (l : List α) (m : List β) : itD .zip [li f l, li g m] = .ok ((l.zip m).map (pr f g)) := it_zip rfl rfl
@[simp] theorem it_zip_lt {α β : Type} (f : α → D) (g : β → D) (l : List α) (m : List β) : itD .zip [li f l, tu g m] = .ok ((l.zip m).map (pr f g)) := it_zip rfl rfl
@[simp] theorem it_zip_tl {α β : Type} (f : α → D) (g : β → D) (l : List α) (m : List β) : itD .zip [tu f l, li g m] = .ok ((l.zip m).map (pr f g)) := it_zip rfl rfl
theorem gather_ok {α : Type} {F : D → Rs (Option D)} {h : α → D} (g : α → Option D) : ∀ {l : List α}, (∀ a ∈ l, F (h a) = .ok (g a)) → gather F (l.map h) = .ok (l.filterMap g)
  | [], _ => rfl
  | a :: l, H => by
    rw [List.map_cons, gather_cons, H a List.mem_cons_self, gather_ok g fun b hb => H b (List.mem_cons_of_mem _ hb), List.filterMap_cons]
    cases g a <;> rfl
/-- no test: each turn gives a value -/
theorem gather_map {α β : Type} {F : D → Rs (Option D)} {h : α → D} (f : β → D) (g : α → β) {l : List α} (H : ∀ a ∈ l, F (h a) = .ok (some (f (g a)))) : gather F (l.map h) = .ok ((l.map g).map f) := by
  rw [gather_ok (fun a => some (f (g a))) H]
  congr 1
  rw [List.map_map]
  induction l with
  | nil => rfl
  | cons a l ih => rw [List.filterMap_cons, List.map_cons, ih fun b hb => H b (List.mem_cons_of_mem _ hb)]; rfl
/-- a comprehension's value -/
theorem cmpr_li {α β : Type} {its : List D} {F : D → Rs (Option D)} {h : α → D} (f : β → D) (g : α → β) {l : List α} (e : its = l.map h) (hl : l.length < 1000000) (H : ∀ a ∈ l, F (h a) = .ok (some (f (g a)))) : cmpR F its = .ok (li f (l.map g)) := by
  unfold cmpR
  rw [e, List.length_map, few_of hl, gather_map f g H]; rfl
/-- a comprehension of two clauses -/
theorem gath2_ok {α β : Type} {F : D → Rs (List D)} {h : α → D} (f : β → D) (g : α → List β) : ∀ {l : List α}, (∀ a ∈ l, F (h a) = .ok ((g a).map f)) → gath2 F (l.map h) = .ok ((l.flatMap g).map f)
  | [], _ => rfl
  | a :: l, H => by
    rw [List.map_cons, gath2_cons, H a List.mem_cons_self, gath2_ok f g fun b hb => H b (List.mem_cons_of_mem _ hb), List.flatMap_cons, List.map_append]; rfl
theorem cm2_li {α β : Type} {its : List D} {F : D → Rs (List D)} {h : α → D} (f : β → D) (g : α → List β) {l : List α} (e : its = l.map h) (hl : (l.flatMap g).length < 1000000) (H : ∀ a ∈ l, F (h a) = .ok ((g a).map f)) : cm2R F its = .ok (li f (l.flatMap g)) := by
  unfold cm2R
  rw [e, gath2_ok f g H]
  show grd (few ((l.flatMap g).map f).length) _ = _
  rw [List.length_map, few_of hl]; rfl
theorem mulL {i j : Int} (h1 : -18446744073709551616 < i) (h2 : i < 18446744073709551616) : binD .Mult (.int i) (.int j) = .ok (.int (i * j)) := by
  show grd (smI i || smI j) (Rs.ok (PyData.int (i * j))) = _
  rw [smI_iff.mpr ⟨h1, h2⟩]; rfl
theorem mulR {i j : Int} (h1 : -18446744073709551616 < j) (h2 : j < 18446744073709551616) : binD .Mult (.int i) (.int j) = .ok (.int (i * j)) := by
  show grd (smI i || smI j) (Rs.ok (PyData.int (i * j))) = _
  rw [smI_iff.mpr ⟨h1, h2⟩, Bool.or_true]; rfl
theorem divOk {i j : Int} (h1 : 0 < j) (h2 : j < 18446744073709551616) : binD .FloorDiv (.int i) (.int j) = .ok (.int (i / j)) := by
  show grd (posI j && smI j) (Rs.ok (PyData.int (i / j))) = _
  rw [posI_iff.mpr h1, smI_iff.mpr ⟨by omega, h2⟩]; rfl
theorem modOk {i j : Int} (h1 : 0 < j) : binD .Mod (.int i) (.int j) = .ok (.int (i % j)) := by
  show grd (posI j) (Rs.ok (PyData.int (i % j))) = _
  rw [posI_iff.mpr h1]; rfl
theorem pow18 : binD .Pow (.int 10) (.int 18) = .ok (.int 1000000000000000000) := rfl
@[simp] theorem eq_nilL {α : Type} [DecidableEq α] (f : α → D) (l : List α) (n : Nat) (h : Enc n f) (hn : n + 1 ≤ 64) : cmpB .Eq (li f l) (.list []) = .ok (decide (l = [])) := eq_enc h.li hn l []
@[simp] theorem ne_nilI (l : List Int) : cmpB .NotEq (li .int l) (.list []) = .ok (!decide (l = [])) := ne_enc enc_int.li (by decide) l []
@[simp] theorem eq_nilI (l : List Int) : cmpB .Eq (li .int l) (.list []) = .ok (decide (l = [])) := eq_enc enc_int.li (by decide) l []
/-- an owned list grows -/
@[simp] theorem appD_eq (r : Env → Rs D) (i : Nat) (ρ : Env) : appD r i ρ = (match ρ[i]? with | some (.ow ds) => (r ρ).bind fun d => grd (few (ds.length + 1)) (.ok (.nx (ρ.set i (.ow (ds ++ [d]))))) | _ => .no) := id rfl
theorem grdFew {α : Type} {n : Nat} {x : Rs α} (h : n < 1000000) : grd (few n) x = x := by rw [few_of h]; rfl
/-- a for, told by what it has gone through -/
theorem for_pre {α : Type} {step : D → Env → Rs Fl} {h : α → D} (R : List α → Env → Prop) : ∀ {l pre : List α} {ρ : Env}, R pre ρ → (∀ p a q ρ, pre ++ l = p ++ a :: q → R p ρ → ∃ ρ', step (h a) ρ = .ok (.nx ρ') ∧ R (p ++ [a]) ρ') → ∃ ρ', forD step (l.map h) ρ = .ok (.nx ρ') ∧ R (pre ++ l) ρ'
  | [], pre, ρ, r, _ => ⟨ρ, rfl, by rw [List.append_nil]; exact r⟩
  | a :: l, pre, ρ, r, H => by
    obtain ⟨ρ1, e1, r1⟩ := H pre a l ρ rfl r
    obtain ⟨ρ2, e2, r2⟩ := for_pre R (l := l) r1 fun p b q ρ e => H p b q ρ (by rw [← e, List.append_assoc]; rfl)
    refine ⟨ρ2, ?_, by rw [List.append_assoc] at r2; exact r2⟩
    rw [List.map_cons]
    show ((step (h a) ρ).bind _) = _
    rw [e1]
    exact e2
theorem for_preB {α γ : Type} {step : D → Env → Rs Fl} {h : α → D} {l : List α} {ρ : Env} {k : Fl → Rs γ} {r : Rs γ} (R : List α → Env → Prop) (r0 : R [] ρ) (H : ∀ p a q ρ, l = p ++ a :: q → R p ρ → ∃ ρ', step (h a) ρ = .ok (.nx ρ') ∧ R (p ++ [a]) ρ') (K : ∀ ρ', R l ρ' → k (.nx ρ') = r) : (forD step (l.map h) ρ).bind k = r := by
  obtain ⟨ρ', e, r'⟩ := for_pre R (pre := []) r0 fun p a q ρ e => H p a q ρ e
  rw [e]
  exact K ρ' r'
theorem pre_len {α : Type} {l p q : List α} {a : α} (e : l = p ++ a :: q) : p.length < l.length ∧ a ∈ l := by
  subst e
  simp
@[simp] theorem eq_nils : cmpB .Eq (.list []) (.list []) = .ok true := eq_nilI []
@[simp] theorem ne_nils : cmpB .NotEq (.list []) (.list []) = .ok false := ne_nilI []
end Rf
set_option Elab.async false
set_option linter.all false
set_option autoImplicit false
set_option maxHeartbeats 1000000
set_option maxRecDepth 100000
namespace Rf
open PySem L2
def isNum : D → Int → Int → Bool
  | .int i, a, b => decide (a ≤ i) && decide (i ≤ b)
  | _, _, _ => false
abbrev Sp_is_number (m : List D → Rs D) : Prop := ∀ d a b, d.canLay0 = true → m [d, .int a, .int b] = .ok (.bool (isNum d a b))
theorem ok_is_number {T : Tb} : Sp_is_number (runD T 3 3 B_is_number) := by
  intro d a b hd
  cases d <;> first | (simp [PyData.canLay0] at hd; done) | simp [runD, B_is_number, isiD, isNum]
  rename_i i
  by_cases h : a ≤ i <;> simp [h]
def isRow : D → Int → Bool
  | .tuple xs, w => decide ((xs.length : Int) = w) && xs.all fun d => isNum d 0 99
  | _, _ => false
theorem lay_mem {d : D} : ∀ {xs : List D}, PyData.canLayAll0 xs = true → d ∈ xs → d.canLay0 = true
  | x :: xs, h, hm => by
    simp only [PyData.canLayAll0, Bool.and_eq_true] at h
    rcases List.mem_cons.mp hm with e | hm
    · rw [e]; exact h.1
    · exact lay_mem h.2 hm
theorem map_id' (xs : List D) : xs = xs.map fun d => d := (List.map_id' xs).symm
@[simp] theorem itsT (xs : List D) : itsD (.tuple xs) = .ok xs := id rfl
@[simp] theorem itsL (xs : List D) : itsD (.list xs) = .ok xs := id rfl
abbrev Sp_is_row (m : List D → Rs D) : Prop := ∀ d w, d.canLay0 = true → w < 1000000 → m [d, .int w] = .ok (.bool (isRow d w))
theorem ok_is_row {T : Tb} {fN gM : Nat} (hN : Sp_is_number (T.fn fN)) (hM : T.gl gM = .ok (.int 99)) : Sp_is_row (runD T 2 3 (B_is_row fN gM)) := by
  intro d w hd hw
  cases d <;> first | (simp [PyData.canLay0] at hd; done) | simp [runD, B_is_row, isiD, isRow]
  rename_i xs
  simp only [PyData.canLay0] at hd
  by_cases h : (xs.length : Int) = w
  · rw [cmpr_li .bool (fun d => isNum d 0 99) (map_id' xs) (by omega) fun a ha => by simp [turnD, hM, hN _ _ _ (lay_mem hd ha)]]
    simp [h, List.all_map, Function.comp_def]
  · simp [h]
def isPic : D → Bool
  | .tuple (.tuple r :: rs) => decide (1 ≤ (((PyData.tuple r :: rs).length : Int)) ∧ ((PyData.tuple r :: rs).length : Int) ≤ 20) && (decide (1 ≤ (r.length : Int) ∧ (r.length : Int) ≤ 20) && (PyData.tuple r :: rs).all fun d => isRow d r.length)
  | _ => false
abbrev Sp_is_picture (m : List D → Rs D) : Prop := ∀ d, d.canLay0 = true → m [d] = .ok (.bool (isPic d))
theorem ok_is_picture {T : Tb} {fR gM : Nat} (hR : Sp_is_row (T.fn fR)) (hM : T.gl gM = .ok (.int 20)) : Sp_is_picture (runD T 1 2 (B_is_picture fR gM)) := by
  intro d hd
  cases d with
  | dict => simp [PyData.canLay0] at hd
  | none => simp [runD, B_is_picture, isPic]
  | bool => simp [runD, B_is_picture, isPic]
  | int => simp [runD, B_is_picture, isPic]
  | str => simp [runD, B_is_picture, isPic]
  | list => simp [runD, B_is_picture, isPic]
  | tuple xs =>
    simp only [PyData.canLay0] at hd
    rcases xs with _ | ⟨x, xs⟩
    · simp [runD, B_is_picture, hM, isPic]
    · by_cases h2 : (xs.length : Int) + 1 ≤ 20
      · have h1 : (1 : Int) ≤ (xs.length : Int) + 1 := by omega
        cases x with
        | dict => simp [PyData.canLay0, PyData.canLayAll0] at hd
        | none => simp [runD, B_is_picture, isPic, hM, h1, h2]
        | bool => simp [runD, B_is_picture, isPic, hM, h1, h2]
        | int => simp [runD, B_is_picture, isPic, hM, h1, h2]
        | str => simp [runD, B_is_picture, isPic, hM, h1, h2]
        | list => simp [runD, B_is_picture, isPic, hM, h1, h2]
        | tuple r =>
          by_cases h3 : (1 : Int) ≤ (r.length : Nat)
          · by_cases h4 : ((r.length : Nat) : Int) ≤ 20
            · simp [runD, B_is_picture, isPic, hM, h1, h2, h3, h4]
              rw [cmpr_li .bool (fun d => isRow d r.length) (map_id' _) (by simp only [List.length_cons]; omega) fun a ha => by simp [turnD, hR _ _ (lay_mem hd ha) (show ((r.length : Nat) : Int) < 1000000 by omega)]]
              simp [List.all_map, Function.comp_def]
            · simp [runD, B_is_picture, isPic, hM, h1, h2, h3, h4]
          · simp [runD, B_is_picture, isPic, hM, h1, h2, h3]
      · simp [runD, B_is_picture, hM, h2]
        cases x <;> simp [isPic, h2]
        done
structure Rect (w h : Nat) (p : List (List Int)) : Prop where
  hh : p.length = h
  ww : ∀ r ∈ p, r.length = w
structure Good (w h : Nat) (p : List (List Int)) : Prop extends Rect w h p where
  w1 : 1 ≤ w
  w2 : w ≤ 20
  h1 : 1 ≤ h
  h2 : h ≤ 20
  cl : ∀ r ∈ p, ∀ c ∈ r, 0 ≤ c ∧ c ≤ 99
theorem isRow_row {w : Nat} {r : List Int} (h : r.length = w) (hc : ∀ c ∈ r, 0 ≤ c ∧ c ≤ 99) : isRow (row r) w = true := by
  unfold row tu isRow
  simp only [List.length_map, h, decide_true, Bool.true_and, List.all_map, List.all_eq_true, Function.comp]
  intro c hm
  have := hc c hm
  simp [isNum, this.1, this.2]
theorem isPic_pic {w h : Nat} {p : List (List Int)} (g : Good w h p) : isPic (pic p) = true := by
  have hw := g.w1; have hw2 := g.w2; have hh1 := g.h1; have hh2 := g.h2; have hp := g.hh
  rcases p with _ | ⟨r, rs⟩
  · simp at hp; omega
  · have hr := g.ww r List.mem_cons_self
    show (decide _ && (decide _ && _)) = true
    simp only [List.length_cons, List.length_map] at hp ⊢
    simp only [Bool.and_eq_true, decide_eq_true_eq]
    refine ⟨by omega, by omega, ?_⟩
    have e : (PyData.tuple (r.map PyData.int) :: rs.map row) = (r :: rs).map row := rfl
    rw [e, List.all_map, List.all_eq_true]
    intro x hx
    rw [hr]
    exact isRow_row (g.ww x hx) (g.cl x hx)
theorem lay_row (r : List Int) : (row r).canLay0 = true := enc_row.lay r
theorem lay_pic (p : List (List Int)) : (pic p).canLay0 = true := enc_pic.lay p
abbrev Sp_need_picture (c : Nat) (m : List D → Rs D) : Prop := ∀ d, d.canLay0 = true → m [d] = if isPic d = true then .ok .none else .ex (c, none)
theorem ok_need_picture {T : Tb} {fP cN : Nat} (hP : Sp_is_picture (T.fn fP)) (hc : cN < T.cls.length) : Sp_need_picture cN (runD T 1 1 (B_need_picture fP cN)) := by
  intro d hd
  simp [runD, B_need_picture, hP d hd]
  cases isPic d <;> simp [hc]
theorem need_pic {c : Nat} {m : List D → Rs D} (s : Sp_need_picture c m) {w h : Nat} {p : List (List Int)} (g : Good w h p) : m [pic p] = .ok .none := by
  rw [s _ (lay_pic p), isPic_pic g]; rfl
section
variable {w h : Nat} {p : List (List Int)}
theorem Rect.row (r : Rect w h p) {y : Int} (h1 : 0 ≤ y) (h2 : y < h) : (getI p y).length = w := r.ww _ (getI_mem (by have := r.hh; omega) (by have := r.hh; omega))
theorem Good.row0 (g : Good w h p) : (getI p 0).length = w := g.row (by omega) (by have := g.h1; omega)
end
abbrev Sp_size_of (m : List D → Rs D) : Prop := ∀ w h p, Good w h p → m [pic p] = .ok (pr .int .int ((w : Int), (h : Int)))
theorem ok_size_of {T : Tb} {fN c : Nat} (hN : Sp_need_picture c (T.fn fN)) : Sp_size_of (runD T 1 1 (B_size_of fN)) := by
  intro w h p g
  have h0 := g.row0
  have h1 := g.hh
  have h2 := g.h1
  simp (disch := omega) [runD, B_size_of, need_pic hN g, idx_tu, h0, h1, pr]
abbrev Sx_size_of (c : Nat) (m : List D → Rs D) : Prop := ∀ d, d.canLay0 = true → isPic d = false → m [d] = .ex (c, none)
theorem ox_size_of {T : Tb} {fN c : Nat} (hN : Sp_need_picture c (T.fn fN)) : Sx_size_of c (runD T 1 1 (B_size_of fN)) := by
  intro d hd hp
  simp [runD, B_size_of, hN d hd, hp]
abbrev Sp_mirrored (m : List D → Rs D) : Prop := ∀ w h p, Good w h p → m [pic p] = .ok (pic (p.map List.reverse))
theorem ok_mirrored {T : Tb} {fN c : Nat} (hN : Sp_need_picture c (T.fn fN)) : Sp_mirrored (runD T 1 2 (B_mirrored fN)) := by
  intro w h p g
  have h2 := g.h2
  have h1 := g.hh
  simp [runD, B_mirrored, need_pic hN g]
  rw [cmpr_li row List.reverse rfl (by omega)]
  · simp
  · intro r hr
    simp [turnD]
def cell (p : List (List Int)) (x y : Int) : Int := getI (getI p y) x
section
variable {w h : Nat} {p : List (List Int)}
def man (b : Bool) : D := .str (if b = true then Str.ofString "worth" else Str.ofString "joins")
@[simp] theorem eq_man (b : Bool) : cmpB .Eq (man b) (.str (Str.ofString "worth")) = .ok b := by
  show grd (SeqAt.shaped (man b) && SeqAt.shaped (man true)) (Rs.ok (PyData.eqv (man b) (man true))) = _
  have h1 : (SeqAt.shaped (man b) && SeqAt.shaped (man true)) = true := by cases b <;> decide +kernel
  have h2 : PyData.eqv (man b) (man true) = b := by cases b <;> decide +kernel
  rw [h1, h2]; rfl
@[simp] theorem isi_man (b : Bool) (t : String) : isiD t (man b) = .ok (t == "str") := id rfl
end
end Rf
set_option Elab.async false
set_option linter.all false
set_option autoImplicit false
set_option maxHeartbeats 1000000
set_option maxRecDepth 100000
namespace Rf
open PySem L2
/-- each differs by no more than 1 from the one ahead -/
def stepsOk : List Int → Bool
  | a :: b :: l => decide ((a - b).natAbs < 2) && stepsOk (b :: l)
  | _ => true
structure Way (w h : Nat) (s : List Int) : Prop where
  len : s.length = h
  rng : ∀ x ∈ s, 0 ≤ x ∧ x < (w : Int)
  st : stepsOk s = true
theorem stepsOk_zip : ∀ s : List Int, stepsOk s = (s.zip s.tail).all fun p => decide ((p.1 - p.2).natAbs < 2)
  | [] => rfl
  | [_] => rfl
  | a :: b :: l => by
    unfold stepsOk
    rw [stepsOk_zip (b :: l)]
    rfl
def nearP : D × D → Bool
  | (.int a, .int b) => decide ((a - b).natAbs < 2)
  | _ => false
/-- is_way, of any thing -/
def isWay : D → Int → Int → Bool
  | .tuple xs, w, h => decide ((xs.length : Int) = h) && (xs.all (fun d => isNum d 0 (w - 1)) && (xs.zip xs.tail).all nearP)
  | _, _, _ => false
theorem int_of_num {d : D} {a b : Int} (h : isNum d a b = true) : ∃ i, d = .int i ∧ a ≤ i ∧ i ≤ b := by
  cases d <;> first | (simp [isNum] at h; done) | skip
  rename_i i
  simp only [isNum, Bool.and_eq_true, decide_eq_true_eq] at h
  exact ⟨i, rfl, h⟩
theorem ints_of_num {a b : Int} : ∀ {xs : List D}, (xs.all fun d => isNum d a b) = true → ∃ l : List Int, xs = l.map PyData.int ∧ ∀ x ∈ l, a ≤ x ∧ x ≤ b
  | [], _ => ⟨[], rfl, fun x hx => by cases hx⟩
  | d :: xs, h => by
    rw [List.all_cons, Bool.and_eq_true] at h
    obtain ⟨i, rfl, h1⟩ := int_of_num h.1
    obtain ⟨l, rfl, h2⟩ := ints_of_num h.2
    exact ⟨i :: l, rfl, fun x hx => by
      rcases List.mem_cons.mp hx with e | hx
      · rw [e]; exact h1
      · exact h2 x hx⟩
theorem all_num {a b : Int} : ∀ {l : List Int}, ((l.map PyData.int).all fun d => isNum d a b) = l.all fun x => decide (a ≤ x) && decide (x ≤ b)
  | [] => rfl
  | x :: l => by rw [List.map_cons, List.all_cons, List.all_cons, all_num]; rfl
abbrev Sp_is_way (m : List D → Rs D) : Prop := ∀ (d : D) (w h : Int), d.canLay0 = true → h < 1000000 → m [d, .int w, .int h] = .ok (.bool (isWay d w h))
theorem ok_is_way {T : Tb} {fN : Nat} (hN : Sp_is_number (T.fn fN)) : Sp_is_way (runD T 3 6 (B_is_way fN)) := by
  intro d w h hd hh
  cases d with
  | dict => simp [PyData.canLay0] at hd
  | none => simp [runD, B_is_way, isWay]
  | bool => simp [runD, B_is_way, isWay]
  | int => simp [runD, B_is_way, isWay]
  | str => simp [runD, B_is_way, isWay]
  | list => simp [runD, B_is_way, isWay]
  | tuple xs =>
    simp only [PyData.canLay0] at hd
    by_cases hl : (xs.length : Int) = h
    · simp [runD, B_is_way, isWay, hl]
      rw [cmpr_li .bool (fun d => isNum d 0 (w - 1)) (map_id' xs) (by omega) fun a ha => by simp [turnD, hN _ _ _ (lay_mem hd ha)]]
      cases q : xs.all fun d => isNum d 0 (w - 1) with
      | false => simp [q]
      | true =>
        obtain ⟨l, rfl, hx⟩ := ints_of_num q
        have e1 : PyData.tuple (l.map PyData.int) = row l := rfl
        have e2 : cutD l (some 1) none = l.tail := by rw [cut_from _ (by decide)]; exact List.drop_one
        simp only [all_mapped, q, bk_ok, bind_bk, mapB, bindA, bindM, Rs.bind_ok, Rs.quiet_ok, map_ok, asB_bool, evs_cons, evs_nil, Bool.not_true, if_false, Bool.false_eq_true, seqF_nx, exs_cons, exs_nil]
        rw [List.length_map] at hl
        simp [e1, e2]
        rw [cmpr_li .bool (fun p => decide ((p.1 - p.2).natAbs < 2)) rfl (by simp; omega) fun p hp => by simp [turnD, pr, abs_i, -abs_int]; omega]
        simp
        rw [← List.map_tail, List.zip_map, List.all_map]
        rfl
    · simp [runD, B_is_way, isWay, hl]
theorem isWay_way {w h : Nat} {s : List Int} (g : Way w h s) : isWay (row s) w h = true := by
  show (decide _ && (_ && _)) = true
  rw [Bool.and_eq_true, Bool.and_eq_true, decide_eq_true_eq, List.length_map, g.len]
  refine ⟨rfl, ?_, ?_⟩
  · rw [all_num, List.all_eq_true]
    intro x hx
    have := g.rng x hx
    simp; omega
  · rw [← List.map_tail, List.zip_map, List.all_map]
    exact (stepsOk_zip s).symm.trans g.st
abbrev Sp_is_seam (m : List D → Rs D) : Prop := ∀ w h p d, Good w h p → d.canLay0 = true → m [d, pic p] = .ok (.bool (isWay d w h))
theorem ok_is_seam {T : Tb} {fW fN c : Nat} (hW : Sp_is_way (T.fn fW)) (hN : Sp_need_picture c (T.fn fN)) : Sp_is_seam (runD T 2 2 (B_is_seam fW fN)) := by
  intro w h p d g hd
  have h0 := g.row0
  have h1 := g.hh
  have h2 := g.h1
  have h3 := g.h2
  simp (disch := omega) [runD, B_is_seam, need_pic hN g, idx_tu, h0, h1, hW d w h hd (by omega)]
abbrev Sp_need_seam (c : Nat) (m : List D → Rs D) : Prop := ∀ w h p d, Good w h p → d.canLay0 = true → m [pic p, d] = if isWay d w h = true then .ok .none else .ex (c, none)
theorem ok_need_seam {T : Tb} {fS cN : Nat} (hS : Sp_is_seam (T.fn fS)) (hc : cN < T.cls.length) : Sp_need_seam cN (runD T 2 2 (B_need_seam fS cN)) := by
  intro w h p d g hd
  simp [runD, B_need_seam, hS w h p d g hd]
  cases isWay d w h <;> simp [hc]
theorem need_way {c : Nat} {m : List D → Rs D} (sp : Sp_need_seam c m) {w h : Nat} {p : List (List Int)} {s : List Int} (g : Good w h p) (q : Way w h s) : m [pic p, row s] = .ok .none := by
  rw [sp w h p _ g (lay_row s), isWay_way q]; rfl
end Rf
set_option Elab.async false
set_option linter.all false
set_option autoImplicit false
set_option maxHeartbeats 2000000
set_option maxRecDepth 100000
namespace Rf
open PySem L2
abbrev Sp_law_drawn (m : List D → Rs D) : Prop := ∀ (s : List Int) (k n : Int), s.length ≤ 63 → 0 ≤ k → k < 1000000 → 0 < n → ∃ v, 0 ≤ v ∧ v < n ∧ m [li .int s, .int k, .int n] = .ok (.int v)
theorem ex_mod {n : Int} (hn : 0 < n) {e : Rs D} (h : ∃ x, e = .ok (.int (x % n))) : ∃ v, 0 ≤ v ∧ v < n ∧ e = .ok (.int v) := by
  obtain ⟨x, h⟩ := h
  exact ⟨_, Int.emod_nonneg _ (by omega), Int.emod_lt_of_pos _ hn, h⟩
theorem drawn_loop {c : Env → Rs Bool} {b : Env → Rs Fl} {l k n cl : D} (hc : ∀ t r : Int, c [.fz l, .fz k, .fz n, .fz cl, .fz (.int t), .fz (.int r)] = .ok (decide (0 < r) && decide (0 < t)))
    (hb : ∀ t r : Int, 0 < t → ∃ r', b [.fz l, .fz k, .fz n, .fz cl, .fz (.int t), .fz (.int r)] = .ok (.nx [.fz l, .fz k, .fz n, .fz cl, .fz (.int (t - 1)), .fz (.int r')])) :
    ∀ (m : Nat) (t r : Int), 1 ≤ m → t < m → ∃ t' r', whlD c b m [.fz l, .fz k, .fz n, .fz cl, .fz (.int t), .fz (.int r)] = .ok (.nx [.fz l, .fz k, .fz n, .fz cl, .fz (.int t'), .fz (.int r')])
  | 0, t, r, h1, h => absurd h1 (by omega)
  | m + 1, t, r, h1, h => by
    unfold whlD
    rw [hc]
    by_cases q : 0 < r ∧ 0 < t
    · obtain ⟨r1, e1⟩ := hb t r q.2
      obtain ⟨t2, r2, e2⟩ := drawn_loop hc hb m (t - 1) r1 (by omega) (by omega)
      refine ⟨t2, r2, ?_⟩
      simp [q.1, q.2, e1, e2]
    · refine ⟨t, r, ?_⟩
      have : (decide (0 < r) && decide (0 < t)) = false := by
        cases e : (decide (0 < r) && decide (0 < t)) with
        | false => rfl
        | true => simp at e; exact absurd e q
      simp [this]
theorem ok_law_drawn {T : Tb} : Sp_law_drawn (runD T 3 6 B_law_drawn) := by
  intro s k n hs hk hk2 hn
  have q1 : ∀ x : Int, 0 ≤ x % 2147483563 ∧ x % 2147483563 < 2147483563 := fun x => ⟨Int.emod_nonneg _ (by decide), Int.emod_lt_of_pos _ (by decide)⟩
  have q2 : ∀ x : Int, 0 ≤ x % 2147483399 ∧ x % 2147483399 < 2147483399 := fun x => ⟨Int.emod_nonneg _ (by decide), Int.emod_lt_of_pos _ (by decide)⟩
  have sq1 : ∀ x : Int, binD .Mult (.int (x % 2147483563)) (.int (x % 2147483563)) = .ok (.int (x % 2147483563 * (x % 2147483563))) := fun x => mulL (by have := q1 x; omega) (by have := q1 x; omega)
  have sq2 : ∀ x : Int, binD .Mult (.int (x % 2147483399)) (.int (x % 2147483399)) = .ok (.int (x % 2147483399 * (x % 2147483399))) := fun x => mulL (by have := q2 x; omega) (by have := q2 x; omega)
  by_cases h0 : s = []
  · subst h0
    exact ex_mod hn ⟨_, by
      simp (disch := omega) [runD, B_law_drawn, mulL, mulR, divOk, modOk, sq1, sq2]
      rfl⟩
  · have hl : 0 < s.length := List.length_pos_iff.mpr h0
    have m1 := Int.emod_nonneg k (b := (s.length : Int)) (by omega)
    have m2 := Int.emod_lt_of_pos k (b := (s.length : Int)) (by omega)
    by_cases h1 : 1000000000000000000 ≤ getI s (k % (s.length : Int))
    · by_cases h2 : k / (s.length : Int) < 60
      · simp (disch := omega) [runD, B_law_drawn, mulL, mulR, divOk, modOk, idx_li, h0, pow18, h1, h2, sq1, sq2]
        obtain ⟨t', r', e⟩ := drawn_loop (c := tstE T (.and (.cmp .Gt (.var 5) (.cst (.int 0))) (.cmp .Gt (.var 4) (.cst (.int 0))))) (b := Ss.ex T (Ss.cons (.asg (.nm 5) (.bin .FloorDiv (.var 5) (.cst (.int 1000000))) []) (.cons (.asg (.nm 4) (.bin .Sub (.var 4) (.cst (.int 1))) []) .nil)))
          (l := li .int s) (k := .int k) (n := .int n) (cl := .int (getI s (k % (s.length : Int))))
          (fun t r => by simp; by_cases z : 0 < r <;> simp [z]) (fun t r _ => ⟨_, by simp (disch := omega) [divOk]; rfl⟩) 10000 (k / (s.length : Int)) (getI s (k % (s.length : Int)) / 1000000000000000000) (by omega) (by omega)
        rw [e]
        by_cases h3 : 0 < r'
        · exact ex_mod hn ⟨_, by
            simp (disch := omega) [h3, modOk]
            rfl⟩
        · exact ex_mod hn ⟨_, by
            simp (disch := omega) [h3, mulL, mulR, divOk, modOk, sq1, sq2]
            rfl⟩
      · exact ex_mod hn ⟨_, by
          simp (disch := omega) [runD, B_law_drawn, mulL, mulR, divOk, modOk, idx_li, h0, pow18, h1, h2, sq1, sq2]
          rfl⟩
    · exact ex_mod hn ⟨_, by
        simp (disch := omega) [runD, B_law_drawn, mulL, mulR, divOk, modOk, idx_li, h0, pow18, h1, sq1, sq2]
        rfl⟩
theorem idx_four {i : Int} (h1 : 0 ≤ i) (h2 : i < 4) : ∃ v : Int, 1 ≤ v ∧ v ≤ 100 ∧ idxD (.list [.int 2, .int 5, .int 100, .int 10]) (.int i) = .ok (.int v) := by
  have : i = 0 ∨ i = 1 ∨ i = 2 ∨ i = 3 := by omega
  rcases this with rfl | rfl | rfl | rfl
  · exact ⟨2, by omega, by omega, rfl⟩
  · exact ⟨5, by omega, by omega, rfl⟩
  · exact ⟨100, by omega, by omega, rfl⟩
  · exact ⟨10, by omega, by omega, rfl⟩
/-- the number drawn -/
def drawV (m : List D → Rs D) (s : List Int) (k n : Int) : Int := match m [li .int s, .int k, .int n] with
  | .ok (.int v) => v
  | _ => 0
theorem drawV_ok {m : List D → Rs D} (sp : Sp_law_drawn m) {s : List Int} {k n : Int} (h1 : s.length ≤ 63) (h2 : 0 ≤ k) (h3 : k < 1000000) (h4 : 0 < n) : m [li .int s, .int k, .int n] = .ok (.int (drawV m s k n)) ∧ 0 ≤ drawV m s k n ∧ drawV m s k n < n := by
  obtain ⟨v, a, b, e⟩ := sp s k n h1 h2 h3 h4
  have : drawV m s k n = v := by unfold drawV; rw [e]
  rw [this]
  exact ⟨e, a, b⟩
theorem mul_bd {a b : Int} (h1 : 0 ≤ a) (h2 : a ≤ 20) (h3 : 0 ≤ b) (h4 : b ≤ 20) : 0 ≤ a * b ∧ a * b ≤ 400 := by
  refine ⟨Int.mul_nonneg h1 h3, ?_⟩
  have q1 : a * b ≤ 20 * b := Int.mul_le_mul_of_nonneg_right h2 h3
  omega
/-- cells from 0 to 99 -/
abbrev CellsOk (p : List (List Int)) : Prop := ∀ r ∈ p, ∀ c ∈ r, 0 ≤ c ∧ c ≤ 99
abbrev Sp_law_picture (m : List D → Rs D) : Prop := ∀ (s : List Int) (at_ : Int) (w h : Nat), s.length ≤ 63 → 0 ≤ at_ → at_ < 100000 → w ≤ 20 → h ≤ 20 → ∃ p, Rect w h p ∧ CellsOk p ∧ m [li .int s, .int at_, .int w, .int h] = .ok (pic p)
theorem ok_law_picture {T : Tb} {fD : Nat} (hD : Sp_law_drawn (T.fn fD)) : Sp_law_picture (runD T 4 8 (B_law_picture fD)) := by
  intro s at_ w h hs h1 h2 hw hh
  obtain ⟨v, v1, v2, ev⟩ := hD s at_ 4 hs h1 (by omega) (by omega)
  obtain ⟨n, n1, n2, en⟩ := idx_four v1 v2
  let g : Int → List Int := fun y => (upI 0 w).map fun x => drawV (T.fn fD) s (at_ + 1 + (w : Int) * y + x) n
  have key : ∀ y : Int, y ∈ upI 0 h → ∀ x : Int, x ∈ upI 0 w → T.fn fD [li .int s, .int (at_ + 1 + (w : Int) * y + x), .int n] = .ok (.int (drawV (T.fn fD) s (at_ + 1 + (w : Int) * y + x) n)) ∧ 0 ≤ drawV (T.fn fD) s (at_ + 1 + (w : Int) * y + x) n ∧ drawV (T.fn fD) s (at_ + 1 + (w : Int) * y + x) n < n := fun y hy x hx => by
    have hy := mem_upI.mp hy
    have hx := mem_upI.mp hx
    have q := mul_bd (a := (w : Int)) (b := y) (by omega) (by omega) (by omega) (by omega)
    exact drawV_ok hD hs (by omega) (by omega) (by omega)
  refine ⟨(upI 0 h).map g, ⟨by simp, fun r hr => ?_⟩, fun r hr c hc => ?_, ?_⟩
  · obtain ⟨y, _, rfl⟩ := List.mem_map.mp hr
    simp [g]
  · obtain ⟨y, hy, rfl⟩ := List.mem_map.mp hr
    obtain ⟨x, hx, rfl⟩ := List.mem_map.mp hc
    have := key y hy x hx
    omega
  · simp (disch := omega) [runD, B_law_picture, ev, en, it_rng1]
    refine for_preB (fun pre ρ => ∃ z y, ρ = [.fz (li .int s), .fz (.int at_), .fz (.int w), .fz (.int h), .fz (.int n), .ow ((pre.map g).map row), z, y]) ⟨_, _, rfl⟩ ?_ ?_
    · rintro p y q _ ep ⟨z, z2, rfl⟩
      obtain ⟨hl, hy⟩ := pre_len ep
      rw [len_upI] at hl
      have hrow : ∀ F, (∀ x ∈ upI 0 w, F (.int x) = .ok (some (.int (drawV (T.fn fD) s (at_ + 1 + (w : Int) * y + x) n)))) → cmpR F ((upI 0 w).map .int) = .ok (li .int (g y)) := fun F hF => cmpr_li .int (fun x => drawV (T.fn fD) s (at_ + 1 + (w : Int) * y + x) n) rfl (by rw [len_upI]; omega) hF
      refine ⟨_, ?_, .fz (.int y), z2, rfl⟩
      simp (disch := omega) [-List.map_map, it_rng1]
      rw [hrow]
      · simp (disch := omega) [-List.map_map, grdFew]
      · intro x hx
        have k1 := key y hy x hx
        simp (disch := omega) [turnD, mulL, k1.1]
    · rintro _ ⟨z, y, rfl⟩
      simp [-List.map_map]
      rfl
abbrev Sp_law_some (m : List D → Rs D) : Prop := ∀ (s : List Int) (at_ : Int) (bw bh : Nat), s.length ≤ 63 → 0 ≤ at_ → at_ < 90000 → 1 ≤ bw → bw ≤ 20 → 1 ≤ bh → bh ≤ 20 → ∃ w h p, w ≤ bw ∧ h ≤ bh ∧ Good w h p ∧ m [li .int s, .int at_, .int bw, .int bh] = .ok (pic p)
theorem ok_law_some {T : Tb} {fP fD : Nat} (hP : Sp_law_picture (T.fn fP)) (hD : Sp_law_drawn (T.fn fD)) : Sp_law_some (runD T 4 4 (B_law_some fP fD)) := by
  intro s at_ bw bh hs h1 h2 h3 h4 h5 h6
  obtain ⟨a, a1, a2, ea⟩ := hD s at_ bw hs h1 (by omega) (by omega)
  obtain ⟨b, b1, b2, eb⟩ := hD s (at_ + 1) bh hs (by omega) (by omega) (by omega)
  obtain ⟨p, g, cl, e⟩ := hP s (at_ + 2) (a + 1).toNat (b + 1).toNat hs (by omega) (by omega) (by omega) (by omega)
  refine ⟨(a + 1).toNat, (b + 1).toNat, p, by omega, by omega, ⟨g, by omega, by omega, by omega, by omega, cl⟩, ?_⟩
  have e1 : ((a + 1).toNat : Int) = 1 + a := by omega
  have e2 : ((b + 1).toNat : Int) = 1 + b := by omega
  rw [e1, e2] at e
  simp [runD, B_law_some, ea, eb, e]
theorem stepsOk_snoc : ∀ {l : List Int} {a b : Int}, stepsOk (l ++ [a]) = true → (a - b).natAbs < 2 → stepsOk (l ++ [a] ++ [b]) = true
  | [], a, b, _, h => by simp [stepsOk, h]
  | [x], a, b, h1, h => by
    simp [stepsOk] at h1 ⊢
    exact ⟨h1, h⟩
  | x :: y :: l, a, b, h1, h => by
    have e : x :: y :: l ++ [a] = x :: (y :: l ++ [a]) := rfl
    rw [e] at h1
    have h2 : (decide ((x - y).natAbs < 2) && stepsOk (y :: l ++ [a])) = true := h1
    rw [Bool.and_eq_true] at h2
    have h3 := stepsOk_snoc (l := y :: l) h2.2 h
    show (decide ((x - y).natAbs < 2) && stepsOk (y :: l ++ [a] ++ [b])) = true
    rw [h2.1, h3]; rfl
theorem last_snoc (l : List Int) (a : Int) : getI (l ++ [a]) (-1) = a := by
  rw [getI_neg _ (by omega) (by simp; omega)]
  have : (-1 + ((l ++ [a]).length : Int)).toNat = l.length := by simp; omega
  rw [this, List.getD_eq_getElem?_getD]; simp
abbrev Sp_law_way (m : List D → Rs D) : Prop := ∀ (s : List Int) (at_ : Int) (w h : Nat), s.length ≤ 63 → 0 ≤ at_ → at_ < 100000 → 1 ≤ w → w ≤ 20 → 1 ≤ h → h ≤ 20 → ∃ q, Way w h q ∧ m [li .int s, .int at_, .int w, .int h] = .ok (row q)
theorem ok_law_way {T : Tb} {fD : Nat} (hD : Sp_law_drawn (T.fn fD)) : Sp_law_way (runD T 4 6 (B_law_way fD)) := by
  intro s at_ w h hs h1 h2 w1 w2 hh1 hh2
  obtain ⟨a, a1, a2, ea⟩ := hD s at_ w hs h1 (by omega) (by omega)
  have key : ∀ k ∈ upI 0 (h - 1), T.fn fD [li .int s, .int (at_ + 1 + k), .int 3] = .ok (.int (drawV (T.fn fD) s (at_ + 1 + k) 3)) ∧ 0 ≤ drawV (T.fn fD) s (at_ + 1 + k) 3 ∧ drawV (T.fn fD) s (at_ + 1 + k) 3 < 3 := fun k hk => by
    have hk := mem_upI.mp hk
    exact drawV_ok hD hs (by omega) (by omega) (by omega)
  let nx : List Int → Int → List Int := fun acc k => acc ++ [max 0 (min ((w : Int) - 1) (getI acc (-1) + drawV (T.fn fD) s (at_ + 1 + k) 3 - 1))]
  have inv : ∀ (pre acc : List Int) (n : Nat), Way w n acc → (∃ l b, acc = l ++ [b]) → (∀ k ∈ pre, k ∈ upI 0 (h - 1)) → Way w (n + pre.length) (pre.foldl nx acc) ∧ ∃ l b, pre.foldl nx acc = l ++ [b] := by
    intro pre
    induction pre with
    | nil => exact fun acc n q e _ => ⟨q, e⟩
    | cons k pre ih =>
      rintro acc n q ⟨l, b, e⟩ hk
      subst e
      have kk := key k (hk k List.mem_cons_self)
      have hb := q.rng b (by simp)
      have e : nx (l ++ [b]) k = l ++ [b] ++ [max 0 (min ((w : Int) - 1) (b + drawV (T.fn fD) s (at_ + 1 + k) 3 - 1))] := by simp only [nx, last_snoc]
      have i2 := ih (nx (l ++ [b]) k) (n + 1) (by
        rw [e]
        refine ⟨?_, fun x hx => ?_, ?_⟩
        · have := q.len
          simp at this ⊢; omega
        · rcases List.mem_append.mp hx with hx | hx
          · exact q.rng x hx
          · rw [List.mem_singleton.mp hx]; omega
        · exact stepsOk_snoc q.st (by omega)) ⟨_, _, e⟩ fun z hz => hk z (List.mem_cons_of_mem _ hz)
      rw [show n + 1 + pre.length = n + (k :: pre).length by simp; omega] at i2
      exact i2
  have way1 : Way w 1 [a] := ⟨rfl, fun x hx => by rw [List.mem_singleton.mp hx]; exact ⟨a1, a2⟩, rfl⟩
  refine ⟨(upI 0 (h - 1)).foldl nx [a], ?_, ?_⟩
  · have := (inv (upI 0 (h - 1)) [a] 1 way1 ⟨[], a, rfl⟩ fun k hk => hk).1
    rw [len_upI, show 1 + (h - 1) = h by omega] at this
    exact this
  · simp (disch := omega) [runD, B_law_way, ea, it_rng1]
    refine for_preB (fun pre ρ => ∃ z, ρ = [.fz (li .int s), .fz (.int at_), .fz (.int w), .fz (.int h), .ow ((pre.foldl nx [a]).map .int), z]) ⟨_, rfl⟩ ?_ ?_
    · rintro p k q _ ep ⟨z, rfl⟩
      obtain ⟨hl, hk⟩ := pre_len ep
      rw [len_upI] at hl
      have i1 := inv p [a] 1 way1 ⟨[], a, rfl⟩ fun k hk => by rw [ep]; exact List.mem_append_left _ hk
      have hlen := i1.1.len
      have kk := key k hk
      have ef : (p ++ [k]).foldl nx [a] = nx (p.foldl nx [a]) k := by rw [List.foldl_append]; rfl
      have el : idxD (.list ((p.foldl nx [a]).map PyData.int)) (.int (-1)) = .ok (.int (getI (p.foldl nx [a]) (-1))) := idx_li PyData.int _ (by omega) (by omega)
      refine ⟨_, ?_, .fz (.int k), rfl⟩
      rw [ef, show nx (p.foldl nx [a]) k = p.foldl nx [a] ++ [max 0 (min ((w : Int) - 1) (getI (p.foldl nx [a]) (-1) + drawV (T.fn fD) s (at_ + 1 + k) 3 - 1))] from rfl]
      generalize p.foldl nx [a] = acc at *
      simp (disch := omega) [el, kk.1, max_ii, min_ii, -max_int, -min_int, grdFew]
    · rintro _ ⟨z, rfl⟩
      simp
      rfl
end Rf
set_option Elab.async false
set_option linter.all false
set_option autoImplicit false
set_option maxHeartbeats 2000000
set_option maxRecDepth 100000
namespace Rf
open PySem L2
/-- goes on, and how -/
def Nxt (x : Rs Fl) (P : Env → Prop) : Prop := ∃ ρ, x = .ok (.nx ρ) ∧ P ρ
def Bks (x : Rs Fl) (P : Env → Prop) : Prop := ∃ ρ, x = .ok (.bk ρ) ∧ P ρ
/-- the last of a function: a loop whose turns go on -/
theorem for_end {α γ : Type} {step : D → Env → Rs Fl} {h : α → D} {l : List α} {ρ : Env} {k : Fl → Rs γ} {r : Rs γ} (R : List α → Env → Prop) (r0 : R [] ρ) (H : ∀ p a q ρ, l = p ++ a :: q → R p ρ → Nxt (step (h a) ρ) (R (p ++ [a]))) (K : ∀ ρ', R l ρ' → k (.nx ρ') = r) : (forD step (l.map h) ρ).bind k = r :=
  for_preB R r0 H K
structure Marks (w h : Nat) (t : List (List Int)) : Prop extends Rect w h t where
  cl : ∀ r ∈ t, ∀ c ∈ r, 0 ≤ c ∧ c ≤ 2
def nexts (w : Int) (x : Int) : List Int := [x - 1, x, x + 1].filter fun t => decide (0 ≤ t) && decide (t < w)
theorem mem_nexts {w x t : Int} : t ∈ nexts w x ↔ (t = x - 1 ∨ t = x ∨ t = x + 1) ∧ 0 ≤ t ∧ t < w := by
  unfold nexts
  rw [List.mem_filter]
  simp
abbrev pp : Int × Int → D := pr .int .int
abbrev opp : Option (Int × Int) → D := op pp
theorem enc_pp : Enc 2 pp := enc_int.pr enc_int
theorem enc_opp : Enc 2 opp := enc_pp.op (fun a => ⟨rfl, rfl⟩) (by omega)
@[simp] theorem eq_pp (i j : Int × Int) : cmpB .Eq (pp i) (pp j) = .ok (decide (i = j)) := eq_enc enc_pp (by decide) i j
@[simp] theorem ne_pp (i j : Int × Int) : cmpB .NotEq (pp i) (pp j) = .ok (!decide (i = j)) := ne_enc enc_pp (by decide) i j
@[simp] theorem ne_opp (i j : Option (Int × Int)) : cmpB .NotEq (opp i) (opp j) = .ok (!decide (i = j)) := ne_enc enc_opp (by decide) i j
@[simp] theorem eq_opp (i j : Option (Int × Int)) : cmpB .Eq (opp i) (opp j) = .ok (decide (i = j)) := eq_enc enc_opp (by decide) i j
def ltP (a b : Int × Int) : Bool := decide (a.1 < b.1 ∨ (a.1 = b.1 ∧ a.2 < b.2))
@[simp] theorem lt_pp (a b : Int × Int) : cmpB .Lt (pp a) (pp b) = .ok (ltP a b) := by
  show ltD (.tuple [.int a.1, .int a.2]) (.tuple [.int b.1, .int b.2]) = _
  simp only [ltD, PySem.W.dataLt_ii, PySem.W.alike, PySem.W.alikeAll, PyData.depth, PyData.depthAll]
  rfl
end Rf
set_option Elab.async false
set_option linter.all false
set_option autoImplicit false
set_option maxHeartbeats 4000000
set_option maxRecDepth 100000
namespace Rf
open PySem L2
structure Pics (w h : Nat) (ps : List (List (List Int))) : Prop where
  ne : ps ≠ []
  few : ps.length < 1000
  all : ∀ p ∈ ps, Rect w h p
  w1 : 1 ≤ w
  w2 : w ≤ 20
  h1 : 1 ≤ h
  h2 : h ≤ 20
def gone (t : List (List Int)) (x y : Int) : Int := -(if cell t x y = 2 then 1 else 0)
section
variable (w h : Nat) (ps : List (List (List Int))) (mn : Bool) (t : List (List Int))
end
@[simp] theorem isNo_opp (o : Option (Int × Int)) : isNo (opp o) = o.isNone := isNo_op (fun _ => rfl) o
end Rf
set_option Elab.async false
set_option linter.all false
set_option autoImplicit false
set_option maxHeartbeats 4000000
set_option maxRecDepth 100000
namespace Rf
open PySem L2
theorem alk_map {α : Type} {f : α → D} (h : ∀ a b, PySem.W.alike (f a) (f b) = true) (hn : ∀ a, isNo (f a) = false) (l : List α) : alkB (l.map f) = true := by
  unfold alkB
  rw [List.all_map, List.all_eq_true]
  intro a _
  show ((l.map f).all _ && _) = true
  rw [List.all_map, Bool.and_eq_true, List.all_eq_true]
  refine ⟨fun b _ => h a b, ?_⟩
  have := hn a
  revert this
  cases f a <;> intro q <;> first | rfl | cases q
theorem best_map {α : Type} {n : Nat} {f : α → D} (e : Enc n f) (hn : n ≤ 60) (h : ∀ a b, PySem.W.alike (f a) (f b) = true) (hi : ∀ a, isNo (f a) = false) (F : D → List D → D) (x : α) (xs : List α) : bestD F ((x :: xs).map f) = .ok (F (f x) (xs.map f)) := by
  show grd (alkB ((x :: xs).map f) && (PyData.canLayAll0 ((x :: xs).map f) && Nat.ble (PyData.depthAll ((x :: xs).map f)) 60)) _ = _
  have e3 : Nat.ble (PyData.depthAll ((x :: xs).map f)) 60 = true := by
    rw [Nat.ble_eq]
    have := depAll_map e (x :: xs)
    omega
  rw [alk_map h hi, layAll_map e, e3]; rfl
/-- the least, the greatest, by an order -/
def minBy {α : Type} (lt : α → α → Bool) (x : α) (xs : List α) : α := xs.foldl (fun a y => if lt y a = true then y else a) x
def maxBy {α : Type} (lt : α → α → Bool) (x : α) (xs : List α) : α := xs.foldl (fun a y => if lt a y = true then y else a) x
theorem minD_by {α : Type} {f : α → D} {lt : α → α → Bool} (h : ∀ a b, PySem.W.dataLt (f a) (f b) = lt a b) : ∀ (xs : List α) (x : α), PySem.W.minD (f x) (xs.map f) = f (minBy lt x xs)
  | [], _ => rfl
  | y :: xs, x => by
    have := minD_by h xs (if lt y x = true then y else x)
    unfold PySem.W.minD minBy at *
    rw [List.map_cons, List.foldl_cons, List.foldl_cons, h, ← this]
    cases lt y x <;> rfl
theorem maxD_by {α : Type} {f : α → D} {lt : α → α → Bool} (h : ∀ a b, PySem.W.dataLt (f a) (f b) = lt a b) : ∀ (xs : List α) (x : α), PySem.W.maxD (f x) (xs.map f) = f (maxBy lt x xs)
  | [], _ => rfl
  | y :: xs, x => by
    have := maxD_by h xs (if lt x y = true then y else x)
    unfold PySem.W.maxD maxBy at *
    rw [List.map_cons, List.foldl_cons, List.foldl_cons, h, ← this]
    cases lt x y <;> rfl
theorem alike_int (a b : Int) : PySem.W.alike (.int a) (.int b) = true := by simp only [PySem.W.alike]
def ltI (a b : Int) : Bool := decide (a < b)
theorem dataLt_intI (a b : Int) : PySem.W.dataLt (.int a) (.int b) = ltI a b := PySem.W.dataLt_int _ _
theorem max_row (x : Int) (xs : List Int) : bclD .max [row (x :: xs)] = .ok (.int (maxBy ltI x xs)) := by
  show bestD PySem.W.maxD ((x :: xs).map .int) = _
  rw [best_map enc_int (by decide) alike_int (fun _ => rfl), maxD_by dataLt_intI]
theorem min_row (x : Int) (xs : List Int) : bclD .min [row (x :: xs)] = .ok (.int (minBy ltI x xs)) := by
  show bestD PySem.W.minD ((x :: xs).map .int) = _
  rw [best_map enc_int (by decide) alike_int (fun _ => rfl), minD_by dataLt_intI]
@[simp] theorem metOk_li {α : Type} (f : α → D) (l : List α) : metOk .index (li f l) = true := id rfl
section
variable (w h : Nat) (ps : List (List (List Int))) (mn : Bool) (t : List (List Int))
end
end Rf
set_option Elab.async false
set_option linter.all false
set_option autoImplicit false
set_option maxHeartbeats 2000000
set_option maxRecDepth 100000
namespace Rf
open PySem L2
def leP (a b : Int × Int) : Prop := a.1 < b.1 ∨ (a.1 = b.1 ∧ a.2 ≤ b.2)
theorem leP_antisymm {a b : Int × Int} (h : leP a b) (k : leP b a) : a = b := by
  unfold leP at *
  exact Prod.ext (by omega) (by omega)
/-- in range, each beside the last -/
structure Sub (w : Nat) (s : List Int) : Prop where
  rng : ∀ x ∈ s, 0 ≤ x ∧ x < (w : Int)
  st : stepsOk s = true
theorem Way.sub {w h : Nat} {s : List Int} (q : Way w h s) : Sub w s := ⟨q.rng, q.st⟩
theorem Sub.tail {w : Nat} {x : Int} {s : List Int} (q : Sub w (x :: s)) : Sub w s := by
  refine ⟨fun y hy => q.rng y (List.mem_cons_of_mem _ hy), ?_⟩
  cases s with
  | nil => rfl
  | cons y s =>
    have : (decide ((x - y).natAbs < 2) && stepsOk (y :: s)) = true := q.st
    rw [Bool.and_eq_true] at this
    exact this.2
theorem Sub.next {w : Nat} {x y : Int} {s : List Int} (q : Sub w (x :: y :: s)) : y ∈ nexts w x := by
  have : (decide ((x - y).natAbs < 2) && stepsOk (y :: s)) = true := q.st
  rw [Bool.and_eq_true, decide_eq_true_eq] at this
  have r := q.rng y (by simp)
  rw [mem_nexts]
  omega
theorem Sub.cons {w : Nat} {x y : Int} {s : List Int} (hx : 0 ≤ x ∧ x < (w : Int)) (hy : y ∈ nexts w x) (q : Sub w (y :: s)) : Sub w (x :: y :: s) := by
  refine ⟨fun z hz => ?_, ?_⟩
  · rcases List.mem_cons.mp hz with e | e
    · rw [e]; exact hx
    · exact q.rng z e
  · have := mem_nexts.mp hy
    show (decide ((x - y).natAbs < 2) && stepsOk (y :: s)) = true
    rw [q.st, Bool.and_true, decide_eq_true_eq]
    omega
theorem Sub.one {w : Nat} {x : Int} (hx : 0 ≤ x ∧ x < (w : Int)) : Sub w [x] := ⟨fun z hz => by rw [List.mem_singleton.mp hz]; exact hx, rfl⟩
section
variable (ps : List (List (List Int))) (mn : Bool) (t : List (List Int))
end
section
variable {w h : Nat} {ps : List (List (List Int))} {mn : Bool} {t : List (List Int)}
end
end Rf
set_option Elab.async false
set_option linter.all false
set_option autoImplicit false
set_option maxHeartbeats 2000000
set_option maxRecDepth 100000
namespace Rf
open PySem L2
/-- the least of all, by what it is worth, then by order -/
structure Least (w h : Nat) (tot : List Int → Option (Int × Int)) (r : Option (List Int)) : Prop where
  none : r = none → ∀ s, Way w h s → tot s = none
  some : ∀ s, r = some s → Way w h s ∧ ∃ v, tot s = some v ∧ ∀ s', Way w h s' → ∀ v', tot s' = some v' → leP v v' ∧ (v' = v → s ≤ s')
theorem Least.unique {w h : Nat} {tot : List Int → Option (Int × Int)} {r r' : Option (List Int)} (a : Least w h tot r) (b : Least w h tot r') : r = r' := by
  cases r with
  | none =>
    cases r' with
    | none => rfl
    | some s' =>
      obtain ⟨q, v, e, _⟩ := b.some s' rfl
      rw [a.none rfl s' q] at e; cases e
  | some s =>
    obtain ⟨q, v, e, k⟩ := a.some s rfl
    cases r' with
    | none => rw [b.none rfl s q] at e; cases e
    | some s' =>
      obtain ⟨q', v', e', k'⟩ := b.some s' rfl
      have h1 := k s' q' v' e'
      have h2 := k' s q v e
      have ev := leP_antisymm h1.1 h2.1
      subst ev
      rw [List.le_antisymm (h1.2 rfl) (h2.2 rfl)]
section
variable {w h : Nat} {ps : List (List (List Int))} {mn : Bool} {t : List (List Int)}
end
end Rf
set_option Elab.async false
set_option linter.all false
set_option autoImplicit false
set_option maxHeartbeats 2000000
set_option maxRecDepth 100000
namespace Rf
open PySem L2
abbrev Tri := (Int × Int) × List Int
def tri (q : Tri) : D := .tuple [.int q.1.1, .int q.1.2, row q.2]
def ltT (a b : Tri) : Bool := ltP a.1 b.1 || (decide (a.1 = b.1) && decide (a.2 < b.2))
end Rf
set_option Elab.async false
set_option linter.all false
set_option autoImplicit false
set_option maxHeartbeats 2000000
set_option maxRecDepth 100000
namespace Rf
open PySem L2
theorem alike_row (a b : List Int) : PySem.W.alike (row a) (row b) = true := by
  show PySem.W.alike (.tuple _) (.tuple _) = true
  simp only [PySem.W.alike]
  exact PySem.W.alike_ints a b
theorem dataLt_row (a b : List Int) : PySem.W.dataLt (row a) (row b) = decide (a < b) := by
  show PySem.W.dataLt (.tuple _) (.tuple _) = _
  rw [PySem.W.dataLt_tuple]
  exact PySem.W.dataLt_ints a b
theorem alike_tri (a b : Tri) : PySem.W.alike (tri a) (tri b) = true := by
  show PySem.W.alike (.tuple _) (.tuple _) = true
  simp only [PySem.W.alike, PySem.W.alikeAll, alike_row]
  rfl
theorem dataLt_tri (a b : Tri) : PySem.W.dataLt (tri a) (tri b) = ltT a b := by
  show PySem.W.dataLt (.tuple [.int a.1.1, .int a.1.2, row a.2]) (.tuple [.int b.1.1, .int b.1.2, row b.2]) = _
  have e0 : PyProof.Rows.lexLt PyProof.Rows.itemOrd (PySem.W.keyToksAll []) (PySem.W.keyToksAll []) = false := PyProof.Rows.lex_irrefl _
  rw [PySem.W.dataLt_tuple, PySem.W.dataLt_cons (alike_int _ _), PySem.W.dataLt_cons (alike_int _ _), PySem.W.dataLt_cons (alike_row _ _), PySem.W.dataLt_int, PySem.W.dataLt_int, dataLt_row, e0]
  have q1 : ∀ x y : Int, (PyData.eqv (.int x) (.int y) = true) = (x = y) := fun x y => propext (enc_int.eqv x y)
  have q2 : (PyData.eqv (row a.2) (row b.2) = true) = (a.2 = b.2) := propext (enc_row.eqv _ _)
  simp only [q1, q2]
  unfold ltT ltP
  by_cases c1 : a.1.1 = b.1.1
  · rw [if_pos c1]
    by_cases c2 : a.1.2 = b.1.2
    · have e : a.1 = b.1 := Prod.ext c1 c2
      rw [if_pos c2]
      by_cases c3 : a.2 = b.2
      · rw [if_pos c3]
        have : ¬ (b.2 < b.2) := List.lt_irrefl _
        simp [e, c3, this]
      · rw [if_neg c3]; simp [e]
    · rw [if_neg c2]
      have e : ¬ a.1 = b.1 := fun z => c2 (by rw [z])
      simp [c1, e]
  · rw [if_neg c1]
    have e : ¬ a.1 = b.1 := fun z => c1 (by rw [z])
    simp [c1, e]
theorem enc_tri : Enc 3 tri := by
  refine ⟨fun a b => ?_, fun a => ?_, fun a => ?_⟩
  · have r := enc_row.eqv a.2 b.2
    unfold tri
    simp only [PyData.eqv, PyData.eqvAll, Bool.and_eq_true, and_true, decide_eq_true_eq] at r ⊢
    have r' : (PyData.eqv (row a.2) (row b.2) = true) ↔ a.2 = b.2 := enc_row.eqv a.2 b.2
    rw [r']
    constructor
    · rintro ⟨h1, h2, h3⟩
      have h1 : a.1.1 = b.1.1 := by simpa using h1
      have h2 : a.1.2 = b.1.2 := by simpa using h2
      exact Prod.ext (Prod.ext h1 h2) h3
    · rintro rfl
      simp
  · have := lay_row a.2
    unfold tri
    simp [PyData.canLay0, PyData.canLayAll0, this]
  · have := enc_row.dep a.2
    unfold tri
    simp only [PyData.depth, PyData.depthAll]
    omega
theorem lt_of_map {α : Type} {n : Nat} {f : α → D} (e : Enc n f) (hn : n ≤ 60) (xs ys : List D) (a b : α) (ha : f a = .tuple xs) (hb : f b = .tuple ys) (al : PySem.W.alike (f a) (f b) = true) : cmpB .Lt (f a) (f b) = .ok (PySem.W.dataLt (f a) (f b)) := by
  have hd := e.dep a
  rw [ha] at hd al ⊢
  rw [hb] at al ⊢
  show ltD (.tuple xs) (.tuple ys) = _
  simp only [ltD]
  have : Nat.ble (PyData.tuple xs).depth 60 = true := by rw [Nat.ble_eq]; omega
  have la := nod_lay (e.lay a)
  have lb := nod_lay (e.lay b)
  rw [ha] at la
  rw [hb] at lb
  have la : nodAll xs = true := la
  have lb : nodAll ys = true := lb
  rw [al, this, la, lb]; rfl
@[simp] theorem lt_tri (a b : Tri) : cmpB .Lt (tri a) (tri b) = .ok (ltT a b) := by
  rw [lt_of_map enc_tri (by decide) _ _ a b rfl rfl (alike_tri a b), dataLt_tri]
@[simp] theorem isNo_tri (a : Tri) : isNo (tri a) = false := id rfl
@[simp] theorem lt_row (a b : List Int) : cmpB .Lt (row a) (row b) = .ok (decide (a < b)) := by
  rw [lt_of_map enc_row (by decide) _ _ a b rfl rfl (alike_row a b), dataLt_row]
abbrev orow : Option (List Int) → D := op row
theorem enc_orow : Enc 2 orow := enc_row.op (fun a => ⟨rfl, rfl⟩) (by omega)
@[simp] theorem eq_orow (i j : Option (List Int)) : cmpB .Eq (orow i) (orow j) = .ok (decide (i = j)) := eq_enc enc_orow (by decide) i j
@[simp] theorem ne_orow (i j : Option (List Int)) : cmpB .NotEq (orow i) (orow j) = .ok (!decide (i = j)) := ne_enc enc_orow (by decide) i j
end Rf
set_option Elab.async false
set_option linter.all false
set_option autoImplicit false
set_option maxHeartbeats 2000000
set_option maxRecDepth 100000
namespace Rf
open PySem L2
abbrev topp : List (Option (Int × Int)) → D := tu opp
theorem enc_topp : Enc 3 topp := enc_opp.tu
theorem enc_paper : Enc 4 (tu topp) := enc_topp.tu
@[simp] theorem eq_paper (i j : List (List (Option (Int × Int)))) : cmpB .Eq (tu topp i) (tu topp j) = .ok (decide (i = j)) := eq_enc enc_paper (by decide) i j
@[simp] theorem ne_paper (i j : List (List (Option (Int × Int)))) : cmpB .NotEq (tu topp i) (tu topp j) = .ok (!decide (i = j)) := ne_enc enc_paper (by decide) i j
@[simp] theorem ne_topp (i j : List (Option (Int × Int))) : cmpB .NotEq (topp i) (topp j) = .ok (!decide (i = j)) := ne_enc enc_topp (by decide) i j
@[simp] theorem eq_topp (i j : List (Option (Int × Int))) : cmpB .Eq (topp i) (topp j) = .ok (decide (i = j)) := eq_enc enc_topp (by decide) i j
end Rf
set_option Elab.async false
set_option linter.all false
set_option autoImplicit false
set_option maxHeartbeats 2000000
set_option maxRecDepth 100000
namespace Rf
open PySem L2
section
variable {w h : Nat} {p : List (List Int)}
theorem way_mir {s : List Int} (q : Way w h s) : Way w h (s.map fun x => (w : Int) - 1 - x) := by
  refine ⟨by rw [List.length_map, q.len], fun x hx => ?_, ?_⟩
  · obtain ⟨z, hz, rfl⟩ := List.mem_map.mp hx
    have := q.rng z hz
    omega
  · have := q.st
    rw [stepsOk_zip] at this ⊢
    rw [← List.map_tail, List.zip_map, List.all_map]
    rw [List.all_eq_true] at this ⊢
    intro z hz
    have := this z hz
    simp only [Function.comp, Prod.map, decide_eq_true_eq] at this ⊢
    omega
end
def flat (w h : Nat) (c : Int) : List (List Int) := List.replicate h (List.replicate w c)
end Rf
set_option Elab.async false
set_option linter.all false
set_option autoImplicit false
set_option maxHeartbeats 2000000
set_option maxRecDepth 100000
namespace Rf
open PySem L2
section
variable {w h : Nat} {ps : List (List (List Int))} {mn : Bool} {t : List (List Int)}
end
section
variable {w h : Nat} {p t : List (List Int)} {mn : Bool}
end
end Rf
set_option Elab.async false
set_option linter.all false
set_option autoImplicit false
set_option maxHeartbeats 2000000
set_option maxRecDepth 100000
namespace Rf
open PySem L2
def cutR (r : List Int) (x : Int) : List Int := r.take x.toNat ++ r.drop (x + 1).toNat
def cutV (rows : List (List Int)) (s : List Int) : List (List Int) := (rows.zip s).map fun q => cutR q.1 q.2
theorem cutR_len {r : List Int} {x : Int} (h1 : 0 ≤ x) (h2 : x < r.length) : (cutR r x).length = r.length - 1 := by
  unfold cutR
  rw [List.length_append, List.length_take, List.length_drop]
  omega
theorem cut_rect {w h : Nat} {p : List (List Int)} {s : List Int} (g : Rect w h p) (q : Way w h s) : Rect (w - 1) h (cutV p s) := by
  have hh := g.hh
  have hl := q.len
  refine ⟨by unfold cutV; rw [List.length_map, List.length_zip]; omega, fun r hr => ?_⟩
  obtain ⟨⟨r0, x⟩, hm, rfl⟩ := List.mem_map.mp hr
  have hx := q.rng x (List.of_mem_zip hm).2
  have hw := g.ww r0 (List.of_mem_zip hm).1
  have hx : 0 ≤ x ∧ x < (w : Int) := hx
  have hw : r0.length = w := hw
  show (cutR r0 x).length = _
  rw [cutR_len hx.1 (by omega), hw]
theorem cut_mem {p : List (List Int)} {s : List Int} {r : List Int} {c : Int} (hr : r ∈ cutV p s) (hc : c ∈ r) : ∃ r0 ∈ p, c ∈ r0 := by
  obtain ⟨⟨r0, x⟩, hm, rfl⟩ := List.mem_map.mp hr
  refine ⟨r0, (List.of_mem_zip hm).1, ?_⟩
  unfold cutR at hc
  rcases List.mem_append.mp hc with h | h
  · exact List.mem_of_mem_take h
  · exact List.mem_of_mem_drop h
theorem cut_good {w h : Nat} {p : List (List Int)} {s : List Int} (g : Good w h p) (q : Way w h s) (h2 : 2 ≤ w) : Good (w - 1) h (cutV p s) := by
  have w2 := g.w2
  refine ⟨cut_rect g.toRect q, by omega, by omega, g.h1, g.h2, fun r hr c hc => ?_⟩
  obtain ⟨r0, h0, hc0⟩ := cut_mem hr hc
  exact g.cl r0 h0 c hc0
abbrev Sp_without (m : List D → Rs D) : Prop := ∀ w h p s, Rect w h p → w < 1000 → h < 1000 → Way w h s → m [pic p, row s] = .ok (pic (cutV p s))
theorem ok_without {T : Tb} : Sp_without (runD T 2 4 B_without) := by
  intro w h p s g hw hh q
  have h1 := g.hh
  simp [runD, B_without]
  rw [cmpr_li row (fun q : List Int × Int => cutR q.1 q.2) rfl (by simp; omega)]
  · simp [cutV]
  · rintro ⟨r, x⟩ hm
    have hx := q.rng x (List.of_mem_zip hm).2
    have hr := g.ww r (List.of_mem_zip hm).1
    have c1 : cutD r none (some x) = r.take x.toNat := cut_to _ hx.1
    have c2 : cutD r (some (x + 1)) none = r.drop (x + 1).toNat := cut_from _ (by omega)
    have a1 : binD .Add (row (r.take x.toNat)) (row (r.drop (x + 1).toNat)) = .ok (row (cutR r x)) := add_tu .int _ _ (by simp; omega)
    simp [pr, c1, c2, a1]
def cellsV (p : List (List Int)) (s : List Int) : List Int := (p.zip s).map fun q => getI q.1 q.2
def isCells : D → Int → Bool
  | .tuple xs, h => decide ((xs.length : Int) = h) && xs.all fun d => isNum d 0 99
  | _, _ => false
abbrev Sp_is_cells (m : List D → Rs D) : Prop := ∀ (d : D) (h : Int), d.canLay0 = true → h < 1000000 → m [d, .int h] = .ok (.bool (isCells d h))
theorem ok_is_cells {T : Tb} {fN gM : Nat} (hN : Sp_is_number (T.fn fN)) (hM : T.gl gM = .ok (.int 99)) : Sp_is_cells (runD T 2 3 (B_is_cells fN gM)) := by
  intro d h hd hh
  cases d <;> first | (simp [PyData.canLay0] at hd; done) | simp [runD, B_is_cells, isCells]
  rename_i xs
  simp only [PyData.canLay0] at hd
  by_cases e : (xs.length : Int) = h
  · simp [e]
    rw [cmpr_li .bool (fun d => isNum d 0 99) (map_id' xs) (by omega) fun a ha => by simp [hM, hN _ _ _ (lay_mem hd ha)]]
    simp [List.all_map, Function.comp_def]
  · simp [e]
abbrev Step := List Int × List Int
abbrev stp : Step → D := pr row row
abbrev opic : Option (List (List Int)) → D := op pic
abbrev ohis : Option (List Step) → D := op (li stp)
theorem enc_opic : Enc 3 opic := enc_pic.op (fun a => ⟨rfl, rfl⟩) (by omega)
theorem enc_stp : Enc 3 stp := enc_row.pr enc_row
theorem enc_ohis : Enc 4 ohis := enc_stp.li.op (fun a => ⟨rfl, rfl⟩) (by omega)
@[simp] theorem eq_opic (i j : Option (List (List Int))) : cmpB .Eq (opic i) (opic j) = .ok (decide (i = j)) := eq_enc enc_opic (by decide) i j
@[simp] theorem ne_opic (i j : Option (List (List Int))) : cmpB .NotEq (opic i) (opic j) = .ok (!decide (i = j)) := ne_enc enc_opic (by decide) i j
@[simp] theorem eq_ohis (i j : Option (List Step)) : cmpB .Eq (ohis i) (ohis j) = .ok (decide (i = j)) := eq_enc enc_ohis (by decide) i j
@[simp] theorem ne_ohis (i j : Option (List Step)) : cmpB .NotEq (ohis i) (ohis j) = .ok (!decide (i = j)) := ne_enc enc_ohis (by decide) i j
def t3 {α β γ : Type} (f : α → D) (g : β → D) (k : γ → D) (q : α × β × γ) : D := .tuple [f q.1, g q.2.1, k q.2.2]
theorem zip3_map {α β γ : Type} (f : α → D) (g : β → D) (k : γ → D) : ∀ (l : List α) (m : List β) (n : List γ), zip3 (l.map f) (m.map g) (n.map k) = (l.zip (m.zip n)).map (t3 f g k)
  | [], _, _ => by simp [zip3]
  | _ :: _, [], _ => by simp [zip3]
  | _ :: _, _ :: _, [] => by simp [zip3]
  | a :: l, b :: m, c :: n => by
    show _ :: zip3 (l.map f) (m.map g) (n.map k) = _
    rw [zip3_map f g k l m n]; rfl
theorem it_zip3 {α β γ : Type} {f : α → D} {g : β → D} {k : γ → D} {l : List α} {m : List β} {n : List γ} {x y z : D} (h1 : itsD x = .ok (l.map f)) (h2 : itsD y = .ok (m.map g)) (h3 : itsD z = .ok (n.map k)) : itD .zip [x, y, z] = .ok ((l.zip (m.zip n)).map (t3 f g k)) := by
  show (itsD x).bind (fun xs => (itsD y).bind fun ys => (itsD z).map fun zs => zip3 xs ys zs) = _
  rw [h1, h2, h3]
  show Rs.ok (zip3 (l.map f) (m.map g) (n.map k)) = _
  rw [zip3_map]
@[simp] theorem it_zip3_t {α β γ : Type} (f : α → D) (g : β → D) (k : γ → D) (l : List α) (m : List β) (n : List γ) : itD .zip [tu f l, tu g m, tu k n] = .ok ((l.zip (m.zip n)).map (t3 f g k)) := it_zip3 rfl rfl rfl
def putR (r : List Int) (x c : Int) : List Int := r.take x.toNat ++ [c] ++ r.drop x.toNat
def putV (rows : List (List Int)) (s c : List Int) : List (List Int) := (rows.zip (s.zip c)).map fun q => putR q.1 q.2.1 q.2.2
abbrev Sp_put_in (m : List D → Rs D) : Prop := ∀ w h p s c, Rect w h p → w < 1000 → h < 1000 → Way (w + 1) h s → c.length = h → m [pic p, row s, row c] = .ok (pic (putV p s c))
theorem ok_put_in {T : Tb} : Sp_put_in (runD T 3 6 B_put_in) := by
  intro w h p s c g hw hh q hc
  have h1 := g.hh
  have hl := q.len
  simp [runD, B_put_in]
  rw [cmpr_li row (fun q : List Int × Int × Int => putR q.1 q.2.1 q.2.2) rfl (by simp; omega)]
  · simp [putV]
  · rintro ⟨r, x, z⟩ hm
    have hr := g.ww r (List.of_mem_zip hm).1
    have hx := q.rng x (List.of_mem_zip (List.of_mem_zip hm).2).1
    have c1 : cutD r none (some x) = r.take x.toNat := cut_to _ hx.1
    have c2 : cutD r (some x) none = r.drop x.toNat := cut_from _ hx.1
    have a1 : binD .Add (row (r.take x.toNat)) (.tuple [.int z]) = .ok (row (r.take x.toNat ++ [z])) := add_tu .int _ [z] (by simp; omega)
    have a2 : binD .Add (row (r.take x.toNat ++ [z])) (row (r.drop x.toNat)) = .ok (row (putR r x z)) := add_tu .int _ _ (by simp; omega)
    simp [t3, c1, c2, a1, a2]
end Rf
set_option Elab.async false
set_option linter.all false
set_option autoImplicit false
set_option maxHeartbeats 2000000
set_option maxRecDepth 100000
namespace Rf
open PySem L2
end Rf
set_option Elab.async false
set_option linter.all false
set_option autoImplicit false
set_option maxHeartbeats 4000000
set_option maxRecDepth 100000
namespace Rf
open PySem L2
section
variable (w h : Nat) (p : List (List Int)) (mn : Bool) (t : List (List Int))
end
section
variable {w h : Nat} {p : List (List Int)} {mn : Bool} {t : List (List Int)}
end
end Rf
set_option Elab.async false
set_option linter.all false
set_option autoImplicit false
set_option maxHeartbeats 2000000
set_option maxRecDepth 100000
namespace Rf
open PySem L2
end Rf
set_option Elab.async false
set_option linter.all false
set_option autoImplicit false
set_option maxHeartbeats 4000000
set_option maxRecDepth 100000
namespace Rf
open PySem L2
end Rf
set_option Elab.async false
set_option linter.all false
set_option autoImplicit false
set_option maxHeartbeats 2000000
set_option maxRecDepth 100000
namespace Rf
open PySem L2
end Rf
set_option Elab.async false
set_option linter.all false
set_option autoImplicit false
set_option maxHeartbeats 2000000
set_option maxRecDepth 100000
namespace Rf
open PySem L2
theorem isCells_row {c : List Int} {h : Nat} (hl : c.length = h) (hc : ∀ z ∈ c, 0 ≤ z ∧ z ≤ 99) : isCells (row c) h = true := by
  show (decide _ && _) = true
  rw [Bool.and_eq_true, decide_eq_true_eq, List.length_map, hl]
  refine ⟨rfl, ?_⟩
  rw [all_num, List.all_eq_true]
  intro z hz
  have := hc z hz
  simp [this.1, this.2]
theorem put_rect {w h : Nat} {p : List (List Int)} {s c : List Int} (g : Rect w h p) (q : Way (w + 1) h s) (hc : c.length = h) : Rect (w + 1) h (putV p s c) := by
  have hh := g.hh
  have hl := q.len
  refine ⟨by unfold putV; rw [List.length_map, List.length_zip, List.length_zip]; omega, fun r hr => ?_⟩
  obtain ⟨⟨r0, x, z⟩, hm, rfl⟩ := List.mem_map.mp hr
  have hx := q.rng x (List.of_mem_zip (List.of_mem_zip hm).2).1
  have hw := g.ww r0 (List.of_mem_zip hm).1
  have hx : 0 ≤ x ∧ x < ((w + 1 : Nat) : Int) := hx
  have hw : r0.length = w := hw
  show (putR r0 x z).length = _
  unfold putR
  rw [List.length_append, List.length_append, List.length_take, List.length_drop, List.length_singleton]
  omega
end Rf
set_option Elab.async false
set_option linter.all false
set_option autoImplicit false
set_option maxHeartbeats 4000000
set_option maxRecDepth 100000
namespace Rf
open PySem L2
theorem putR_cutR {r : List Int} {x : Int} (h1 : 0 ≤ x) (h2 : x < r.length) : putR (cutR r x) x (getI r x) = r := by
  obtain ⟨k, rfl⟩ := Int.eq_ofNat_of_zero_le h1
  have hk : k < r.length := by omega
  unfold putR cutR
  rw [getI_nat, List.getD_eq_getElem?_getD, List.getElem?_eq_getElem hk]
  have e1 : ((k : Int)).toNat = k := by omega
  have e2 : ((k : Int) + 1).toNat = k + 1 := by omega
  rw [e1, e2, List.take_append_of_le_length (by rw [List.length_take]; omega), List.take_take, Nat.min_self, List.drop_append_of_le_length (by rw [List.length_take]; omega)]
  have : (r.take k).drop k = [] := by rw [List.drop_eq_nil_iff, List.length_take]; omega
  rw [this, List.nil_append]
  show r.take k ++ [r[k]] ++ r.drop (k + 1) = r
  rw [List.append_assoc]
  show r.take k ++ (r[k] :: r.drop (k + 1)) = r
  rw [← List.drop_eq_getElem_cons hk, List.take_append_drop]
theorem put_cut : ∀ {p : List (List Int)} {s : List Int} {w : Nat}, p.length = s.length → (∀ r ∈ p, r.length = w) → (∀ x ∈ s, 0 ≤ x ∧ x < (w : Int)) → putV (cutV p s) s (cellsV p s) = p
  | [], [], _, _, _, _ => rfl
  | r :: p, x :: s, w, hl, hw, hx => by
    have ih := put_cut (p := p) (s := s) (by simpa using hl) (fun r hr => hw r (List.mem_cons_of_mem _ hr)) fun z hz => hx z (List.mem_cons_of_mem _ hz)
    have hr := hw r List.mem_cons_self
    have hxx := hx x List.mem_cons_self
    show putR (cutR r x) x (getI r x) :: putV (cutV p s) s (cellsV p s) = r :: p
    rw [ih, putR_cutR hxx.1 (by omega)]
theorem cells_ok {w h : Nat} {p : List (List Int)} {s : List Int} (g : Good w h p) (q : Way w h s) : (cellsV p s).length = h ∧ ∀ c ∈ cellsV p s, 0 ≤ c ∧ c ≤ 99 := by
  have hh := g.hh
  have hl := q.len
  refine ⟨by unfold cellsV; rw [List.length_map, List.length_zip]; omega, fun c hc => ?_⟩
  obtain ⟨⟨r, x⟩, hm, rfl⟩ := List.mem_map.mp hc
  have hx := q.rng x (List.of_mem_zip hm).2
  have hr := (List.of_mem_zip hm).1
  have hw := g.ww r hr
  exact g.cl r hr _ (getI_mem (by omega) (by omega))
end Rf
set_option Elab.async false
set_option linter.all false
set_option autoImplicit false
set_option maxHeartbeats 2000000
set_option maxRecDepth 100000
namespace Rf
open PySem L2
theorem in_enc {α : Type} [DecidableEq α] {n : Nat} {f : α → D} (h : Enc n f) (hn : n + 1 ≤ 64) (a : α) (l : List α) : cmpB .In (f a) (li f l) = .ok (decide (a ∈ l)) := by
  show grd (SeqAt.shaped (f a) && SeqAt.shaped (li f l)) (.ok ((l.map f).any fun z => PyData.eqv z (f a))) = _
  rw [shaped_enc h (by omega), shaped_enc h.li hn]
  show Rs.ok _ = _
  congr 1
  rw [List.any_map, Bool.eq_iff_iff, List.any_eq_true, decide_eq_true_eq]
  constructor
  · rintro ⟨b, hb, e⟩
    rw [← (h.eqv b a).mp e]; exact hb
  · intro hm
    exact ⟨a, hm, (h.eqv a a).mpr rfl⟩
theorem in_encT {α : Type} [DecidableEq α] {n : Nat} {f : α → D} (h : Enc n f) (hn : n + 1 ≤ 64) (a : α) (l : List α) : cmpB .In (f a) (tu f l) = .ok (decide (a ∈ l)) := by
  show grd (SeqAt.shaped (f a) && SeqAt.shaped (tu f l)) (.ok ((l.map f).any fun z => PyData.eqv z (f a))) = _
  rw [shaped_enc h (by omega), shaped_enc h.tu hn]
  show Rs.ok _ = _
  congr 1
  rw [List.any_map, Bool.eq_iff_iff, List.any_eq_true, decide_eq_true_eq]
  constructor
  · rintro ⟨b, hb, e⟩
    rw [← (h.eqv b a).mp e]; exact hb
  · intro hm
    exact ⟨a, hm, (h.eqv a a).mpr rfl⟩
@[simp] theorem in_row (i : Int) (r : List Int) : cmpB .In (.int i) (row r) = .ok (decide (i ∈ r)) := in_encT enc_int (by decide) i r
@[simp] theorem in_rows (s : List Int) (r : List (List Int)) : cmpB .In (row s) (li row r) = .ok (decide (s ∈ r)) := (in_enc enc_row (by decide) s r).trans (by congr)
theorem ne_nilE {α : Type} [DecidableEq α] {n : Nat} {f : α → D} (h : Enc n f) (hn : n + 1 ≤ 64) (l : List α) : cmpB .NotEq (li f l) (.list []) = .ok (!decide (l = [])) := ne_enc h.li hn l []
theorem eq_nilE {α : Type} [DecidableEq α] {n : Nat} {f : α → D} (h : Enc n f) (hn : n + 1 ≤ 64) (l : List α) : cmpB .Eq (li f l) (.list []) = .ok (decide (l = [])) := eq_enc h.li hn l []
@[simp] theorem ne_nilR (l : List (List Int)) : cmpB .NotEq (li row l) (.list []) = .ok (!decide (l = [])) := ne_nilE enc_row (by decide) l
@[simp] theorem eq_nilR (l : List (List Int)) : cmpB .Eq (li row l) (.list []) = .ok (decide (l = [])) := eq_nilE enc_row (by decide) l
abbrev rows : List (List Int) → D := li row
abbrev orows : Option (List (List Int)) → D := op rows
theorem enc_orows : Enc 3 orows := enc_row.li.op (fun a => ⟨rfl, rfl⟩) (by omega)
@[simp] theorem eq_orows (i j : Option (List (List Int))) : cmpB .Eq (orows i) (orows j) = .ok (decide (i = j)) := eq_enc enc_orows (by decide) i j
@[simp] theorem ne_orows (i j : Option (List (List Int))) : cmpB .NotEq (orows i) (orows j) = .ok (!decide (i = j)) := ne_enc enc_orows (by decide) i j
/-- a for, with what is left to do -/
theorem for_rem {α γ : Type} {step : D → Env → Rs Fl} {h : α → D} {k : Fl → Rs γ} {z : Rs γ} (R : List α → Env → Prop) (H0 : ∀ ρ, R [] ρ → k (.nx ρ) = z)
    (H : ∀ a l ρ, R (a :: l) ρ → (∃ ρ', step (h a) ρ = .ok (.nx ρ') ∧ R l ρ') ∨ (∃ d, step (h a) ρ = .ok (.rt d) ∧ k (.rt d) = z) ∨ (∃ ρ', step (h a) ρ = .ok (.bk ρ') ∧ k (.nx ρ') = z)) : ∀ (l : List α) (ρ : Env), R l ρ → (forD step (l.map h) ρ).bind k = z
  | [], ρ, r => H0 ρ r
  | a :: l, ρ, r => by
    rw [List.map_cons]
    show ((step (h a) ρ).bind _).bind k = z
    rcases H a l ρ r with ⟨ρ', e, r'⟩ | ⟨d, e, e2⟩ | ⟨ρ', e, e2⟩
    · rw [e]; exact for_rem R H0 H l ρ' r'
    · rw [e]; exact e2
    · rw [e]; exact e2
theorem for_bkr {α γ : Type} {step : D → Env → Rs Fl} {h : α → D} {k : Kt Fl γ} {z : Rs γ} {l : List α} {ρ : Env} (R : List α → Env → Prop) (r : R l ρ) (H0 : ∀ ρ, R [] ρ → k.go (.nx ρ) = z)
    (H : ∀ a l ρ, R (a :: l) ρ → (∃ ρ', step (h a) ρ = .ok (.nx ρ') ∧ R l ρ') ∨ (∃ d, step (h a) ρ = .ok (.rt d) ∧ k.go (.rt d) = z) ∨ (∃ ρ', step (h a) ρ = .ok (.bk ρ') ∧ k.go (.nx ρ') = z)) : (forD step (l.map h) ρ).bk (k := k) = z :=
  for_rem (k := k.go) R H0 H l ρ r
abbrev Sp_cut (m : List D → Rs D) : Prop := ∀ (w h : Nat) p s, Good w h p → Way w h s → m [pic p, row s] = .ok (if 1 < w then pic (cutV p s) else .none)
theorem ok_cut {T : Tb} {fW fS fN c1 c2 : Nat} (hW : Sp_without (T.fn fW)) (hS : Sp_need_seam c1 (T.fn fS)) (hN : Sp_need_picture c2 (T.fn fN)) : Sp_cut (runD T 2 2 (B_cut fW fS fN)) := by
  intro w h p s g q
  have h0 := g.row0
  have ph := g.hh
  have h1 := g.h1
  have h2 := g.h2
  have w2 := g.w2
  have e := hW w h p s g.toRect (by omega) (by omega) q
  by_cases c : 1 < w
  · have c' : (1 : Int) < (w : Int) := by omega
    simp (disch := omega) [runD, B_cut, need_pic hN g, need_way hS g q, idx_tu, h0, ph, c, c', e]
  · have c' : ¬ (1 : Int) < (w : Int) := by omega
    simp (disch := omega) [runD, B_cut, need_pic hN g, need_way hS g q, idx_tu, h0, ph, c, c', e]
def Ss.tk : Nat → Ss → Ss
  | 0, _ => .nil
  | _ + 1, .nil => .nil
  | n + 1, .cons s ss => .cons s (ss.tk n)
def Ss.dp : Nat → Ss → Ss
  | 0, ss => ss
  | _ + 1, .nil => .nil
  | n + 1, .cons _ ss => ss.dp n
theorem seqF_bind (f : Fl) (k : Env → Rs Fl) (g : Env → Rs Fl) : (seqF f k).bind (fun f => seqF f g) = seqF f fun ρ => (k ρ).bind fun f => seqF f g := by
  cases f <;> rfl
theorem exs_at (T : Tb) : ∀ (k : Nat) (S : Ss) (ρ : Env), S.ex T ρ = ((S.tk k).ex T ρ).bind fun f => seqF f ((S.dp k).ex T)
  | 0, S, ρ => by cases S <;> rfl
  | _ + 1, .nil, ρ => rfl
  | n + 1, .cons s ss, ρ => by
    show (s.ex T ρ).bind (fun f => seqF f (ss.ex T)) = ((s.ex T ρ).bind fun f => seqF f ((ss.tk n).ex T)).bind fun f => seqF f ((ss.dp n).ex T)
    cases s.ex T ρ with
    | ok f =>
      show seqF f (ss.ex T) = (seqF f ((ss.tk n).ex T)).bind fun f => seqF f ((ss.dp n).ex T)
      rw [seqF_bind]
      congr 1
      funext ρ
      exact exs_at T n ss ρ
    | ex e => rfl
    | no => rfl
def fin : Fl → Rs D
  | .nx _ => .ok .none
  | .rt d => .ok d
  | _ => .no
@[simp] theorem fin_rt (d : D) : fin (.rt d) = .ok d := id rfl
@[simp] theorem fin_nx (ρ : Env) : fin (.nx ρ) = .ok .none := id rfl
end Rf
set_option Elab.async false
set_option linter.all false
set_option autoImplicit false
set_option maxHeartbeats 2000000
set_option maxRecDepth 100000
namespace Rf
open PySem L2
theorem Way.mono {w v h : Nat} {s : List Int} (q : Way w h s) (k : w ≤ v) : Way v h s := ⟨q.len, fun x hx => by have := q.rng x hx; omega, q.st⟩
theorem stepsOk_map (c : Int) : ∀ s : List Int, stepsOk (s.map fun x => x + c) = stepsOk s
  | [] => rfl
  | [_] => rfl
  | a :: b :: l => by
    have ih := stepsOk_map c (b :: l)
    show (decide ((a + c - (b + c)).natAbs < 2) && stepsOk ((b :: l).map fun x => x + c)) = (decide ((a - b).natAbs < 2) && stepsOk (b :: l))
    rw [ih, show a + c - (b + c) = a - b by omega]
theorem Way.up {w h : Nat} {s : List Int} (q : Way w h s) : Way (w + 1) h (s.map fun x => x + 1) := ⟨by rw [List.length_map, q.len], fun x hx => by
  obtain ⟨z, hz, rfl⟩ := List.mem_map.mp hx
  have := q.rng z hz
  omega, by rw [stepsOk_map]; exact q.st⟩
abbrev Sp_cells_of (m : List D → Rs D) : Prop := ∀ (w h : Nat) p s, Good w h p → Way w h s → m [pic p, row s] = .ok (row (cellsV p s))
theorem cells_cmpr {w h : Nat} {p : List (List Int)} {s : List Int} (g : Rect w h p) (hw : w < 1000) (hh : h < 1000) (q : Way w h s) {F : D → Rs (Option D)} (H : ∀ r x, F (.tuple [row r, .int x]) = (idxD (row r) (.int x)).quiet.map some) : cmpR F ((p.zip s).map (pr row .int)) = .ok (li .int (cellsV p s)) := by
  have h1 := g.hh
  refine cmpr_li .int (fun q : List Int × Int => getI q.1 q.2) rfl (by simp; omega) ?_
  rintro ⟨r, x⟩ hm
  have hx := q.rng x (List.of_mem_zip hm).2
  have hr := g.ww r (List.of_mem_zip hm).1
  show F (.tuple [row r, .int x]) = _
  rw [H, idx_tu _ _ (by omega) (by omega)]; rfl
theorem ok_cells_of {T : Tb} {fS fN c1 c2 : Nat} (hS : Sp_need_seam c1 (T.fn fS)) (hN : Sp_need_picture c2 (T.fn fN)) : Sp_cells_of (runD T 2 4 (B_cells_of fS fN)) := by
  intro w h p s g q
  have h2 := g.h2
  have w2 := g.w2
  simp [runD, B_cells_of, need_pic hN g, need_way hS g q]
  rw [cells_cmpr g.toRect (by omega) (by omega) q (fun r x => by simp [pr])]
  simp
abbrev CellOk (h : Nat) (c : List Int) : Prop := c.length = h ∧ ∀ z ∈ c, 0 ≤ z ∧ z ≤ 99
abbrev Sp_put_back (m : List D → Rs D) : Prop := ∀ (w h : Nat) p s c, Good w h p → Way (w + 1) h s → CellOk h c → m [pic p, row s, row c] = .ok (if w < 20 then pic (putV p s c) else .none)
theorem ok_put_back {T : Tb} {gM fP fC cC fW cS fN c1 : Nat} (hM : T.gl gM = .ok (.int 20)) (hP : Sp_put_in (T.fn fP)) (hC : Sp_is_cells (T.fn fC)) (hW : Sp_is_way (T.fn fW)) (hN : Sp_need_picture c1 (T.fn fN)) : Sp_put_back (runD T 3 3 (B_put_back gM fP fC cC fW cS fN)) := by
  intro w h p s c g q hc
  have h0 := g.row0
  have ph := g.hh
  have h1 := g.h1
  have h2 := g.h2
  have w2 := g.w2
  have e := hP w h p s c g.toRect (by omega) (by omega) q hc.1
  have e1 := hW (row s) ((w + 1 : Nat) : Int) h (lay_row s) (by omega)
  rw [isWay_way q] at e1
  have e2 := hC (row c) h (lay_row c) (by omega)
  rw [isCells_row hc.1 hc.2] at e2
  have ew : (w : Int) + 1 = ((w + 1 : Nat) : Int) := by omega
  by_cases k : w < 20
  · have k' : (w : Int) < 20 := by omega
    simp (disch := omega) [runD, B_put_back, need_pic hN g, idx_tu, h0, ph, ew, e1, e2, hM, k, k', e, -Int.natCast_add]
  · have k' : ¬ (w : Int) < 20 := by omega
    simp (disch := omega) [runD, B_put_back, need_pic hN g, idx_tu, h0, ph, ew, e1, e2, hM, k, k', e, -Int.natCast_add]
def nextV (r : List Int) (x : Int) : Int := getI r (min ((r.length : Int) - 1) (x + 1))
abbrev Sp_near_next (m : List D → Rs D) : Prop := ∀ r x, 0 ≤ x → x < (r.length : Int) → m [row r, .int x] = .ok (.int (nextV r x))
theorem ok_near_next {T : Tb} : Sp_near_next (runD T 2 2 B_near_next) := by
  intro r x h1 h2
  have mi : bclD .min [.int ((r.length : Int) - 1), .int (x + 1)] = .ok (.int (min ((r.length : Int) - 1) (x + 1))) := by rw [min_int]; congr 2; omega
  simp only [runD, B_near_next, List.length_cons, List.length_nil]
  simp (disch := omega) [idx_tu, -min_int, mi, nextV]
def meansV (p : List (List Int)) (s : List Int) : List Int := (p.zip s).map fun q => (getI q.1 q.2 + nextV q.1 q.2) / 2
abbrev Sp_means (m : List D → Rs D) : Prop := ∀ (w h : Nat) p s, Rect w h p → w < 1000 → h < 1000 → Way w h s → m [pic p, row s] = .ok (row (meansV p s))
theorem ok_means {T : Tb} {fX : Nat} (hX : Sp_near_next (T.fn fX)) : Sp_means (runD T 2 4 (B_means fX)) := by
  intro w h p s g hw hh q
  have h1 := g.hh
  simp [runD, B_means]
  rw [cmpr_li .int (fun q : List Int × Int => (getI q.1 q.2 + nextV q.1 q.2) / 2) rfl (by simp; omega)]
  · simp [meansV]
  · rintro ⟨r, x⟩ hm
    have hx := q.rng x (List.of_mem_zip hm).2
    have hr := g.ww r (List.of_mem_zip hm).1
    have hr : r.length = w := hr
    have e := hX r x hx.1 (by omega)
    simp (disch := omega) [pr, idx_tu, e, divOk]
theorem means_ok {w h : Nat} {p : List (List Int)} {s : List Int} (g : Good w h p) (q : Way w h s) : CellOk h (meansV p s) := by
  have hh := g.hh
  have hl := q.len
  refine ⟨by unfold meansV; rw [List.length_map, List.length_zip]; omega, fun c hc => ?_⟩
  obtain ⟨⟨r, x⟩, hm, rfl⟩ := List.mem_map.mp hc
  have hx := q.rng x (List.of_mem_zip hm).2
  have hr := (List.of_mem_zip hm).1
  have hw := g.ww r hr
  have hw : r.length = w := hw
  have h1 := g.cl r hr _ (getI_mem (i := x) (by omega) (by omega))
  have h2 := g.cl r hr _ (getI_mem (i := min ((r.length : Int) - 1) (x + 1)) (by omega) (by omega))
  show 0 ≤ (getI r x + nextV r x) / 2 ∧ (getI r x + nextV r x) / 2 ≤ 99
  unfold nextV
  omega
abbrev Sp_doubled (m : List D → Rs D) : Prop := ∀ (w h : Nat) p s, Good w h p → Way w h s → m [pic p, row s] = .ok (if w < 20 then pic (putV p (s.map fun x => x + 1) (meansV p s)) else .none)
theorem ok_doubled {T : Tb} {gM fP fM fS fN c1 c2 : Nat} (hM : T.gl gM = .ok (.int 20)) (hP : Sp_put_in (T.fn fP)) (hMe : Sp_means (T.fn fM)) (hS : Sp_need_seam c1 (T.fn fS)) (hN : Sp_need_picture c2 (T.fn fN)) : Sp_doubled (runD T 2 4 (B_doubled gM fP fM fS fN)) := by
  intro w h p s g q
  have h0 := g.row0
  have ph := g.hh
  have h1 := g.h1
  have h2 := g.h2
  have w2 := g.w2
  have hl := q.len
  have e1 := hMe w h p s g.toRect (by omega) (by omega) q
  have e2 := hP w h p _ _ g.toRect (by omega) (by omega) q.up (means_ok g q).1
  simp (disch := omega) [runD, B_doubled, need_pic hN g, need_way hS g q]
  rw [cmpr_li .int (fun x : Int => x + 1) rfl (by omega) (fun x _ => by simp)]
  by_cases k : w < 20
  · have k' : (w : Int) < 20 := by omega
    simp (disch := omega) [idx_tu, h0, ph, e1, e2, hM, k, k', -List.map_map]
  · have k' : ¬ (w : Int) < 20 := by omega
    simp (disch := omega) [idx_tu, h0, ph, e1, e2, hM, k, k', -List.map_map]
theorem cells_dr {T : Tb} {fD : Nat} (hD : Sp_law_drawn (T.fn fD)) {ns : List Int} (hs : ns.length ≤ 63) (a : Int) (h : Nat) (a0 : 0 ≤ a) (a1 : a < 500000) (hh : h ≤ 100) : ∃ c : List Int, CellOk h c ∧ ∀ (F : D → Rs (Option D)), (∀ i : Int, 0 ≤ i → i < (h : Int) → F (.int i) = (T.fn fD [li .int ns, .int (a + i), .int 100]).map some) → cmpR F ((upI 0 h).map PyData.int) = .ok (li .int c) := by
  refine ⟨(upI 0 h).map fun i => drawV (T.fn fD) ns (a + i) 100, ⟨by simp, ?_⟩, fun F hF => ?_⟩
  · intro z hz
    obtain ⟨i, hi, rfl⟩ := List.mem_map.mp hz
    have hi := mem_upI.mp hi
    have := drawV_ok hD (k := a + i) (n := 100) hs (by omega) (by omega) (by omega)
    omega
  · refine cmpr_li .int _ rfl (by simp; omega) ?_
    intro i hi
    have hi := mem_upI.mp hi
    rw [hF i hi.1 (by omega), (drawV_ok hD (k := a + i) (n := 100) hs (by omega) (by omega) (by omega)).1]; rfl
end Rf
set_option Elab.async false
set_option linter.all false
set_option autoImplicit false
set_option maxHeartbeats 2000000
set_option maxRecDepth 100000
namespace Rf
open PySem L2
def brightV (p : List (List Int)) : Int := (p.flatMap fun r => r).sum
abbrev Sp_brightness (m : List D → Rs D) : Prop := ∀ (w h : Nat) p, Good w h p → m [pic p] = .ok (.int (brightV p))
theorem flat_len {w : Nat} : ∀ {p : List (List Int)}, (∀ r ∈ p, r.length = w) → (p.flatMap fun r => r).length = p.length * w
  | [], _ => by simp
  | r :: p, h => by
    rw [List.flatMap_cons, List.length_append, h r List.mem_cons_self, flat_len fun z hz => h z (List.mem_cons_of_mem _ hz), List.length_cons, Nat.succ_mul]; omega
theorem flat_cmpr {T : Tb} {w h : Nat} {p : List (List Int)} (g : Rect w h p) (hw : w ≤ 20) (hh : h ≤ 40) {F : D → Rs (List D)} (H : ∀ r, F (row r) = .ok (r.map .int)) : cm2R F (p.map row) = .ok (li .int (p.flatMap fun r => r)) := by
  refine cm2_li .int (fun r => r) rfl ?_ fun r _ => H r
  rw [flat_len g.ww, g.hh]
  have : h * w ≤ 40 * 20 := Nat.mul_le_mul hh hw
  omega
theorem ok_brightness {T : Tb} {fN c : Nat} (hN : Sp_need_picture c (T.fn fN)) : Sp_brightness (runD T 1 3 (B_brightness fN)) := by
  intro w h p g
  simp [runD, B_brightness, need_pic hN g]
  rw [flat_cmpr (T := T) g.toRect g.w2 (by have := g.h2; omega)]
  · simp [brightV]
  · intro r
    simp
    exact (gather_map (h := PyData.int) .int (fun z : Int => z) fun a _ => by simp).trans (by simp)
theorem cutR_sum {r : List Int} {x : Int} (h1 : 0 ≤ x) (h2 : x < r.length) : (cutR r x).sum + getI r x = r.sum := by
  obtain ⟨k, rfl⟩ := Int.eq_ofNat_of_zero_le h1
  have hk : k < r.length := by omega
  have e : r = r.take k ++ (r[k] :: r.drop (k + 1)) := by rw [← List.drop_eq_getElem_cons hk, List.take_append_drop]
  have g : getI r (k : Int) = r[k] := by rw [getI_nat, List.getD_eq_getElem?_getD, List.getElem?_eq_getElem hk]; rfl
  unfold cutR
  rw [g, show ((k : Int)).toNat = k by omega, show ((k : Int) + 1).toNat = k + 1 by omega]
  conv => rhs; rw [e]
  simp only [List.sum_append, List.sum_cons]
  omega
theorem bright_cut : ∀ {p : List (List Int)} {s : List Int} {w : Nat}, p.length = s.length → (∀ r ∈ p, r.length = w) → (∀ x ∈ s, 0 ≤ x ∧ x < (w : Int)) → brightV (cutV p s) + (cellsV p s).sum = brightV p
  | [], [], _, _, _, _ => rfl
  | r :: p, x :: s, w, hl, hw, hx => by
    have ih := bright_cut (p := p) (s := s) (by simpa using hl) (fun r hr => hw r (List.mem_cons_of_mem _ hr)) fun z hz => hx z (List.mem_cons_of_mem _ hz)
    have hr := hw r List.mem_cons_self
    have hxx := hx x List.mem_cons_self
    have e := cutR_sum (r := r) hxx.1 (by omega)
    show ((cutR r x :: cutV p s).flatMap fun r => r).sum + (getI r x :: cellsV p s).sum = ((r :: p).flatMap fun r => r).sum
    unfold brightV at ih
    simp only [List.flatMap_cons, List.sum_append, List.sum_cons]
    omega
end Rf
set_option Elab.async false
set_option linter.all false
set_option autoImplicit false
set_option maxHeartbeats 2000000
set_option maxRecDepth 100000
namespace Rf
open PySem L2
theorem for_remN {α : Type} {step : D → Env → Rs Fl} {h : α → D} {k : Fl → Rs Fl} {P : Env → Prop} (R : List α → Env → Prop) (H0 : ∀ ρ, R [] ρ → Nxt (k (.nx ρ)) P)
    (H : ∀ a l ρ, R (a :: l) ρ → Nxt (step (h a) ρ) (R l) ∨ Bks (step (h a) ρ) fun ρ' => Nxt (k (.nx ρ')) P) : ∀ (l : List α) (ρ : Env), R l ρ → Nxt ((forD step (l.map h) ρ).bind k) P
  | [], ρ, r => H0 ρ r
  | a :: l, ρ, r => by
    rw [List.map_cons]
    show Nxt (((step (h a) ρ).bind _).bind k) P
    rcases H a l ρ r with ⟨ρ', e, r'⟩ | ⟨ρ', e, r'⟩
    · rw [e]; exact for_remN R H0 H l ρ' r'
    · rw [e]; exact r'
end Rf
set_option Elab.async false
set_option linter.all false
set_option autoImplicit false
set_option maxHeartbeats 2000000
set_option maxRecDepth 100000
namespace Rf
open PySem L2
theorem sort_map {α : Type} {n : Nat} {f : α → D} {lt : α → α → Bool} (e : Enc n f) (hn : n ≤ 60) (al : ∀ a b, PySem.W.alike (f a) (f b) = true) (hi : ∀ a, isNo (f a) = false) (sr : (∀ a, ∃ x xs, f a = .tuple (x :: xs)) ∨ (∀ a, ∀ xs, f a ≠ .tuple xs)) (h : ∀ a b, PySem.W.dataLt (f a) (f b) = lt a b) (l : List α) : bclD .sorted [li f l] = .ok (li f (l.mergeSort fun a b => !lt b a)) := by
  show grd (alkB (l.map f) && (srtB (l.map f) && Nat.ble (PyData.depthAll (l.map f)) 60)) (Rs.ok (PyData.list ((l.map f).mergeSort fun a b => !PySem.W.dataLt b a))) = _
  have h1 := alk_map al hi l
  have h2 : srtB (l.map f) = true := by
    unfold srtB
    rw [Bool.or_eq_true]
    rcases sr with sr | sr
    · left
      rw [List.all_map, List.all_eq_true]
      intro a _
      obtain ⟨x, xs, ea⟩ := sr a
      show (match f a with | .tuple (_ :: _) => true | _ => false) = true
      rw [ea]
    · right
      rw [List.all_map, List.all_eq_true]
      intro a _
      have h3 := sr a
      have h4 := hi a
      show (match f a with | .none => false | .tuple _ => false | _ => true) = true
      cases z : f a with
      | none => rw [z] at h4; cases h4
      | tuple xs => exact absurd z (h3 xs)
      | _ => rfl
  have h3 : Nat.ble (PyData.depthAll (l.map f)) 60 = true := by
    rw [Nat.ble_eq]
    exact Nat.le_trans (depAll_map e l) hn
  rw [h1, h2, h3]
  show Rs.ok _ = _
  congr 1
  unfold li
  congr 1
  rw [List.map_mergeSort (r := fun a b => !lt b a) (s := fun a b => !PySem.W.dataLt b a)]
  intro a _ b _
  rw [h b a]
theorem sort_ints (l : List Int) : bclD .sorted [li .int l] = .ok (li .int (l.mergeSort fun a b => !ltI b a)) :=
  sort_map enc_int (by decide) alike_int (fun _ => rfl) (.inr fun a xs e => by cases e) dataLt_intI l
theorem ints_row (l : List Int) : intsD (l.map PyData.int) = .ok l := by
  induction l with
  | nil => rfl
  | cons a l ih => show (intsD (l.map PyData.int)).map (a :: ·) = _; rw [ih]; rfl
def Ss.hd : Ss → S
  | .cons s _ => s
  | .nil => .pass
def S.fb : S → Ss
  | .forl _ _ _ b _ => b
  | .whl _ _ b => b
  | _ => .nil
end Rf
set_option Elab.async false
set_option linter.all false
set_option autoImplicit false
set_option maxHeartbeats 2000000
set_option maxRecDepth 100000
namespace Rf
open PySem L2
theorem len_sub {α : Type} [BEq α] [LawfulBEq α] : ∀ {l m : List α}, l.Nodup → (∀ z ∈ l, z ∈ m) → l.length ≤ m.length
  | [], _, _, _ => Nat.zero_le _
  | a :: l, m, hd, hs => by
    obtain ⟨h1, h2⟩ := List.nodup_cons.mp hd
    have ha := hs a List.mem_cons_self
    have := len_sub (l := l) (m := m.erase a) h2 fun z hz => by
      rw [List.mem_erase_of_ne (by rintro rfl; exact h1 hz)]
      exact hs z (List.mem_cons_of_mem _ hz)
    rw [List.length_erase_of_mem ha] at this
    have : 0 < m.length := List.length_pos_of_mem ha
    rw [List.length_cons]; omega
def countsV (xs : List Int) : List (Int × Int) := (sortU xs).map fun c => (c, (xs.count c : Nat))
theorem count_ints (xs : List Int) (c : Int) : metD .count (li .int xs) [.int c] = .ok (.int (xs.count c : Nat)) := by
  show countD (.list (xs.map .int)) [.int c] = _
  unfold countD
  dsimp only
  rw [show SeqAt.shaped (PyData.list (xs.map PyData.int)) = true from shaped_enc enc_int.li (by decide) xs, shaped_enc enc_int (by decide) c]
  show Rs.ok _ = _
  rw [List.countP_map]
  have e : ((fun y => PyData.eqv y (.int c)) ∘ PyData.int) = fun y => y == c := by
    funext y
    show PyData.eqv (.int y) (.int c) = (y == c)
    rw [Bool.eq_iff_iff, enc_int.eqv, beq_iff_eq]
  rw [e]; rfl
theorem sortU_le (xs : List Int) : (sortU xs).length ≤ xs.length := by
  have hp : (sortU xs).Pairwise (· < ·) := sortU_pw xs
  have hd : (sortU xs).Nodup := hp.imp fun h => by omega
  exact len_sub hd fun z hz => mem_sortU.mp hz
theorem sortU_ext {xs ys : List Int} (h : ∀ z, z ∈ xs ↔ z ∈ ys) : sortU xs = sortU ys := by
  have key : ∀ (a b : List Int), a.Pairwise (· < ·) → b.Pairwise (· < ·) → (∀ k, k ∈ a ↔ k ∈ b) → a = b := by
    intro a
    induction a with
    | nil =>
      intro b _ _ hh
      cases b with
      | nil => rfl
      | cons x b => exact absurd ((hh x).mpr List.mem_cons_self) (by simp)
    | cons x a ih =>
      intro b ha hb hh
      cases b with
      | nil => exact absurd ((hh x).mp List.mem_cons_self) (by simp)
      | cons y b =>
        have ha' := List.pairwise_cons.mp ha
        have hb' := List.pairwise_cons.mp hb
        have exy : x = y := by
          rcases List.mem_cons.mp ((hh x).mp List.mem_cons_self) with e | e
          · exact e
          · rcases List.mem_cons.mp ((hh y).mpr List.mem_cons_self) with e2 | e2
            · exact e2.symm
            · have := ha'.1 y e2; have := hb'.1 x e; omega
        subst exy
        congr 1
        refine ih b ha'.2 hb'.2 fun k => ⟨fun hk => ?_, fun hk => ?_⟩
        · rcases List.mem_cons.mp ((hh k).mp (List.mem_cons_of_mem _ hk)) with e | e
          · have := ha'.1 k hk; omega
          · exact e
        · rcases List.mem_cons.mp ((hh k).mpr (List.mem_cons_of_mem _ hk)) with e | e
          · have := hb'.1 k hk; omega
          · exact e
  exact key _ _ (sortU_pw _) (sortU_pw _) fun k => by rw [mem_sortU, mem_sortU, h]
theorem counts_perm {xs ys : List Int} (h : xs.Perm ys) : countsV xs = countsV ys := by
  unfold countsV
  rw [sortU_ext fun z => h.mem_iff]
  apply List.map_congr_left
  intro c _
  rw [h.count_eq]
def flatV (p : List (List Int)) : List Int := p.flatMap fun r => r
abbrev Sp_counted (m : List D → Rs D) : Prop := ∀ (w h : Nat) p, Good w h p → (sortU (flatV p)).length ≤ 63 → m [pic p] = .ok (li (pr .int .int) (countsV (flatV p)))
theorem ok_counted {T : Tb} {fN c : Nat} (hN : Sp_need_picture c (T.fn fN)) : Sp_counted (runD T 1 4 (B_counted fN)) := by
  intro w h p g hc
  simp [runD, B_counted, need_pic hN g]
  rw [flat_cmpr (T := T) g.toRect g.w2 (by have := g.h2; omega)]
  · have e : ∀ F : D → Rs (Option D), (∀ z : Int, F (.int z) = .ok (some (.int z))) → sscR false F ((flatV p).map .int) = .ok (li .int (sortU (flatV p))) := by
      intro F hF
      unfold sscR
      rw [gather_map (h := PyData.int) .int (fun z : Int => z) fun a _ => hF a, List.map_id', Rs.bind_ok, show intsD ((flatV p).map PyData.int) = .ok (flatV p) from ints_row _]
      show grd (Nat.ble (sortU (flatV p)).length 63) _ = _
      rw [Nat.ble_eq.mpr hc]; rfl
    simp [-List.flatMap_id', -List.flatMap_id]
    rw [show (p.flatMap fun r => r) = flatV p from rfl, e _ fun z => by simp]
    simp
    rw [cmpr_li (pr .int .int) (fun c : Int => (c, (((flatV p).count c : Nat) : Int))) rfl (by omega)]
    · rfl
    · intro z _
      simp [count_ints, pr, show metOk .count (li PyData.int (flatV p)) = true from rfl]
  · intro r
    simp
    exact (gather_map (h := PyData.int) .int (fun z : Int => z) fun a _ => by simp).trans (by simp)
end Rf
set_option Elab.async false
set_option linter.all false
set_option autoImplicit false
set_option maxHeartbeats 4000000
set_option maxRecDepth 100000
namespace Rf
open PySem L2
theorem mir_rect {w h : Nat} {p : List (List Int)} (g : Rect w h p) : Rect w h (p.map List.reverse) := ⟨by rw [List.length_map, g.hh], fun r hr => by
  obtain ⟨q, hq, rfl⟩ := List.mem_map.mp hr
  rw [List.length_reverse, g.ww q hq]⟩
theorem mir_good2 {w h : Nat} {p : List (List Int)} (g : Good w h p) : Good w h (p.map List.reverse) := ⟨mir_rect g.toRect, g.w1, g.w2, g.h1, g.h2, fun r hr c hc => by
  obtain ⟨q, hq, rfl⟩ := List.mem_map.mp hr
  exact g.cl q hq c (List.mem_reverse.mp hc)⟩
theorem flatMap_perm {α β : Type} {f g : α → List β} : ∀ {l : List α}, (∀ a ∈ l, (f a).Perm (g a)) → (l.flatMap f).Perm (l.flatMap g)
  | [], _ => .nil
  | a :: l, h => by
    rw [List.flatMap_cons, List.flatMap_cons]
    exact (h a List.mem_cons_self).append (flatMap_perm fun b hb => h b (List.mem_cons_of_mem _ hb))
theorem mir_perm (p : List (List Int)) : (flatV (p.map List.reverse)).Perm (flatV p) := by
  unfold flatV
  rw [List.flatMap_map]
  exact flatMap_perm fun a _ => List.reverse_perm a
end Rf
set_option Elab.async false
set_option linter.all false
set_option autoImplicit false
set_option maxHeartbeats 2000000
set_option maxRecDepth 100000
namespace Rf
open PySem L2
theorem sort_perm {xs ys : List Int} (h : xs.Perm ys) : (xs.mergeSort fun a b => !ltI b a) = ys.mergeSort fun a b => !ltI b a := by
  have tr : ∀ a b c : Int, (!ltI b a) = true → (!ltI c b) = true → (!ltI c a) = true := fun a b c h1 h2 => by
    unfold ltI at *
    simp at *; omega
  have to : ∀ a b : Int, ((!ltI b a) || (!ltI a b)) = true := fun a b => by
    unfold ltI
    simp; omega
  refine List.Perm.eq_of_pairwise (le := fun a b => (!ltI b a) = true) (fun a b _ _ h1 h2 => ?_) (List.pairwise_mergeSort tr to xs) (List.pairwise_mergeSort tr to ys) ?_
  · unfold ltI at h1 h2
    simp at h1 h2; omega
  · exact (List.mergeSort_perm xs _).trans (h.trans (List.mergeSort_perm ys _).symm)
theorem cutR_putR {r : List Int} {x c : Int} (h1 : 0 ≤ x) (h2 : x ≤ r.length) : cutR (putR r x c) x = r ∧ getI (putR r x c) x = c := by
  obtain ⟨k, rfl⟩ := Int.eq_ofNat_of_zero_le h1
  have hk : k ≤ r.length := by omega
  have hl : (r.take k).length = k := by rw [List.length_take]; omega
  have ep : putR r (k : Int) c = r.take k ++ (c :: r.drop k) := by
    unfold putR
    rw [show ((k : Int)).toNat = k by omega, List.append_assoc]; rfl
  rw [ep]
  constructor
  · unfold cutR
    rw [show ((k : Int)).toNat = k by omega, show ((k : Int) + 1).toNat = k + 1 by omega, List.take_append_of_le_length (by omega), List.drop_append]
    rw [List.drop_eq_nil_of_le (by omega), hl, show k + 1 - k = 1 by omega, List.take_take, Nat.min_self]
    show r.take k ++ ([] ++ r.drop k) = r
    rw [List.nil_append, List.take_append_drop]
  · rw [getI_nat, List.getD_eq_getElem?_getD, List.getElem?_append_right (by omega), hl, Nat.sub_self]; rfl
theorem cut_put : ∀ {p : List (List Int)} {s c : List Int} {w : Nat}, p.length = s.length → p.length = c.length → (∀ r ∈ p, r.length = w) → (∀ x ∈ s, 0 ≤ x ∧ x ≤ (w : Int)) → cutV (putV p s c) s = p ∧ cellsV (putV p s c) s = c
  | [], [], [], _, _, _, _, _ => ⟨rfl, rfl⟩
  | r :: p, x :: s, z :: c, w, hl, hc, hw, hx => by
    obtain ⟨i1, i2⟩ := cut_put (p := p) (s := s) (c := c) (by simpa using hl) (by simpa using hc) (fun r hr => hw r (List.mem_cons_of_mem _ hr)) fun z hz => hx z (List.mem_cons_of_mem _ hz)
    have hr := hw r List.mem_cons_self
    have hxx := hx x List.mem_cons_self
    obtain ⟨c1, c2⟩ := cutR_putR (r := r) (x := x) (c := z) hxx.1 (by omega)
    constructor
    · show cutR (putR r x z) x :: cutV (putV p s c) s = r :: p
      rw [c1, i1]
    · show getI (putR r x z) x :: cellsV (putV p s c) s = z :: c
      rw [c2, i2]
theorem put_good {w h : Nat} {p : List (List Int)} {s c : List Int} (g : Good w h p) (q : Way (w + 1) h s) (hc : CellOk h c) (hw : w < 20) : Good (w + 1) h (putV p s c) := by
  refine ⟨put_rect g.toRect q hc.1, by omega, by omega, g.h1, g.h2, fun r hr z hz => ?_⟩
  obtain ⟨⟨r0, x, d⟩, hm, rfl⟩ := List.mem_map.mp hr
  have h1 := (List.of_mem_zip hm).1
  have h2 := (List.of_mem_zip (List.of_mem_zip hm).2).2
  unfold putR at hz
  rcases List.mem_append.mp hz with hz | hz
  · rcases List.mem_append.mp hz with hz | hz
    · exact g.cl r0 h1 z (List.mem_of_mem_take hz)
    · rw [List.mem_singleton.mp hz]; exact hc.2 d h2
  · exact g.cl r0 h1 z (List.mem_of_mem_drop hz)
theorem cutR_rev {r : List Int} {x : Int} (h1 : 0 ≤ x) (h2 : x < r.length) : (cutR r x).reverse = cutR r.reverse ((r.length : Int) - 1 - x) := by
  obtain ⟨k, rfl⟩ := Int.eq_ofNat_of_zero_le h1
  have hk : k < r.length := by omega
  unfold cutR
  rw [List.reverse_append, List.reverse_take, List.reverse_drop]
  congr 2 <;> congr 1 <;> omega
theorem cut_mir : ∀ {p : List (List Int)} {s : List Int} {w : Nat}, p.length = s.length → (∀ r ∈ p, r.length = w) → (∀ x ∈ s, 0 ≤ x ∧ x < (w : Int)) → (cutV p s).map List.reverse = cutV (p.map List.reverse) (s.map fun x => (w : Int) - 1 - x)
  | [], [], _, _, _, _ => rfl
  | r :: p, x :: s, w, hl, hw, hx => by
    have ih := cut_mir (p := p) (s := s) (by simpa using hl) (fun r hr => hw r (List.mem_cons_of_mem _ hr)) fun z hz => hx z (List.mem_cons_of_mem _ hz)
    have hr := hw r List.mem_cons_self
    have hxx := hx x List.mem_cons_self
    show (cutR r x).reverse :: (cutV p s).map List.reverse = cutR r.reverse ((w : Int) - 1 - x) :: cutV (p.map List.reverse) (s.map _)
    rw [ih, cutR_rev hxx.1 (by omega), hr]
theorem cutR_perm {r : List Int} {x : Int} (h1 : 0 ≤ x) (h2 : x < r.length) : (getI r x :: cutR r x).Perm r := by
  obtain ⟨k, rfl⟩ := Int.eq_ofNat_of_zero_le h1
  have hk : k < r.length := by omega
  have e : r = r.take k ++ (r[k] :: r.drop (k + 1)) := by rw [← List.drop_eq_getElem_cons hk, List.take_append_drop]
  have g : getI r (k : Int) = r[k] := by rw [getI_nat, List.getD_eq_getElem?_getD, List.getElem?_eq_getElem hk]; rfl
  unfold cutR
  rw [g, show ((k : Int)).toNat = k by omega, show ((k : Int) + 1).toNat = k + 1 by omega]
  exact (List.perm_middle.symm).trans (.of_eq e.symm)
theorem cut_perm : ∀ {p : List (List Int)} {s : List Int} {w : Nat}, p.length = s.length → (∀ r ∈ p, r.length = w) → (∀ x ∈ s, 0 ≤ x ∧ x < (w : Int)) → (flatV (cutV p s) ++ cellsV p s).Perm (flatV p)
  | [], [], _, _, _, _ => .nil
  | r :: p, x :: s, w, hl, hw, hx => by
    have ih := cut_perm (p := p) (s := s) (by simpa using hl) (fun r hr => hw r (List.mem_cons_of_mem _ hr)) fun z hz => hx z (List.mem_cons_of_mem _ hz)
    have hr := hw r List.mem_cons_self
    have hxx := hx x List.mem_cons_self
    show ((cutR r x ++ flatV (cutV p s)) ++ (getI r x :: cellsV p s)).Perm (r ++ flatV p)
    refine List.perm_middle.trans ?_
    rw [List.append_assoc, ← List.cons_append]
    exact (cutR_perm hxx.1 (by omega)).append ih
abbrev Sp_law_flat (m : List D → Rs D) : Prop := ∀ (w h : Nat) p, Rect w h p → w ≤ 20 → h ≤ 40 → m [pic p] = .ok (li .int (flatV p))
theorem ok_law_flat {T : Tb} : Sp_law_flat (runD T 1 3 B_law_flat) := by
  intro w h p g hw hh
  simp [runD, B_law_flat]
  refine for_end (fun pre ρ => ∃ z2, ρ = [.fz (pic p), .fz (li .int (flatV pre)), z2]) ⟨.un, rfl⟩ ?_ ?_
  · rintro pre r suf _ ep ⟨z2, rfl⟩
    have hr := g.ww r (by rw [ep]; simp)
    have hl : (flatV pre).length ≤ 40 * 20 := by
      have e1 : (flatV pre).length = pre.length * w := flat_len fun z hz => g.ww z (by rw [ep]; simp [hz])
      have : pre.length ≤ 40 := by
        have := g.hh
        rw [ep, List.length_append] at this
        omega
      rw [e1]; exact Nat.mul_le_mul this hw
    have lr : bclD .list [row r] = .ok (li .int r) := rfl
    have ad : binD .Add (li .int (flatV pre)) (li .int r) = .ok (li .int (flatV pre ++ r)) := add_li .int _ _ (by omega)
    simp [lr, ad]
    rw [show flatV (pre ++ [r]) = flatV pre ++ r by unfold flatV; rw [List.flatMap_append]; simp]
    exact ⟨_, rfl, _, rfl⟩
  · rintro _ ⟨z2, rfl⟩
    simp
end Rf
set_option Elab.async false
set_option linter.all false
set_option autoImplicit false
set_option maxHeartbeats 4000000
set_option maxRecDepth 100000
namespace Rf
open PySem L2
theorem cut_two {r : List Int} {x : Int} (h1 : 0 ≤ x) (h2 : x < r.length) : cutD r (some x) (some (x + 2)) = if x + 1 < (r.length : Int) then [getI r x, getI r (x + 1)] else [getI r x] := by
  obtain ⟨k, rfl⟩ := Int.eq_ofNat_of_zero_le h1
  have hk : k < r.length := by omega
  have g : ∀ j (hj : j < r.length), getI r (j : Int) = r[j] := fun j hj => by rw [getI_nat, List.getD_eq_getElem?_getD, List.getElem?_eq_getElem hj]; rfl
  unfold cutD HT.sIx
  dsimp only
  rw [if_neg (by omega), if_neg (by omega)]
  rw [show ((k : Int)).toNat = k by omega, show ((k : Int) + 2).toNat = k + 2 by omega, Nat.min_eq_left (show k ≤ r.length by omega)]
  rw [g k hk, List.drop_eq_getElem_cons hk]
  by_cases c : k + 1 < r.length
  · rw [if_pos (by omega), show ((k : Int) + 1) = ((k + 1 : Nat) : Int) by omega, g (k + 1) c, List.drop_eq_getElem_cons c, show min (k + 2) r.length - k = 2 by omega]; rfl
  · rw [if_neg (by omega), show min (k + 2) r.length - k = 1 by omega]; rfl
theorem exs_nx (T : Tb) {S : Ss} {ρ ρ1 : Env} {r : Rs Fl} (k : Nat) (h : (S.tk k).ex T ρ = .ok (.nx ρ1)) (h2 : (S.dp k).ex T ρ1 = r) : S.ex T ρ = r := by
  rw [exs_at T k, h]
  exact h2
theorem k26_first {T : Tb} {fC fM fCe fS fCu fDb fPb fD fWay fF fB fI fSo : Nat} (hC : Sp_counted (T.fn fC)) (hM : Sp_mirrored (T.fn fM)) (hCe : Sp_cells_of (T.fn fCe)) (hS : Sp_size_of (T.fn fS)) (hCu : Sp_cut (T.fn fCu)) (hDb : Sp_doubled (T.fn fDb)) (hPb : Sp_put_back (T.fn fPb)) (hD : Sp_law_drawn (T.fn fD)) (hWay : Sp_law_way (T.fn fWay)) (hF : Sp_law_flat (T.fn fF)) (hB : Sp_brightness (T.fn fB)) (hI : Sp_is_picture (T.fn fI)) (hSo : Sp_law_some (T.fn fSo))
    {ns : List Int} (hs : ns.length ≤ 63) {w h : Nat} {p : List (List Int)} (hw : w ≤ 9) (hh : h ≤ 7) (g : Good w h p) {k : Int} (k0 : 0 ≤ k) (k3 : k < 3) {s s2 : List Int} (qs : Way w h s) (es : T.fn fWay [li .int ns, .int (80 + 10 * k), .int w, .int h] = .ok (row s)) (qs2 : Way (w + 1) h s2) (es2 : T.fn fWay [li .int ns, .int (110 + 10 * k), .int ((w + 1 : Nat) : Int), .int h] = .ok (row s2)) {c : List Int} (hc : CellOk h c) (ec : ∀ (F : D → Rs (Option D)), (∀ i : Int, 0 ≤ i → i < (h : Int) → F (.int i) = (T.fn fD [li .int ns, .int (140 + 8 * k + i), .int 100]).map some) → cmpR F ((upI 0 h).map PyData.int) = .ok (li .int c)) {z5 z6 z7 z8 z9 z10 z11 z12 z13 z14 z15 z16 : Sl} :
    ∃ z7' z8' z15', (((((B_law_k26 fC fM fCe fS fCu fDb fPb fD fWay fF fB fI fSo).dp 2).hd.fb).tk 4).ex T [.fz (li .int ns), .fz (pic p), .fz (.int w), .fz (.int h), .fz (.int k), z5, z6, z7, z8, z9, z10, z11, z12, z13, z14, z15, z16, .un]) = .ok (.nx [.fz (li .int ns), .fz (pic p), .fz (.int w), .fz (.int h), .fz (.int k), .fz (row s), .fz (row (cellsV p s)), z7', z8', z9, z10, z11, z12, z13, z14, z15', z16, .un]) := by
  have w2 := g.w2
  have h20 := g.h2
  have k1 := g.h1
  have k2 := g.w1
  have h0 := g.row0
  have ph := g.hh
  have gm := mir_good2 g
  have fl : (flatV p).length = h * w := by rw [← g.hh]; exact flat_len g.ww
  have f63 : (sortU (flatV p)).length ≤ 63 := by
    have := sortU_le (flatV p)
    have : h * w ≤ 7 * 9 := Nat.mul_le_mul (by omega) (by omega)
    omega
  have p2 : (flatV (p.map List.reverse)).Perm (flatV p) := mir_perm p
  have cp := hC w h p g f63
  have cm := hC w h _ gm (by rw [sortU_ext fun z => p2.mem_iff]; exact f63)
  rw [counts_perm p2] at cm
  have zp := hS w h p g
  have mp := hM w h p g
  have fp := hF w h p g.toRect (by omega) (by omega)
  have bp := hB w h p g
  have ih : itD .rng [.int 3] = .ok ((upI 0 3).map PyData.int) := it_rng1 (by decide) (by decide)
  have ihh : itD .rng [.int (h : Int)] = .ok ((upI 0 h).map PyData.int) := it_rng1 (by omega) (by omega)
  have ew : (w : Int) + 1 = ((w + 1 : Nat) : Int) := by omega
  have neN : ∀ {α : Type} [DecidableEq α] {n : Nat} {f : α → D} (_ : Enc n f) (_ : n ≤ 60) (a : α), cmpB .NotEq (f a) (f a) = .ok false := fun en hn a => by
    rw [ne_enc en (by omega)]; simp
  have n1 : ∀ a b : Int, cmpB .NotEq (PyData.tuple [.int a, .int b]) (PyData.tuple [.int a, .int b]) = .ok false := fun a b => neN (enc_int.pr enc_int) (by decide) (a, b)
  have n3 := fun q => neN enc_pic (by decide) q
  have n4 := fun q => neN enc_row (by decide) q
  have n5 := fun q => neN enc_int (by decide) q
  have n6 := fun q => neN enc_int.li (by decide) q
  have m10 : binD .Mult (.int 10) (.int k) = .ok (.int (10 * k)) := mulL (by omega) (by omega)
  have m8 : binD .Mult (.int 8) (.int k) = .ok (.int (8 * k)) := mulL (by omega) (by omega)
  have sl := qs.len
  have ce := hCe w h p s g qs
  have cu := hCu w h p s g qs
  have pb := hPb w h p s2 c g qs2 hc
  rw [if_pos (by omega)] at pb
  have gg := put_good g qs2 hc (by omega)
  obtain ⟨cp1, cp2⟩ := cut_put (p := p) (s := s2) (c := c) (w := w) (by rw [qs2.len]; exact ph) (by rw [hc.1]; exact ph) g.ww (fun x hx => by have := qs2.rng x hx; omega)
  have cu2 := hCu (w + 1) h _ s2 gg qs2
  rw [if_pos (by omega), cp1] at cu2
  have ce2 := hCe (w + 1) h _ s2 gg qs2
  rw [cp2] at ce2
  have mo := means_ok g qs
  have db := hDb w h p s g qs
  rw [if_pos (by omega)] at db
  have gd := put_good g qs.up mo (by omega)
  obtain ⟨dp1, dp2⟩ := cut_put (p := p) (s := s.map fun x => x + 1) (c := meansV p s) (w := w) (by rw [List.length_map, sl]; exact ph) (by rw [mo.1]; exact ph) g.ww (fun x hx => by have := qs.up.rng x hx; omega)
  have cu3 := hCu (w + 1) h _ _ gd qs.up
  rw [if_pos (by omega), dp1] at cu3
  have ce3 := hCe (w + 1) h _ _ gd qs.up
  rw [dp2] at ce3
  have zd := hS (w + 1) h _ gd
  have cl := (cells_ok g qs).1
  have cells_in : cmpB .NotEq (.int (((cellsV p s).length : Nat) : Int)) (.int (h : Int)) = .ok false := by rw [cl]; exact n5 _
  have lr : ∀ r, bclD .list [row r] = .ok (li .int r) := fun _ => rfl
  by_cases c : 1 < w
  · have c' : (1 : Int) < (w : Int) := by omega
    rw [if_pos c] at cu
    have gl := cut_good g qs c
    have zl := hS (w - 1) h _ gl
    have ew1 : ((w - 1 : Nat) : Int) = (w : Int) - 1 := by omega
    rw [ew1] at zl
    have il := hI (pic (cutV p s)) (lay_pic _)
    rw [isPic_pic gl] at il
    have pb1 := hPb (w - 1) h _ s (cellsV p s) gl (by rw [show w - 1 + 1 = w by omega]; exact qs) (cells_ok g qs)
    rw [if_pos (by omega), put_cut (by rw [qs.len]; exact ph) g.ww qs.rng] at pb1
    have bl := hB (w - 1) h _ gl
    have br := bright_cut (by rw [qs.len]; exact ph) g.ww qs.rng
    have fll := hF (w - 1) h _ gl.toRect (by omega) (by omega)
    have fln : (flatV (cutV p s)).length ≤ 800 := by
      have := flat_len gl.ww
      have : (cutV p s).length * (w - 1) ≤ 7 * 9 := Nat.mul_le_mul (by rw [gl.hh]; omega) (by omega)
      show ((cutV p s).flatMap fun r => r).length ≤ 800
      omega
    have ad : binD .Add (li .int (flatV (cutV p s))) (li .int (cellsV p s)) = .ok (li .int (flatV (cutV p s) ++ cellsV p s)) := add_li .int _ _ (by omega)
    have st := sort_perm (cut_perm (by rw [qs.len]; exact ph) g.ww qs.rng)
    have ml := hM (w - 1) h _ gl
    have cml := hCu w h _ _ gm (way_mir qs)
    rw [if_pos c, ← cut_mir (by rw [qs.len]; exact ph) g.ww qs.rng] at cml
    simp (disch := omega) [B_law_k26, Ss.dp, Ss.hd, S.fb, Ss.tk, m10, es, ce, cells_in, c', cu, il, zl, n1, pb1, n3, bl, bp, br, n5, fll, lr, ad, sort_ints, fp, st, n6, ml, mp, pr, -List.map_map]
    rw [cmpr_li .int (fun x : Int => (w : Int) - 1 - x) rfl (by omega) (fun x _ => by simp)]
    simp (disch := omega) [cml, n3, m10, -List.map_map]
  · have c' : ¬ (1 : Int) < (w : Int) := by omega
    simp (disch := omega) [B_law_k26, Ss.dp, Ss.hd, S.fb, Ss.tk, m10, es, ce, cells_in, c', -List.map_map]

theorem k26_second {T : Tb} {fC fM fCe fS fCu fDb fPb fD fWay fF fB fI fSo : Nat} (hC : Sp_counted (T.fn fC)) (hM : Sp_mirrored (T.fn fM)) (hCe : Sp_cells_of (T.fn fCe)) (hS : Sp_size_of (T.fn fS)) (hCu : Sp_cut (T.fn fCu)) (hDb : Sp_doubled (T.fn fDb)) (hPb : Sp_put_back (T.fn fPb)) (hD : Sp_law_drawn (T.fn fD)) (hWay : Sp_law_way (T.fn fWay)) (hF : Sp_law_flat (T.fn fF)) (hB : Sp_brightness (T.fn fB)) (hI : Sp_is_picture (T.fn fI)) (hSo : Sp_law_some (T.fn fSo))
    {ns : List Int} (hs : ns.length ≤ 63) {w h : Nat} {p : List (List Int)} (hw : w ≤ 9) (hh : h ≤ 7) (g : Good w h p) {k : Int} (k0 : 0 ≤ k) (k3 : k < 3) {s s2 : List Int} (qs : Way w h s) (es : T.fn fWay [li .int ns, .int (80 + 10 * k), .int w, .int h] = .ok (row s)) (qs2 : Way (w + 1) h s2) (es2 : T.fn fWay [li .int ns, .int (110 + 10 * k), .int ((w + 1 : Nat) : Int), .int h] = .ok (row s2)) {c : List Int} (hc : CellOk h c) (ec : ∀ (F : D → Rs (Option D)), (∀ i : Int, 0 ≤ i → i < (h : Int) → F (.int i) = (T.fn fD [li .int ns, .int (140 + 8 * k + i), .int 100]).map some) → cmpR F ((upI 0 h).map PyData.int) = .ok (li .int c)) {z7' z8' z9 z10 z11 z12 z13 z14 z15' z16 : Sl} :
    ∃ ρ', (((((B_law_k26 fC fM fCe fS fCu fDb fPb fD fWay fF fB fI fSo).dp 2).hd.fb).dp 4).ex T [.fz (li .int ns), .fz (pic p), .fz (.int w), .fz (.int h), .fz (.int k), .fz (row s), .fz (row (cellsV p s)), z7', z8', z9, z10, z11, z12, z13, z14, z15', z16, .un]) = .ok (.nx ρ') ∧ ∃ z4 z5 z6 z7 z8 z9 z10 z11 z12 z13 z14 z15 z16, ρ' = [.fz (li .int ns), .fz (pic p), .fz (.int w), .fz (.int h), z4, z5, z6, z7, z8, z9, z10, z11, z12, z13, z14, z15, z16, .un] := by
  have w2 := g.w2
  have h20 := g.h2
  have k1 := g.h1
  have k2 := g.w1
  have h0 := g.row0
  have ph := g.hh
  have gm := mir_good2 g
  have fl : (flatV p).length = h * w := by rw [← g.hh]; exact flat_len g.ww
  have f63 : (sortU (flatV p)).length ≤ 63 := by
    have := sortU_le (flatV p)
    have : h * w ≤ 7 * 9 := Nat.mul_le_mul (by omega) (by omega)
    omega
  have p2 : (flatV (p.map List.reverse)).Perm (flatV p) := mir_perm p
  have cp := hC w h p g f63
  have cm := hC w h _ gm (by rw [sortU_ext fun z => p2.mem_iff]; exact f63)
  rw [counts_perm p2] at cm
  have zp := hS w h p g
  have mp := hM w h p g
  have fp := hF w h p g.toRect (by omega) (by omega)
  have bp := hB w h p g
  have ih : itD .rng [.int 3] = .ok ((upI 0 3).map PyData.int) := it_rng1 (by decide) (by decide)
  have ihh : itD .rng [.int (h : Int)] = .ok ((upI 0 h).map PyData.int) := it_rng1 (by omega) (by omega)
  have ew : (w : Int) + 1 = ((w + 1 : Nat) : Int) := by omega
  have neN : ∀ {α : Type} [DecidableEq α] {n : Nat} {f : α → D} (_ : Enc n f) (_ : n ≤ 60) (a : α), cmpB .NotEq (f a) (f a) = .ok false := fun en hn a => by
    rw [ne_enc en (by omega)]; simp
  have n1 : ∀ a b : Int, cmpB .NotEq (PyData.tuple [.int a, .int b]) (PyData.tuple [.int a, .int b]) = .ok false := fun a b => neN (enc_int.pr enc_int) (by decide) (a, b)
  have n3 := fun q => neN enc_pic (by decide) q
  have n4 := fun q => neN enc_row (by decide) q
  have n5 := fun q => neN enc_int (by decide) q
  have n6 := fun q => neN enc_int.li (by decide) q
  have m10 : binD .Mult (.int 10) (.int k) = .ok (.int (10 * k)) := mulL (by omega) (by omega)
  have m8 : binD .Mult (.int 8) (.int k) = .ok (.int (8 * k)) := mulL (by omega) (by omega)
  have n1' : cmpB .NotEq (PyData.tuple [.int ((w + 1 : Nat) : Int), .int (h : Int)]) (PyData.tuple [.int ((w : Int) + 1), .int (h : Int)]) = .ok false := by rw [ew]; exact n1 _ _
  have sl := qs.len
  have ce := hCe w h p s g qs
  have cu := hCu w h p s g qs
  have pb := hPb w h p s2 c g qs2 hc
  rw [if_pos (by omega)] at pb
  have gg := put_good g qs2 hc (by omega)
  obtain ⟨cp1, cp2⟩ := cut_put (p := p) (s := s2) (c := c) (w := w) (by rw [qs2.len]; exact ph) (by rw [hc.1]; exact ph) g.ww (fun x hx => by have := qs2.rng x hx; omega)
  have cu2 := hCu (w + 1) h _ s2 gg qs2
  rw [if_pos (by omega), cp1] at cu2
  have ce2 := hCe (w + 1) h _ s2 gg qs2
  rw [cp2] at ce2
  have mo := means_ok g qs
  have db := hDb w h p s g qs
  rw [if_pos (by omega)] at db
  have gd := put_good g qs.up mo (by omega)
  obtain ⟨dp1, dp2⟩ := cut_put (p := p) (s := s.map fun x => x + 1) (c := meansV p s) (w := w) (by rw [List.length_map, sl]; exact ph) (by rw [mo.1]; exact ph) g.ww (fun x hx => by have := qs.up.rng x hx; omega)
  have cu3 := hCu (w + 1) h _ _ gd qs.up
  rw [if_pos (by omega), dp1] at cu3
  have ce3 := hCe (w + 1) h _ _ gd qs.up
  rw [dp2] at ce3
  have zd := hS (w + 1) h _ gd
  have cl := (cells_ok g qs).1
  have cells_in : cmpB .NotEq (.int (((cellsV p s).length : Nat) : Int)) (.int (h : Int)) = .ok false := by rw [cl]; exact n5 _
  have lr : ∀ r, bclD .list [row r] = .ok (li .int r) := fun _ => rfl
  simp (disch := omega) [B_law_k26, Ss.dp, Ss.hd, S.fb, m10, m8, ew, es2, ihh, -List.map_map, -Int.natCast_add]
  rw [ec _ (fun i i1 i2 => by simp (disch := omega) [m8])]
  simp (disch := omega) [pb, cu2, n3, ce2, n4, db, -List.map_map, -Int.natCast_add]
  rw [cmpr_li .int (fun x : Int => x + 1) rfl (by omega) (fun x _ => by simp)]
  simp (disch := omega) [cu3, n3, zd, n1', pr, ce3, -List.map_map, -Int.natCast_add]
  refine for_remN (fun l ρ => (∀ q ∈ l, q ∈ p.zip (s.zip (meansV p s))) ∧ ∃ z4 z5 z6 z7 z8 z9 z10 z11 z12 z13 z14 z15 z16, ρ = [.fz (li .int ns), .fz (pic p), .fz (.int w), .fz (.int h), z4, z5, z6, z7, z8, z9, z10, z11, z12, z13, z14, z15, z16, .un]) ?_ ?_ _ _ ⟨fun q hq => hq, _, _, _, _, _, _, _, _, _, _, _, _, _, rfl⟩
  · rintro _ ⟨_, z4, z5, z6, z7, z8, z9, z10, z11, z12, z13, z14, z15, z16, rfl⟩
    exact ⟨_, rfl, _, _, _, _, _, _, _, _, _, _, _, _, _, rfl⟩
  · rintro ⟨r, x, z⟩ l2 _ ⟨hq, z4, z5, z6, z7, z8, z9, z10, z11, z12, z13, z14, z15, z16, rfl⟩
    have hm := hq _ List.mem_cons_self
    have ez : z = (getI r x + nextV r x) / 2 := by
      have key : ∀ (p : List (List Int)) (s : List Int), (r, x, z) ∈ p.zip (s.zip (meansV p s)) → z = (getI r x + nextV r x) / 2 := by
        intro p
        induction p with
        | nil => intro s hm; cases hm
        | cons r0 p ih =>
          intro s hm
          cases s with
          | nil => cases hm
          | cons x0 s =>
            have hm : (r, x, z) ∈ (r0, x0, (getI r0 x0 + nextV r0 x0) / 2) :: p.zip (s.zip (meansV p s)) := hm
            rcases List.mem_cons.mp hm with e | e
            · injection e with e1 e2
              injection e2 with e2 e3
              rw [e1, e2, e3]
            · exact ih s e
      exact key p s hm
    have hr := g.ww r (List.of_mem_zip hm).1
    have hx := qs.rng x (List.of_mem_zip (List.of_mem_zip hm).2).1
    have hr : r.length = w := hr
    have hx : 0 ≤ x ∧ x < (w : Int) := hx
    have c2 := cut_two (r := r) hx.1 (by omega)
    have nx : nextV r x = if x + 1 < (r.length : Int) then getI r (x + 1) else getI r x := by
      unfold nextV
      by_cases c : x + 1 < (r.length : Int)
      · rw [if_pos c, show min ((r.length : Int) - 1) (x + 1) = x + 1 by omega]
      · rw [if_neg c, show min ((r.length : Int) - 1) (x + 1) = x by omega]
    refine .inl ?_
    by_cases c : x + 1 < (r.length : Int)
    · rw [if_pos c] at c2 nx
      rw [nx] at ez
      have b1 : ¬ z < minBy ltI (getI r x) [getI r (x + 1)] := by
        unfold minBy ltI
        simp
        split <;> omega
      have b2 : ¬ maxBy ltI (getI r x) [getI r (x + 1)] < z := by
        unfold maxBy ltI
        simp
        split <;> omega
      simp [t3, c2, min_row, max_row, b1, b2]
      exact ⟨_, rfl, fun a b d hq2 => hq _ (List.mem_cons_of_mem _ hq2), _, _, _, _, _, _, _, _, _, _, _, _, _, rfl⟩
    · rw [if_neg c] at c2 nx
      rw [nx] at ez
      have b1 : ¬ z < minBy ltI (getI r x) [] := by
        unfold minBy
        simp
        omega
      have b2 : ¬ maxBy ltI (getI r x) [] < z := by
        unfold maxBy
        simp
        omega
      simp [t3, c2, min_row, max_row, b1, b2]
      exact ⟨_, rfl, fun a b d hq2 => hq _ (List.mem_cons_of_mem _ hq2), _, _, _, _, _, _, _, _, _, _, _, _, _, rfl⟩

theorem ok_law_k26 {T : Tb} {fC fM fCe fS fCu fDb fPb fD fWay fF fB fI fSo : Nat} (hC : Sp_counted (T.fn fC)) (hM : Sp_mirrored (T.fn fM)) (hCe : Sp_cells_of (T.fn fCe)) (hS : Sp_size_of (T.fn fS)) (hCu : Sp_cut (T.fn fCu)) (hDb : Sp_doubled (T.fn fDb)) (hPb : Sp_put_back (T.fn fPb)) (hD : Sp_law_drawn (T.fn fD)) (hWay : Sp_law_way (T.fn fWay)) (hF : Sp_law_flat (T.fn fF)) (hB : Sp_brightness (T.fn fB)) (hI : Sp_is_picture (T.fn fI)) (hSo : Sp_law_some (T.fn fSo)) :
    ∀ ns : List Int, ns.length ≤ 63 → runD T 1 18 (B_law_k26 fC fM fCe fS fCu fDb fPb fD fWay fF fB fI fSo) [.list (ns.map PyData.int)] = .ok (.bool true) := by
  intro ns hs
  obtain ⟨w, h, p, hw, hh, g, e⟩ := hSo ns 0 9 7 hs (by omega) (by omega) (by omega) (by omega) (by omega) (by omega)
  have e : T.fn fSo [li .int ns, .int 0, .int 9, .int 7] = .ok (pic p) := e
  have w2 := g.w2
  have h20 := g.h2
  have k1 := g.h1
  have k2 := g.w1
  have h0 := g.row0
  have ph := g.hh
  have gm := mir_good2 g
  have fl : (flatV p).length = h * w := by rw [← g.hh]; exact flat_len g.ww
  have f63 : (sortU (flatV p)).length ≤ 63 := by
    have := sortU_le (flatV p)
    have : h * w ≤ 7 * 9 := Nat.mul_le_mul (by omega) (by omega)
    omega
  have p2 : (flatV (p.map List.reverse)).Perm (flatV p) := mir_perm p
  have cp := hC w h p g f63
  have cm := hC w h _ gm (by rw [sortU_ext fun z => p2.mem_iff]; exact f63)
  rw [counts_perm p2] at cm
  have zp := hS w h p g
  have mp := hM w h p g
  have fp := hF w h p g.toRect (by omega) (by omega)
  have bp := hB w h p g
  have ih : itD .rng [.int 3] = .ok ((upI 0 3).map PyData.int) := it_rng1 (by decide) (by decide)
  have ihh : itD .rng [.int (h : Int)] = .ok ((upI 0 h).map PyData.int) := it_rng1 (by omega) (by omega)
  have ew : (w : Int) + 1 = ((w + 1 : Nat) : Int) := by omega
  have neN : ∀ {α : Type} [DecidableEq α] {n : Nat} {f : α → D} (_ : Enc n f) (_ : n ≤ 60) (a : α), cmpB .NotEq (f a) (f a) = .ok false := fun en hn a => by
    rw [ne_enc en (by omega)]; simp
  have n1 : ∀ a b : Int, cmpB .NotEq (PyData.tuple [.int a, .int b]) (PyData.tuple [.int a, .int b]) = .ok false := fun a b => neN (enc_int.pr enc_int) (by decide) (a, b)
  have n3 := fun q => neN enc_pic (by decide) q
  have n4 := fun q => neN enc_row (by decide) q
  have n5 := fun q => neN enc_int (by decide) q
  have n6 := fun q => neN enc_int.li (by decide) q
  show runD T 1 18 (B_law_k26 fC fM fCe fS fCu fDb fPb fD fWay fF fB fI fSo) [li .int ns] = _
  simp (disch := omega) [runD, B_law_k26, e, zp, pr, ih]
  refine for_bkr (fun l ρ => (∀ x ∈ l, 0 ≤ x ∧ x < (3 : Int)) ∧ ∃ z4 z5 z6 z7 z8 z9 z10 z11 z12 z13 z14 z15 z16, ρ = [.fz (li .int ns), .fz (pic p), .fz (.int w), .fz (.int h), z4, z5, z6, z7, z8, z9, z10, z11, z12, z13, z14, z15, z16, .un]) ⟨fun x hx => mem_upI.mp hx, _, _, _, _, _, _, _, _, _, _, _, _, _, rfl⟩ ?_ ?_
  · rintro _ ⟨_, z4, z5, z6, z7, z8, z9, z10, z11, z12, z13, z14, z15, z16, rfl⟩
    have n2 : cmpB .Eq (li (pr PyData.int PyData.int) (countsV (flatV p))) (li (pr PyData.int PyData.int) (countsV (flatV p))) = .ok true := by
      rw [eq_enc (enc_int.pr enc_int).li (by decide)]; simp
    simp (disch := omega) [mp, cp, cm, n2]
  · rintro k l _ ⟨hl, z4, z5, z6, z7, z8, z9, z10, z11, z12, z13, z14, z15, z16, rfl⟩
    obtain ⟨k0, k3⟩ := hl k List.mem_cons_self
    have m10 : binD .Mult (.int 10) (.int k) = .ok (.int (10 * k)) := mulL (by omega) (by omega)
    have m8 : binD .Mult (.int 8) (.int k) = .ok (.int (8 * k)) := mulL (by omega) (by omega)
    obtain ⟨s, qs, es⟩ := hWay ns (80 + 10 * k) w h hs (by omega) (by omega) (by omega) (by omega) (by omega) (by omega)
    obtain ⟨s2, qs2, es2⟩ := hWay ns (110 + 10 * k) (w + 1) h hs (by omega) (by omega) (by omega) (by omega) (by omega) (by omega)
    obtain ⟨c, hc, ec⟩ := cells_dr hD hs (140 + 8 * k) h (by omega) (by omega) (by omega)
    obtain ⟨z7', z8', z15', first⟩ := k26_first hC hM hCe hS hCu hDb hPb hD hWay hF hB hI hSo hs hw hh g k0 k3 qs es qs2 es2 hc ec (z5 := z5) (z6 := z6) (z7 := z7) (z8 := z8) (z9 := z9) (z10 := z10) (z11 := z11) (z12 := z12) (z13 := z13) (z14 := z14) (z15 := z15) (z16 := z16)
    have second := k26_second hC hM hCe hS hCu hDb hPb hD hWay hF hB hI hSo hs hw hh g k0 k3 qs es qs2 es2 hc ec (z7' := z7') (z8' := z8') (z9 := z9) (z10 := z10) (z11 := z11) (z12 := z12) (z13 := z13) (z14 := z14) (z15' := z15') (z16 := z16)
    left
    obtain ⟨ρ', e2, z⟩ := second
    refine ⟨ρ', ?_, fun x hx => hl x (List.mem_cons_of_mem _ hx), z⟩
    show ((((B_law_k26 fC fM fCe fS fCu fDb fPb fD fWay fF fB fI fSo).dp 2).hd.fb).ex T [.fz (li .int ns), .fz (pic p), .fz (.int w), .fz (.int h), .fz (.int k), z5, z6, z7, z8, z9, z10, z11, z12, z13, z14, z15, z16, .un]) = _
    exact exs_nx T 4 first e2
end Rf
set_option Elab.async false
set_option linter.all false
set_option maxRecDepth 100000
set_option maxHeartbeats 4000000
namespace W26
open Rf PySem PySem.Spec PyProof.Rows L2
def top (i : Nat) : Stmt := PySem.Challenge.pw_seamhall_k26_whole_cut_back.main.body.getD i (.Pass ⟨0, 0, 0, 0⟩)
def cls : List Str := [(Str.ofString "SeamError"), (Str.ofString "NoPicture"), (Str.ofString "NoSeam"), (Str.ofString "NoCells")]
def isa (i j : Nat) : Bool := (([[true, false, false, false], [true, true, false, false], [true, false, true, false], [true, false, false, true]] : List (List Bool)).getD i []).getD j false
def gls : List (Str × Gc) := [((Str.ofString "MOST_CELL"), (.dv (.int 99))), ((Str.ofString "MOST_SIDE"), (.dv (.int 20)))]
def shs : List Sh := []
def T0 : Tb := tb0 cls isa gls shs
/-- is_number -/
def b0 : Ss := B_is_number
def N0 : List Str := [(Str.ofString "thing"), (Str.ofString "least"), (Str.ofString "most")]
def P0 : List Str := [(Str.ofString "thing"), (Str.ofString "least"), (Str.ofString "most")]
def f0 : Fn := ⟨(Str.ofString "is_number"), P0.length, runD T0 P0.length N0.length b0, true⟩
def T1 : Tb := { T0 with fns := T0.fns ++ [f0] }
/-- is_row -/
def b1 : Ss := B_is_row 0 0
def N1 : List Str := [(Str.ofString "thing"), (Str.ofString "wide"), (Str.ofString "cell")]
def P1 : List Str := [(Str.ofString "thing"), (Str.ofString "wide")]
def f1 : Fn := ⟨(Str.ofString "is_row"), P1.length, runD T1 P1.length N1.length b1, true⟩
def T2 : Tb := { T0 with fns := T1.fns ++ [f1] }
/-- is_picture -/
def b2 : Ss := B_is_picture 1 1
def N2 : List Str := [(Str.ofString "thing"), (Str.ofString "row")]
def P2 : List Str := [(Str.ofString "thing")]
def f2 : Fn := ⟨(Str.ofString "is_picture"), P2.length, runD T2 P2.length N2.length b2, true⟩
def T3 : Tb := { T0 with fns := T2.fns ++ [f2] }
/-- need_picture -/
def b3 : Ss := B_need_picture 2 1
def N3 : List Str := [(Str.ofString "picture")]
def P3 : List Str := [(Str.ofString "picture")]
def f3 : Fn := ⟨(Str.ofString "need_picture"), P3.length, runD T3 P3.length N3.length b3, true⟩
def T4 : Tb := { T0 with fns := T3.fns ++ [f3] }
/-- size_of -/
def b4 : Ss := B_size_of 3
def N4 : List Str := [(Str.ofString "picture")]
def P4 : List Str := [(Str.ofString "picture")]
def f4 : Fn := ⟨(Str.ofString "size_of"), P4.length, runD T4 P4.length N4.length b4, true⟩
def T5 : Tb := { T0 with fns := T4.fns ++ [f4] }
/-- mirrored -/
def b5 : Ss := B_mirrored 3
def N5 : List Str := [(Str.ofString "picture"), (Str.ofString "row")]
def P5 : List Str := [(Str.ofString "picture")]
def f5 : Fn := ⟨(Str.ofString "mirrored"), P5.length, runD T5 P5.length N5.length b5, true⟩
def T6 : Tb := { T0 with fns := T5.fns ++ [f5] }
/-- counted -/
def b6 : Ss := B_counted 3
def N6 : List Str := [(Str.ofString "picture"), (Str.ofString "cells"), (Str.ofString "row"), (Str.ofString "cell")]
def P6 : List Str := [(Str.ofString "picture")]
def f6 : Fn := ⟨(Str.ofString "counted"), P6.length, runD T6 P6.length N6.length b6, true⟩
def T7 : Tb := { T0 with fns := T6.fns ++ [f6] }
/-- brightness -/
def b7 : Ss := B_brightness 3
def N7 : List Str := [(Str.ofString "picture"), (Str.ofString "row"), (Str.ofString "cell")]
def P7 : List Str := [(Str.ofString "picture")]
def f7 : Fn := ⟨(Str.ofString "brightness"), P7.length, runD T7 P7.length N7.length b7, true⟩
def T8 : Tb := { T0 with fns := T7.fns ++ [f7] }
/-- is_way -/
def b8 : Ss := B_is_way 0
def N8 : List Str := [(Str.ofString "thing"), (Str.ofString "wide"), (Str.ofString "high"), (Str.ofString "x"), (Str.ofString "one"), (Str.ofString "other")]
def P8 : List Str := [(Str.ofString "thing"), (Str.ofString "wide"), (Str.ofString "high")]
def f8 : Fn := ⟨(Str.ofString "is_way"), P8.length, runD T8 P8.length N8.length b8, true⟩
def T9 : Tb := { T0 with fns := T8.fns ++ [f8] }
/-- is_seam -/
def b9 : Ss := B_is_seam 8 3
def N9 : List Str := [(Str.ofString "thing"), (Str.ofString "picture")]
def P9 : List Str := [(Str.ofString "thing"), (Str.ofString "picture")]
def f9 : Fn := ⟨(Str.ofString "is_seam"), P9.length, runD T9 P9.length N9.length b9, true⟩
def T10 : Tb := { T0 with fns := T9.fns ++ [f9] }
/-- need_seam -/
def b10 : Ss := B_need_seam 9 2
def N10 : List Str := [(Str.ofString "picture"), (Str.ofString "seam")]
def P10 : List Str := [(Str.ofString "picture"), (Str.ofString "seam")]
def f10 : Fn := ⟨(Str.ofString "need_seam"), P10.length, runD T10 P10.length N10.length b10, true⟩
def T11 : Tb := { T0 with fns := T10.fns ++ [f10] }
/-- cells_of -/
def b11 : Ss := B_cells_of 10 3
def N11 : List Str := [(Str.ofString "picture"), (Str.ofString "seam"), (Str.ofString "row"), (Str.ofString "x")]
def P11 : List Str := [(Str.ofString "picture"), (Str.ofString "seam")]
def f11 : Fn := ⟨(Str.ofString "cells_of"), P11.length, runD T11 P11.length N11.length b11, true⟩
def T12 : Tb := { T0 with fns := T11.fns ++ [f11] }
/-- without -/
def b12 : Ss := B_without
def N12 : List Str := [(Str.ofString "rows"), (Str.ofString "seam"), (Str.ofString "row"), (Str.ofString "x")]
def P12 : List Str := [(Str.ofString "rows"), (Str.ofString "seam")]
def f12 : Fn := ⟨(Str.ofString "without"), P12.length, runD T12 P12.length N12.length b12, true⟩
def T13 : Tb := { T0 with fns := T12.fns ++ [f12] }
/-- cut -/
def b13 : Ss := B_cut 12 10 3
def N13 : List Str := [(Str.ofString "picture"), (Str.ofString "seam")]
def P13 : List Str := [(Str.ofString "picture"), (Str.ofString "seam")]
def f13 : Fn := ⟨(Str.ofString "cut"), P13.length, runD T13 P13.length N13.length b13, true⟩
def T14 : Tb := { T0 with fns := T13.fns ++ [f13] }
/-- is_cells -/
def b14 : Ss := B_is_cells 0 0
def N14 : List Str := [(Str.ofString "thing"), (Str.ofString "high"), (Str.ofString "cell")]
def P14 : List Str := [(Str.ofString "thing"), (Str.ofString "high")]
def f14 : Fn := ⟨(Str.ofString "is_cells"), P14.length, runD T14 P14.length N14.length b14, true⟩
def T15 : Tb := { T0 with fns := T14.fns ++ [f14] }
/-- put_in -/
def b15 : Ss := B_put_in
def N15 : List Str := [(Str.ofString "rows"), (Str.ofString "seam"), (Str.ofString "cells"), (Str.ofString "row"), (Str.ofString "x"), (Str.ofString "cell")]
def P15 : List Str := [(Str.ofString "rows"), (Str.ofString "seam"), (Str.ofString "cells")]
def f15 : Fn := ⟨(Str.ofString "put_in"), P15.length, runD T15 P15.length N15.length b15, true⟩
def T16 : Tb := { T0 with fns := T15.fns ++ [f15] }
/-- put_back -/
def b16 : Ss := B_put_back 1 15 14 3 8 2 3
def N16 : List Str := [(Str.ofString "picture"), (Str.ofString "seam"), (Str.ofString "cells")]
def P16 : List Str := [(Str.ofString "picture"), (Str.ofString "seam"), (Str.ofString "cells")]
def f16 : Fn := ⟨(Str.ofString "put_back"), P16.length, runD T16 P16.length N16.length b16, true⟩
def T17 : Tb := { T0 with fns := T16.fns ++ [f16] }
/-- near_next -/
def b17 : Ss := B_near_next
def N17 : List Str := [(Str.ofString "row"), (Str.ofString "x")]
def P17 : List Str := [(Str.ofString "row"), (Str.ofString "x")]
def f17 : Fn := ⟨(Str.ofString "near_next"), P17.length, runD T17 P17.length N17.length b17, true⟩
def T18 : Tb := { T0 with fns := T17.fns ++ [f17] }
/-- means -/
def b18 : Ss := B_means 17
def N18 : List Str := [(Str.ofString "rows"), (Str.ofString "seam"), (Str.ofString "row"), (Str.ofString "x")]
def P18 : List Str := [(Str.ofString "rows"), (Str.ofString "seam")]
def f18 : Fn := ⟨(Str.ofString "means"), P18.length, runD T18 P18.length N18.length b18, true⟩
def T19 : Tb := { T0 with fns := T18.fns ++ [f18] }
/-- doubled -/
def b19 : Ss := B_doubled 1 15 18 10 3
def N19 : List Str := [(Str.ofString "picture"), (Str.ofString "seam"), (Str.ofString "there"), (Str.ofString "x")]
def P19 : List Str := [(Str.ofString "picture"), (Str.ofString "seam")]
def f19 : Fn := ⟨(Str.ofString "doubled"), P19.length, runD T19 P19.length N19.length b19, true⟩
def T20 : Tb := { T0 with fns := T19.fns ++ [f19] }
/-- _law_drawn -/
def b20 : Ss := B_law_drawn
def N20 : List Str := [(Str.ofString "_law_script"), (Str.ofString "_law_k"), (Str.ofString "_law_many"), (Str.ofString "_law_cell"), (Str.ofString "_law_turn"), (Str.ofString "_law_rest")]
def P20 : List Str := [(Str.ofString "_law_script"), (Str.ofString "_law_k"), (Str.ofString "_law_many")]
def f20 : Fn := ⟨(Str.ofString "_law_drawn"), P20.length, runD T20 P20.length N20.length b20, true⟩
def T21 : Tb := { T0 with fns := T20.fns ++ [f20] }
/-- _law_picture -/
def b21 : Ss := B_law_picture 20
def N21 : List Str := [(Str.ofString "_law_script"), (Str.ofString "_law_at"), (Str.ofString "_law_broad"), (Str.ofString "_law_tall"), (Str.ofString "_law_most"), (Str.ofString "_law_rows"), (Str.ofString "_law_y"), (Str.ofString "_law_x")]
def P21 : List Str := [(Str.ofString "_law_script"), (Str.ofString "_law_at"), (Str.ofString "_law_broad"), (Str.ofString "_law_tall")]
def f21 : Fn := ⟨(Str.ofString "_law_picture"), P21.length, runD T21 P21.length N21.length b21, true⟩
def T22 : Tb := { T0 with fns := T21.fns ++ [f21] }
/-- _law_some -/
def b22 : Ss := B_law_some 21 20
def N22 : List Str := [(Str.ofString "_law_script"), (Str.ofString "_law_at"), (Str.ofString "_law_broad"), (Str.ofString "_law_tall")]
def P22 : List Str := [(Str.ofString "_law_script"), (Str.ofString "_law_at"), (Str.ofString "_law_broad"), (Str.ofString "_law_tall")]
def f22 : Fn := ⟨(Str.ofString "_law_some"), P22.length, runD T22 P22.length N22.length b22, true⟩
def T23 : Tb := { T0 with fns := T22.fns ++ [f22] }
/-- _law_way -/
def b23 : Ss := B_law_way 20
def N23 : List Str := [(Str.ofString "_law_script"), (Str.ofString "_law_at"), (Str.ofString "_law_broad"), (Str.ofString "_law_tall"), (Str.ofString "_law_way_here"), (Str.ofString "_law_k")]
def P23 : List Str := [(Str.ofString "_law_script"), (Str.ofString "_law_at"), (Str.ofString "_law_broad"), (Str.ofString "_law_tall")]
def f23 : Fn := ⟨(Str.ofString "_law_way"), P23.length, runD T23 P23.length N23.length b23, true⟩
def T24 : Tb := { T0 with fns := T23.fns ++ [f23] }
/-- _law_flat -/
def b24 : Ss := B_law_flat
def N24 : List Str := [(Str.ofString "_law_picture_here"), (Str.ofString "_law_found"), (Str.ofString "_law_row")]
def P24 : List Str := [(Str.ofString "_law_picture_here")]
def f24 : Fn := ⟨(Str.ofString "_law_flat"), P24.length, runD T24 P24.length N24.length b24, true⟩
def T25 : Tb := { T0 with fns := T24.fns ++ [f24] }
/-- law -/
def b25 : Ss := B_law_k26 6 5 11 4 13 19 16 20 23 24 7 2 22
def N25 : List Str := [(Str.ofString "_law_script"), (Str.ofString "_law_picture_here"), (Str.ofString "_law_broad"), (Str.ofString "_law_tall"), (Str.ofString "_law_k"), (Str.ofString "_law_seam"), (Str.ofString "_law_cells"), (Str.ofString "_law_less"), (Str.ofString "_law_due"), (Str.ofString "_law_there"), (Str.ofString "_law_more"), (Str.ofString "_law_greater"), (Str.ofString "_law_twice"), (Str.ofString "_law_new"), (Str.ofString "_law_row"), (Str.ofString "_law_x"), (Str.ofString "_law_cell"), (Str.ofString "_law_n")]
def P25 : List Str := [(Str.ofString "_law_script")]
def f25 : Fn := ⟨(Str.ofString "law"), P25.length, runD T25 P25.length N25.length b25, true⟩
end W26
set_option Elab.async false
set_option linter.all false
set_option maxRecDepth 100000
set_option maxHeartbeats 0
namespace W26
open Rf PySem PySem.Spec PyProof.Rows L2
def fn : List He.DefD := [dd "is_number" (top 8), dd "is_row" (top 9), dd "is_picture" (top 10), dd "need_picture" (top 11), dd "size_of" (top 12), dd "mirrored" (top 13), dd "counted" (top 14), dd "brightness" (top 15), dd "is_way" (top 17), dd "is_seam" (top 18), dd "need_seam" (top 19), dd "cells_of" (top 20), dd "without" (top 21), dd "cut" (top 22), dd "is_cells" (top 23), dd "put_in" (top 24), dd "put_back" (top 25), dd "near_next" (top 27), dd "means" (top 26), dd "doubled" (top 28), dd "_law_drawn" (top 30), dd "_law_picture" (top 31), dd "_law_some" (top 32), dd "_law_way" (top 33), dd "_law_flat" (top 34), dd "law" (top 35)]
structure Cx (Z : Wd) : Prop where
  c : SaysR fn (topB cls isa gls) Z.K
  x : ∃ h, Z.K.In h ∧ h.Ns mainGlobals Z.mg
  ca : Z.ca = caOf Z.K cls
theorem Cx.mg {Z : Wd} (h : Cx Z) {x : Str} {v : Value} (e : PySem.W.nsIn Z.K mainGlobals x = some (some v)) : Z.mg x = some v := by
  obtain ⟨_, X, G⟩ := h.x
  exact PySem.W.mg_of X G e
theorem t0 {Z : Wd} (h : Cx Z) : Tok T0 Z 0 := by
  obtain ⟨_, X, G⟩ := h.x
  exact tok0 X G h.c.more h.ca
theorem sc0 : FnScope N0 P0 (defScope (top 8)) := ⟨by rfl, by rfl, by rfl, by decide +kernel, by rfl, by decide +kernel, by decide +kernel⟩
theorem ck0 : b0.chk T0 false N0 (defScope (top 8)) (undoc (defBody (top 8))) = true := by decide +kernel
theorem t1 {Z : Wd} (h : Cx Z) : Tok T1 Z 1 := by
  obtain ⟨fd, F, g⟩ := h.c.def_ 0 (d := dd "is_number" (top 8)) rfl
  exact (t0 h).def F sc0 ck0 (h.mg g) (F.bindsN fun _ _ _ _ _ _ us hl => match us, hl with | [_, _, _], _ => rfl) rfl rfl rfl rfl rfl (by decide +kernel)
theorem sc1 : FnScope N1 P1 (defScope (top 9)) := ⟨by rfl, by rfl, by rfl, by decide +kernel, by rfl, by decide +kernel, by decide +kernel⟩
theorem ck1 : b1.chk T1 false N1 (defScope (top 9)) (undoc (defBody (top 9))) = true := by decide +kernel
theorem t2 {Z : Wd} (h : Cx Z) : Tok T2 Z 2 := by
  obtain ⟨fd, F, g⟩ := h.c.def_ 1 (d := dd "is_row" (top 9)) rfl
  exact (t1 h).def F sc1 ck1 (h.mg g) (F.bindsN fun _ _ _ _ _ _ us hl => match us, hl with | [_, _], _ => rfl) rfl rfl rfl rfl rfl (by decide +kernel)
theorem sc2 : FnScope N2 P2 (defScope (top 10)) := ⟨by rfl, by rfl, by rfl, by decide +kernel, by rfl, by decide +kernel, by decide +kernel⟩
theorem ck2 : b2.chk T2 false N2 (defScope (top 10)) (undoc (defBody (top 10))) = true := by decide +kernel
theorem t3 {Z : Wd} (h : Cx Z) : Tok T3 Z 3 := by
  obtain ⟨fd, F, g⟩ := h.c.def_ 2 (d := dd "is_picture" (top 10)) rfl
  exact (t2 h).def F sc2 ck2 (h.mg g) (F.bindsN fun _ _ _ _ _ _ us hl => match us, hl with | [_], _ => rfl) rfl rfl rfl rfl rfl (by decide +kernel)
theorem sc3 : FnScope N3 P3 (defScope (top 11)) := ⟨by rfl, by rfl, by rfl, by decide +kernel, by rfl, by decide +kernel, by decide +kernel⟩
theorem ck3 : b3.chk T3 false N3 (defScope (top 11)) (undoc (defBody (top 11))) = true := by decide +kernel
theorem t4 {Z : Wd} (h : Cx Z) : Tok T4 Z 4 := by
  obtain ⟨fd, F, g⟩ := h.c.def_ 3 (d := dd "need_picture" (top 11)) rfl
  exact (t3 h).def F sc3 ck3 (h.mg g) (F.bindsN fun _ _ _ _ _ _ us hl => match us, hl with | [_], _ => rfl) rfl rfl rfl rfl rfl (by decide +kernel)
theorem sc4 : FnScope N4 P4 (defScope (top 12)) := ⟨by rfl, by rfl, by rfl, by decide +kernel, by rfl, by decide +kernel, by decide +kernel⟩
theorem ck4 : b4.chk T4 false N4 (defScope (top 12)) (undoc (defBody (top 12))) = true := by decide +kernel
theorem t5 {Z : Wd} (h : Cx Z) : Tok T5 Z 5 := by
  obtain ⟨fd, F, g⟩ := h.c.def_ 4 (d := dd "size_of" (top 12)) rfl
  exact (t4 h).def F sc4 ck4 (h.mg g) (F.bindsN fun _ _ _ _ _ _ us hl => match us, hl with | [_], _ => rfl) rfl rfl rfl rfl rfl (by decide +kernel)
theorem sc5 : FnScope N5 P5 (defScope (top 13)) := ⟨by rfl, by rfl, by rfl, by decide +kernel, by rfl, by decide +kernel, by decide +kernel⟩
theorem ck5 : b5.chk T5 false N5 (defScope (top 13)) (undoc (defBody (top 13))) = true := by decide +kernel
theorem t6 {Z : Wd} (h : Cx Z) : Tok T6 Z 6 := by
  obtain ⟨fd, F, g⟩ := h.c.def_ 5 (d := dd "mirrored" (top 13)) rfl
  exact (t5 h).def F sc5 ck5 (h.mg g) (F.bindsN fun _ _ _ _ _ _ us hl => match us, hl with | [_], _ => rfl) rfl rfl rfl rfl rfl (by decide +kernel)
theorem sc6 : FnScope N6 P6 (defScope (top 14)) := ⟨by rfl, by rfl, by rfl, by decide +kernel, by rfl, by decide +kernel, by decide +kernel⟩
theorem ck6 : b6.chk T6 false N6 (defScope (top 14)) (undoc (defBody (top 14))) = true := by decide +kernel
theorem t7 {Z : Wd} (h : Cx Z) : Tok T7 Z 7 := by
  obtain ⟨fd, F, g⟩ := h.c.def_ 6 (d := dd "counted" (top 14)) rfl
  exact (t6 h).def F sc6 ck6 (h.mg g) (F.bindsN fun _ _ _ _ _ _ us hl => match us, hl with | [_], _ => rfl) rfl rfl rfl rfl rfl (by decide +kernel)
theorem sc7 : FnScope N7 P7 (defScope (top 15)) := ⟨by rfl, by rfl, by rfl, by decide +kernel, by rfl, by decide +kernel, by decide +kernel⟩
theorem ck7 : b7.chk T7 false N7 (defScope (top 15)) (undoc (defBody (top 15))) = true := by decide +kernel
theorem t8 {Z : Wd} (h : Cx Z) : Tok T8 Z 8 := by
  obtain ⟨fd, F, g⟩ := h.c.def_ 7 (d := dd "brightness" (top 15)) rfl
  exact (t7 h).def F sc7 ck7 (h.mg g) (F.bindsN fun _ _ _ _ _ _ us hl => match us, hl with | [_], _ => rfl) rfl rfl rfl rfl rfl (by decide +kernel)
theorem sc8 : FnScope N8 P8 (defScope (top 17)) := ⟨by rfl, by rfl, by rfl, by decide +kernel, by rfl, by decide +kernel, by decide +kernel⟩
theorem ck8 : b8.chk T8 false N8 (defScope (top 17)) (undoc (defBody (top 17))) = true := by decide +kernel
theorem t9 {Z : Wd} (h : Cx Z) : Tok T9 Z 9 := by
  obtain ⟨fd, F, g⟩ := h.c.def_ 8 (d := dd "is_way" (top 17)) rfl
  exact (t8 h).def F sc8 ck8 (h.mg g) (F.bindsN fun _ _ _ _ _ _ us hl => match us, hl with | [_, _, _], _ => rfl) rfl rfl rfl rfl rfl (by decide +kernel)
theorem sc9 : FnScope N9 P9 (defScope (top 18)) := ⟨by rfl, by rfl, by rfl, by decide +kernel, by rfl, by decide +kernel, by decide +kernel⟩
theorem ck9 : b9.chk T9 false N9 (defScope (top 18)) (undoc (defBody (top 18))) = true := by decide +kernel
theorem t10 {Z : Wd} (h : Cx Z) : Tok T10 Z 10 := by
  obtain ⟨fd, F, g⟩ := h.c.def_ 9 (d := dd "is_seam" (top 18)) rfl
  exact (t9 h).def F sc9 ck9 (h.mg g) (F.bindsN fun _ _ _ _ _ _ us hl => match us, hl with | [_, _], _ => rfl) rfl rfl rfl rfl rfl (by decide +kernel)
theorem sc10 : FnScope N10 P10 (defScope (top 19)) := ⟨by rfl, by rfl, by rfl, by decide +kernel, by rfl, by decide +kernel, by decide +kernel⟩
theorem ck10 : b10.chk T10 false N10 (defScope (top 19)) (undoc (defBody (top 19))) = true := by decide +kernel
theorem t11 {Z : Wd} (h : Cx Z) : Tok T11 Z 11 := by
  obtain ⟨fd, F, g⟩ := h.c.def_ 10 (d := dd "need_seam" (top 19)) rfl
  exact (t10 h).def F sc10 ck10 (h.mg g) (F.bindsN fun _ _ _ _ _ _ us hl => match us, hl with | [_, _], _ => rfl) rfl rfl rfl rfl rfl (by decide +kernel)
theorem sc11 : FnScope N11 P11 (defScope (top 20)) := ⟨by rfl, by rfl, by rfl, by decide +kernel, by rfl, by decide +kernel, by decide +kernel⟩
theorem ck11 : b11.chk T11 false N11 (defScope (top 20)) (undoc (defBody (top 20))) = true := by decide +kernel
theorem t12 {Z : Wd} (h : Cx Z) : Tok T12 Z 12 := by
  obtain ⟨fd, F, g⟩ := h.c.def_ 11 (d := dd "cells_of" (top 20)) rfl
  exact (t11 h).def F sc11 ck11 (h.mg g) (F.bindsN fun _ _ _ _ _ _ us hl => match us, hl with | [_, _], _ => rfl) rfl rfl rfl rfl rfl (by decide +kernel)
theorem sc12 : FnScope N12 P12 (defScope (top 21)) := ⟨by rfl, by rfl, by rfl, by decide +kernel, by rfl, by decide +kernel, by decide +kernel⟩
theorem ck12 : b12.chk T12 false N12 (defScope (top 21)) (undoc (defBody (top 21))) = true := by decide +kernel
theorem t13 {Z : Wd} (h : Cx Z) : Tok T13 Z 13 := by
  obtain ⟨fd, F, g⟩ := h.c.def_ 12 (d := dd "without" (top 21)) rfl
  exact (t12 h).def F sc12 ck12 (h.mg g) (F.bindsN fun _ _ _ _ _ _ us hl => match us, hl with | [_, _], _ => rfl) rfl rfl rfl rfl rfl (by decide +kernel)
theorem sc13 : FnScope N13 P13 (defScope (top 22)) := ⟨by rfl, by rfl, by rfl, by decide +kernel, by rfl, by decide +kernel, by decide +kernel⟩
theorem ck13 : b13.chk T13 false N13 (defScope (top 22)) (undoc (defBody (top 22))) = true := by decide +kernel
theorem t14 {Z : Wd} (h : Cx Z) : Tok T14 Z 14 := by
  obtain ⟨fd, F, g⟩ := h.c.def_ 13 (d := dd "cut" (top 22)) rfl
  exact (t13 h).def F sc13 ck13 (h.mg g) (F.bindsN fun _ _ _ _ _ _ us hl => match us, hl with | [_, _], _ => rfl) rfl rfl rfl rfl rfl (by decide +kernel)
theorem sc14 : FnScope N14 P14 (defScope (top 23)) := ⟨by rfl, by rfl, by rfl, by decide +kernel, by rfl, by decide +kernel, by decide +kernel⟩
theorem ck14 : b14.chk T14 false N14 (defScope (top 23)) (undoc (defBody (top 23))) = true := by decide +kernel
theorem t15 {Z : Wd} (h : Cx Z) : Tok T15 Z 15 := by
  obtain ⟨fd, F, g⟩ := h.c.def_ 14 (d := dd "is_cells" (top 23)) rfl
  exact (t14 h).def F sc14 ck14 (h.mg g) (F.bindsN fun _ _ _ _ _ _ us hl => match us, hl with | [_, _], _ => rfl) rfl rfl rfl rfl rfl (by decide +kernel)
theorem sc15 : FnScope N15 P15 (defScope (top 24)) := ⟨by rfl, by rfl, by rfl, by decide +kernel, by rfl, by decide +kernel, by decide +kernel⟩
theorem ck15 : b15.chk T15 false N15 (defScope (top 24)) (undoc (defBody (top 24))) = true := by decide +kernel
theorem t16 {Z : Wd} (h : Cx Z) : Tok T16 Z 16 := by
  obtain ⟨fd, F, g⟩ := h.c.def_ 15 (d := dd "put_in" (top 24)) rfl
  exact (t15 h).def F sc15 ck15 (h.mg g) (F.bindsN fun _ _ _ _ _ _ us hl => match us, hl with | [_, _, _], _ => rfl) rfl rfl rfl rfl rfl (by decide +kernel)
theorem sc16 : FnScope N16 P16 (defScope (top 25)) := ⟨by rfl, by rfl, by rfl, by decide +kernel, by rfl, by decide +kernel, by decide +kernel⟩
theorem ck16 : b16.chk T16 false N16 (defScope (top 25)) (undoc (defBody (top 25))) = true := by decide +kernel
theorem t17 {Z : Wd} (h : Cx Z) : Tok T17 Z 17 := by
  obtain ⟨fd, F, g⟩ := h.c.def_ 16 (d := dd "put_back" (top 25)) rfl
  exact (t16 h).def F sc16 ck16 (h.mg g) (F.bindsN fun _ _ _ _ _ _ us hl => match us, hl with | [_, _, _], _ => rfl) rfl rfl rfl rfl rfl (by decide +kernel)
theorem sc17 : FnScope N17 P17 (defScope (top 27)) := ⟨by rfl, by rfl, by rfl, by decide +kernel, by rfl, by decide +kernel, by decide +kernel⟩
theorem ck17 : b17.chk T17 false N17 (defScope (top 27)) (undoc (defBody (top 27))) = true := by decide +kernel
theorem t18 {Z : Wd} (h : Cx Z) : Tok T18 Z 18 := by
  obtain ⟨fd, F, g⟩ := h.c.def_ 17 (d := dd "near_next" (top 27)) rfl
  exact (t17 h).def F sc17 ck17 (h.mg g) (F.bindsN fun _ _ _ _ _ _ us hl => match us, hl with | [_, _], _ => rfl) rfl rfl rfl rfl rfl (by decide +kernel)
theorem sc18 : FnScope N18 P18 (defScope (top 26)) := ⟨by rfl, by rfl, by rfl, by decide +kernel, by rfl, by decide +kernel, by decide +kernel⟩
theorem ck18 : b18.chk T18 false N18 (defScope (top 26)) (undoc (defBody (top 26))) = true := by decide +kernel
theorem t19 {Z : Wd} (h : Cx Z) : Tok T19 Z 19 := by
  obtain ⟨fd, F, g⟩ := h.c.def_ 18 (d := dd "means" (top 26)) rfl
  exact (t18 h).def F sc18 ck18 (h.mg g) (F.bindsN fun _ _ _ _ _ _ us hl => match us, hl with | [_, _], _ => rfl) rfl rfl rfl rfl rfl (by decide +kernel)
theorem sc19 : FnScope N19 P19 (defScope (top 28)) := ⟨by rfl, by rfl, by rfl, by decide +kernel, by rfl, by decide +kernel, by decide +kernel⟩
theorem ck19 : b19.chk T19 false N19 (defScope (top 28)) (undoc (defBody (top 28))) = true := by decide +kernel
theorem t20 {Z : Wd} (h : Cx Z) : Tok T20 Z 20 := by
  obtain ⟨fd, F, g⟩ := h.c.def_ 19 (d := dd "doubled" (top 28)) rfl
  exact (t19 h).def F sc19 ck19 (h.mg g) (F.bindsN fun _ _ _ _ _ _ us hl => match us, hl with | [_, _], _ => rfl) rfl rfl rfl rfl rfl (by decide +kernel)
theorem sc20 : FnScope N20 P20 (defScope (top 30)) := ⟨by rfl, by rfl, by rfl, by decide +kernel, by rfl, by decide +kernel, by decide +kernel⟩
theorem ck20 : b20.chk T20 false N20 (defScope (top 30)) (undoc (defBody (top 30))) = true := by decide +kernel
theorem t21 {Z : Wd} (h : Cx Z) : Tok T21 Z 21 := by
  obtain ⟨fd, F, g⟩ := h.c.def_ 20 (d := dd "_law_drawn" (top 30)) rfl
  exact (t20 h).def F sc20 ck20 (h.mg g) (F.bindsN fun _ _ _ _ _ _ us hl => match us, hl with | [_, _, _], _ => rfl) rfl rfl rfl rfl rfl (by decide +kernel)
theorem sc21 : FnScope N21 P21 (defScope (top 31)) := ⟨by rfl, by rfl, by rfl, by decide +kernel, by rfl, by decide +kernel, by decide +kernel⟩
theorem ck21 : b21.chk T21 false N21 (defScope (top 31)) (undoc (defBody (top 31))) = true := by decide +kernel
theorem t22 {Z : Wd} (h : Cx Z) : Tok T22 Z 22 := by
  obtain ⟨fd, F, g⟩ := h.c.def_ 21 (d := dd "_law_picture" (top 31)) rfl
  exact (t21 h).def F sc21 ck21 (h.mg g) (F.bindsN fun _ _ _ _ _ _ us hl => match us, hl with | [_, _, _, _], _ => rfl) rfl rfl rfl rfl rfl (by decide +kernel)
theorem sc22 : FnScope N22 P22 (defScope (top 32)) := ⟨by rfl, by rfl, by rfl, by decide +kernel, by rfl, by decide +kernel, by decide +kernel⟩
theorem ck22 : b22.chk T22 false N22 (defScope (top 32)) (undoc (defBody (top 32))) = true := by decide +kernel
theorem t23 {Z : Wd} (h : Cx Z) : Tok T23 Z 23 := by
  obtain ⟨fd, F, g⟩ := h.c.def_ 22 (d := dd "_law_some" (top 32)) rfl
  exact (t22 h).def F sc22 ck22 (h.mg g) (F.bindsN fun _ _ _ _ _ _ us hl => match us, hl with | [_, _, _, _], _ => rfl) rfl rfl rfl rfl rfl (by decide +kernel)
theorem sc23 : FnScope N23 P23 (defScope (top 33)) := ⟨by rfl, by rfl, by rfl, by decide +kernel, by rfl, by decide +kernel, by decide +kernel⟩
theorem ck23 : b23.chk T23 false N23 (defScope (top 33)) (undoc (defBody (top 33))) = true := by decide +kernel
theorem t24 {Z : Wd} (h : Cx Z) : Tok T24 Z 24 := by
  obtain ⟨fd, F, g⟩ := h.c.def_ 23 (d := dd "_law_way" (top 33)) rfl
  exact (t23 h).def F sc23 ck23 (h.mg g) (F.bindsN fun _ _ _ _ _ _ us hl => match us, hl with | [_, _, _, _], _ => rfl) rfl rfl rfl rfl rfl (by decide +kernel)
theorem sc24 : FnScope N24 P24 (defScope (top 34)) := ⟨by rfl, by rfl, by rfl, by decide +kernel, by rfl, by decide +kernel, by decide +kernel⟩
theorem ck24 : b24.chk T24 false N24 (defScope (top 34)) (undoc (defBody (top 34))) = true := by decide +kernel
theorem t25 {Z : Wd} (h : Cx Z) : Tok T25 Z 25 := by
  obtain ⟨fd, F, g⟩ := h.c.def_ 24 (d := dd "_law_flat" (top 34)) rfl
  exact (t24 h).def F sc24 ck24 (h.mg g) (F.bindsN fun _ _ _ _ _ _ us hl => match us, hl with | [_], _ => rfl) rfl rfl rfl rfl rfl (by decide +kernel)
theorem sc25 : FnScope N25 P25 (defScope (top 35)) := ⟨by rfl, by rfl, by rfl, by decide +kernel, by rfl, by decide +kernel, by decide +kernel⟩
theorem ck25 : b25.chk T25 false N25 (defScope (top 35)) (undoc (defBody (top 35))) = true := by decide +kernel
def lo0 : List Str := [(Str.ofString "SeamError"), (Str.ofString "NoPicture"), (Str.ofString "NoSeam"), (Str.ofString "NoCells"), (Str.ofString "MOST_CELL"), (Str.ofString "MOST_SIDE"), (Str.ofString "is_number"), (Str.ofString "is_row"), (Str.ofString "is_picture"), (Str.ofString "need_picture"), (Str.ofString "size_of"), (Str.ofString "mirrored"), (Str.ofString "counted"), (Str.ofString "brightness"), (Str.ofString "is_way"), (Str.ofString "is_seam"), (Str.ofString "need_seam"), (Str.ofString "cells_of"), (Str.ofString "without"), (Str.ofString "cut"), (Str.ofString "is_cells"), (Str.ofString "put_in"), (Str.ofString "put_back"), (Str.ofString "means"), (Str.ofString "near_next"), (Str.ofString "doubled"), (Str.ofString "_law_drawn"), (Str.ofString "_law_picture"), (Str.ofString "_law_some"), (Str.ofString "_law_way")]
def lo1 : List Str := [(Str.ofString "_law_flat")]
def loose : List Str := lo0 ++ lo1
abbrev R : PySem.W.OpenRow := PySem.W.OpenLaw.row PySem.Challenge.rw_seamhall_k26_whole_cut_back
abbrev hk : PySem.W.Hook := hookR 5 fn (topB cls isa gls)
def ob (s : PySem.W.SharedT) : He.AlD := obsRG 5 fn (topB cls isa gls) (HandSHeadRun.getT s)
theorem ob_eq (s : PySem.W.SharedT) : ob s = hk.obs s.abs := obsRG_eq (HandSHeadRun.getT_eq s)
end W26
set_option Elab.async false
set_option linter.all false
set_option maxRecDepth 100000
set_option maxHeartbeats 0
namespace W26
open Rf PySem PySem.Spec PyProof.Rows L2
theorem run (w : World) : HandSHeadRun.RunEq R (PySem.W.view R.prog [35]) hk ob 4000 loose w := by
  intro os
  kernel_rfl
end W26
open PySem PySem.W PySem.Calls PyProof.Rows Rf L2
theorem W26.ends (pure : ∀ ns : List Int, ns.length ≤ 63 → W26.f25.m [.list (ns.map PyData.int)] = .ok (.bool true)) : PySem.Challenge.rw_seamhall_k26_whole_cut_back.Holds := by
  w_on; o_law
  refine HandSHeadRun.head_any (r := OpenLaw.row PySem.Challenge.rw_seamhall_k26_whole_cut_back) (q := view (OpenLaw.row PySem.Challenge.rw_seamhall_k26_whole_cut_back).prog [35]) (H := W26.hk) (ob := W26.ob) (M := 4000) (loose := W26.loose) (d := HandSHeadRun.topDef (OpenLaw.row PySem.Challenge.rw_seamhall_k26_whole_cut_back).prog 35) (kwd := []) W26.ob_eq
    (by kernel_rfl) (fun s => by kernel_rfl) W26.run (by kernel_rfl) (by kernel_rfl) (by kernel_rfl) (by rfl) (by first | assumption | decide +kernel) (by decide +kernel) ⟨rfl, rfl, rfl, rfl, rfl, by decide +kernel⟩ ?hw ?hc
  case hw => w_witness2
  case hc =>
    refine law_walk (l := PySem.Challenge.rw_seamhall_k26_whole_cut_back) (n := 63) (k := 26) (x := (Str.ofString "_law_script")) rfl (by decide) (by kernel_rfl) ⟨by rfl, by decide +kernel, by decide +kernel⟩ ?F
    intro w mg fa h Y G hmg0
    obtain ⟨K, KX, c⟩ := Y
    have C : W26.Cx ⟨(PySem.Challenge.rw_seamhall_k26_whole_cut_back).prog, w, K, mg, h, caOf K W26.cls⟩ := ⟨c, ⟨h, KX, G⟩, rfl⟩
    obtain ⟨fd, F, g⟩ := c.def_ 25 (d := dd "law" (W26.top 35)) rfl
    have hmg : mg (Str.ofString "law") = some (.ref fa) := by
      have e : (HandSHeadRun.topDef (OpenLaw.row PySem.Challenge.rw_seamhall_k26_whole_cut_back).prog 35).name = Str.ofString "law" := by kernel_rfl
      rw [← e]
      exact hmg0
    have e2 := hmg.symm.trans (C.mg g)
    cases e2
    refine ⟨K, fd, spF K (caOf K W26.cls) W26.f25, KX, fun s u => F.bindsA (ps := W26.P25) (fun _ _ _ _ _ _ us hl => match us, hl with | [_], _ => rfl) s [u] rfl, fun H a ns hl hS => law_asks (f := W26.f25) rfl pure H a ns hl hS, fun base hK2 hG2 => ?_⟩
    have C2 : W26.Cx ⟨(PySem.Challenge.rw_seamhall_k26_whole_cut_back).prog, w, K, mg, base, caOf K W26.cls⟩ := ⟨c, ⟨h, KX, G⟩, rfl⟩
    exact def_ok (W26.t25 C2) F W26.sc25 W26.ck25
set_option Elab.async false
set_option linter.all false
set_option autoImplicit false
set_option maxHeartbeats 2000000
set_option maxRecDepth 100000
namespace W26
open PySem Rf L2
theorem s0 : Sp_is_number f0.m := ok_is_number
theorem s1 : Sp_is_row f1.m := ok_is_row s0 (by rfl)
theorem s2 : Sp_is_picture f2.m := ok_is_picture s1 (by rfl)
theorem s3 : Sp_need_picture 1 f3.m := ok_need_picture s2 (by decide)
theorem s4 : Sp_size_of f4.m := ok_size_of s3
theorem x4 : Sx_size_of 1 f4.m := ox_size_of s3
theorem s5 : Sp_mirrored f5.m := ok_mirrored s3
theorem s6 : Sp_counted f6.m := ok_counted s3
theorem s7 : Sp_brightness f7.m := ok_brightness s3
theorem s8 : Sp_is_way f8.m := ok_is_way s0
theorem s9 : Sp_is_seam f9.m := ok_is_seam s8 s3
theorem s10 : Sp_need_seam 2 f10.m := ok_need_seam s9 (by decide)
theorem s11 : Sp_cells_of f11.m := ok_cells_of s10 s3
theorem s12 : Sp_without f12.m := ok_without
theorem s13 : Sp_cut f13.m := ok_cut s12 s10 s3
theorem s14 : Sp_is_cells f14.m := ok_is_cells s0 (by rfl)
theorem s15 : Sp_put_in f15.m := ok_put_in
theorem s16 : Sp_put_back f16.m := ok_put_back (by rfl) s15 s14 s8 s3
theorem s17 : Sp_near_next f17.m := ok_near_next
theorem s18 : Sp_means f18.m := ok_means s17
theorem s19 : Sp_doubled f19.m := ok_doubled (by rfl) s15 s18 s10 s3
theorem s20 : Sp_law_drawn f20.m := ok_law_drawn
theorem s21 : Sp_law_picture f21.m := ok_law_picture s20
theorem s22 : Sp_law_some f22.m := ok_law_some s21 s20
theorem s23 : Sp_law_way f23.m := ok_law_way s20
theorem s24 : Sp_law_flat f24.m := ok_law_flat
theorem pure : ∀ ns : List Int, ns.length ≤ 63 → f25.m [.list (ns.map PyData.int)] = .ok (.bool true) :=
  ok_law_k26 s6 s5 s11 s4 s13 s19 s16 s20 s23 s24 s7 s2 s22
end W26
theorem PySem.Challenge.cw_seamhall_k26_whole_cut_back_holds : PySem.Challenge.rw_seamhall_k26_whole_cut_back.Holds := by
  exact W26.ends W26.pure
