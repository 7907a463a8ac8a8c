import PyProof.Rows.All
import Wide.All
import OpenK.AllK
import Wide.FinOn
import HandS.ForMost
import HandS.ForExc
import HandS.IsInst
import HandS.Zip
import HandS.Lambda
import HandS.TupAny
import HandS.TupLe
import HandS.Deep
import HandS.RevRange
import HandS.Rev
import HandS.Conv
import HandS.NoneIn
import HandS.CallLocal
import HandS.WideBits
import HandS.Flow
import HandS.More
import KE.GoesNew
import KE.GoesMore
import HandS.Dict
import PyProof.NeKinds
import PyProof.EqKinds
import PyProof.EqAt
import HandS.TupMul
import HandS.SortInts
import HandS.ExcOwn
import HandS.ExcValue
import HandS.Style
import HandS.Sort
import KE.DataCmp
import HandS.ExcIs
import HandS.HotCalls
import PyProof.StrOps2
import PyProof.Rows.StrRev
import PyProof.SetRoads
import HandS.Strs
import HandS.TupSets
import KE.DataMinMax
import KE.KTupSum
import KE.SortKeyed
import KE.SortData
import HandS.SetFor
import KE.KDictPairs
import PySem.Challenge.RW_stampgaps_k75_whole_growing_faces
set_option Elab.async false
set_option linter.all false
set_option maxRecDepth 100000
set_option maxHeartbeats 4000000
/-! Data-level meaning of the programs: values by data, lists that are changed by their number in a store. -/
namespace DV
open PySem

inductive D where
  | py (d : PyData)
  | obj (n : Nat)
  /-- the thing at an address, of which nothing is told -/
  | raw (a : Nat)
inductive O where
  | lst (ds : List D)
  | gone
  /-- the law's table of code objects stands at P, each of them bears the name q (number 0 alone) -/
  | tab (P : Nat) (q : Str)
  /-- a dict with tuple keys, one with plain keys -/
  | dt (kvs : List (List (Sum Int Str) × PyData))
  | dk (kvs : List (Sum Int Str × PyData))
  /-- an instance of a class of the module; a tuple in which there are things of the store -/
  | ins (c : Str) (fs : List (Str × D))
  | tpl (ds : List D)
abbrev Sto := List O
inductive R (α : Type) where
  | ok (a : α) (S : Sto)
  | ex (c : Str) (S : Sto)
  | no
abbrev En := List (Option D)
abbrev Ex := En → Sto → R D
abbrev Tx := En → Sto → R Bool
abbrev Ax := En → Sto → R (List D)
inductive F where
  | nx (σ : En) (S : Sto)
  | rt (d : D) (S : Sto)
  | bk (σ : En) (S : Sto)
  | ct (σ : En) (S : Sto)
  | ex (c : Str) (S : Sto)
  | no
abbrev Sx := En → Sto → F
/-- a target -/
abbrev Tg := D → En → Sto → R En

def R.bind {α β : Type} (r : R α) (k : α → Sto → R β) : R β :=
  match r with
  | .ok a S => k a S
  | .ex c S => .ex c S
  | .no => .no
def R.run {α : Type} (r : R α) (k : α → Sto → F) : F :=
  match r with
  | .ok a S => k a S
  | .ex c S => .ex c S
  | .no => .no
@[simp] theorem bind_ok {α β : Type} (a : α) (S : Sto) (k : α → Sto → R β) : (R.ok a S).bind k = k a S := rfl
@[simp] theorem bind_ex {α β : Type} (c : Str) (S : Sto) (k : α → Sto → R β) : (R.ex c S : R α).bind k = .ex c S := rfl
@[simp] theorem bind_no {α β : Type} (k : α → Sto → R β) : (R.no : R α).bind k = .no := rfl
@[simp] theorem run_ok {α : Type} (a : α) (S : Sto) (k : α → Sto → F) : (R.ok a S).run k = k a S := rfl
@[simp] theorem run_ex {α : Type} (c : Str) (S : Sto) (k : α → Sto → F) : (R.ex c S : R α).run k = .ex c S := rfl
@[simp] theorem run_no {α : Type} (k : α → Sto → F) : (R.no : R α).run k = .no := rfl

/-! ### sequences -/
def pysOf : List D → Option (List PyData)
  | [] => some []
  | d :: ds => match d, pysOf ds with
    | .py p, some ps => some (p :: ps)
    | _, _ => none
def seqOf (S : Sto) : D → Option (List D)
  | .py (.list ds) => some (ds.map .py)
  | .py (.tuple ds) => some (ds.map .py)
  | .obj n => match S[n]? with
    | some (.lst ds) => some ds
    | _ => none
  | _ => none
@[simp] theorem pysOf_nil : pysOf [] = some [] := rfl
@[simp] theorem pysOf_map (ds : List PyData) : pysOf (ds.map D.py) = some ds := by
  induction ds with
  | nil => rfl
  | cons d ds ih => simp [pysOf, ih]
@[simp] theorem pysOf_cons (p : PyData) (ds : List D) : pysOf (D.py p :: ds) = (pysOf ds).map (p :: ·) := by
  cases h : pysOf ds <;> simp [pysOf, h]

/-! ### expressions -/
def varE (i : Nat) : Ex := fun σ S => match σ[i]? with
  | some (some d) => .ok d S
  | _ => .no
def cE (d : PyData) : Ex := fun _ S => .ok (.py d) S
def nilA : Ax := fun _ S => .ok [] S
def consA (e : Ex) (r : Ax) : Ax := fun σ S => (e σ S).bind fun d S1 => (r σ S1).bind fun ds S2 => .ok (d :: ds) S2
def tupE (a : Ax) : Ex := fun σ S => (a σ S).bind fun ds S1 => match pysOf ds with
  | some ps => .ok (.py (.tuple ps)) S1
  | none => .no
/-- a new list as a value that is not changed -/
def frz (r : R (List D)) : R D := r.bind fun ds S => match pysOf ds with
  | some ps => .ok (.py (.list ps)) S
  | none => .no
/-- a new list that may be changed -/
def thw (r : R (List D)) : R D := r.bind fun ds S => .ok (.obj S.length) (S ++ [.lst ds])
def frzE (a : Ax) : Ex := fun σ S => frz (a σ S)
def thwE (a : Ax) : Ex := fun σ S => thw (a σ S)
def opE (g : D → D → Sto → R D) (a b : Ex) : Ex := fun σ S => (a σ S).bind fun x S1 => (b σ S1).bind fun y S2 => g x y S2
def op1 (g : D → Sto → R D) (a : Ex) : Ex := fun σ S => (a σ S).bind fun x S1 => g x S1
/-- a call of a function upon its arguments' values -/
def callE (g : List D → Sto → R D) (a : Ax) : Ex := fun σ S => (a σ S).bind fun ds S1 => g ds S1
def lsOk (S : Sto) : D → Bool
  | .py (.list _) => true
  | .obj n => match S[n]? with
    | some (.lst _) => true
    | _ => false
  | _ => false
/-- a list's method, a text's -/
def methL (g : D → List D → Sto → R D) (o : Ex) (a : Ax) : Ex := fun σ S => (o σ S).bind fun x S1 => if lsOk S1 x = true then (a σ S1).bind fun ds S2 => g x ds S2 else .no
def methS (g : D → List D → Sto → R D) (o : Ex) (a : Ax) : Ex := fun σ S => (o σ S).bind fun x S1 => match x with
  | .py (.str _) => (a σ S1).bind fun ds S2 => g x ds S2
  | _ => .no
def ifE (c : Tx) (a b : Ex) : Ex := fun σ S => (c σ S).bind fun k S1 => if k = true then a σ S1 else b σ S1
/-- and, or, not of truths -/
def andE (a b : Ex) : Ex := fun σ S => (a σ S).bind fun x S1 => match x with
  | .py (.bool true) => b σ S1
  | .py (.bool false) => .ok (.py (.bool false)) S1
  | _ => .no
def orE (a b : Ex) : Ex := fun σ S => (a σ S).bind fun x S1 => match x with
  | .py (.bool false) => b σ S1
  | .py (.bool true) => .ok (.py (.bool true)) S1
  | _ => .no
def notE (a : Ex) : Ex := fun σ S => (a σ S).bind fun x S1 => match x with
  | .py (.bool k) => .ok (.py (.bool (!k))) S1
  | _ => .no
/-! ### tests -/
def valT (a : Ex) : Tx := fun σ S => (a σ S).bind fun x S1 => match x with
  | .py (.bool k) => .ok k S1
  | _ => .no
def andT (a b : Tx) : Tx := fun σ S => (a σ S).bind fun k S1 => if k = true then b σ S1 else .ok false S1
def orT (a b : Tx) : Tx := fun σ S => (a σ S).bind fun k S1 => if k = true then .ok true S1 else b σ S1
def notT (a : Tx) : Tx := fun σ S => (a σ S).bind fun k S1 => .ok (!k) S1
def yesT : Tx := fun _ S => .ok true S
/-- a chain a < b < c -/
def chainE (g g' : D → D → Sto → R D) (a b c : Ex) : Ex := fun σ S => (a σ S).bind fun x S1 => (b σ S1).bind fun y S2 => (g x y S2).bind fun z S3 => match z with
  | .py (.bool true) => (c σ S3).bind fun w S4 => g' y w S4
  | .py (.bool false) => .ok (.py (.bool false)) S3
  | _ => .no

/-! ### operators by values -/
def addD : D → D → Sto → R D
  | .py (.int i), .py (.int j), S => .ok (.py (.int (i + j))) S
  | .py (.str x), .py (.str y), S => if x.length + y.length ≤ sizeLine then .ok (.py (.str (x ++ y))) S else .no
  | .py (.list xs), .py (.list ys), S => if xs.length + ys.length ≤ sizeLine then .ok (.py (.list (xs ++ ys))) S else .no
  | .py (.tuple xs), .py (.tuple ys), S => if xs.length + ys.length ≤ sizeLine then .ok (.py (.tuple (xs ++ ys))) S else .no
  | _, _, _ => .no
def subD : D → D → Sto → R D
  | .py (.int i), .py (.int j), S => .ok (.py (.int (i - j))) S
  | _, _, _ => .no
def mulD : D → D → Sto → R D
  | .py (.int i), .py (.int j), S => if (-(2 ^ 64) < i ∧ i < 2 ^ 64) ∨ (-(2 ^ 64) < j ∧ j < 2 ^ 64) then .ok (.py (.int (i * j))) S else .no
  | _, _, _ => .no
def fdivD : D → D → Sto → R D
  | .py (.int i), .py (.int j), S => if 0 < j ∧ j < 1073741824 then .ok (.py (.int (i / j))) S else .no
  | _, _, _ => .no
def modD : D → D → Sto → R D
  | .py (.int i), .py (.int j), S => if 0 < j then .ok (.py (.int (i % j))) S else .no
  | _, _, _ => .no
def negD : D → Sto → R D
  | .py (.int i), S => .ok (.py (.int (-i))) S
  | _, _ => .no
/-- == of whole numbers, truths, texts and None, without any look at their texts -/
def flatD : PyData → PyData → Option Bool
  | .none, .none => some true
  | .none, .int _ => some false
  | .int _, .none => some false
  | .none, .bool _ => some false
  | .bool _, .none => some false
  | .none, .str _ => some false
  | .str _, .none => some false
  | .int i, .int j => some (decide (i = j))
  | .str x, .str y => some (decide (x = y))
  | .bool a, .bool b => some (decide (a = b))
  | .int _, .str _ => some false
  | .str _, .int _ => some false
  | .bool _, .str _ => some false
  | .str _, .bool _ => some false
  | _, _ => none
/-- a text and a dict -/
def dkTx : PyData → PyData → Bool
  | .str _, .dict _ => true
  | .dict _, .str _ => true
  | _, _ => false
/-- surely unlike, whatever stands within -/
def offB : PyData → PyData → Bool
  | .str _, .list _ => true
  | .list _, .str _ => true
  | .str _, .tuple _ => true
  | .tuple _, .str _ => true
  | .tuple ds, .tuple es => ds.isEmpty != es.isEmpty
  | .list ds, .list es => ds.length != es.length
  | d, e => dkTx d e
def eqB (d e : PyData) : Option Bool := match flatD d e with
  | some k => some k
  | none => if SeqAt.shaped d = true ∧ SeqAt.shaped e = true then some (PyData.eqv d e) else if offB d e = true then some false else none
def eqD : D → D → Sto → R D
  | .py d, .py e, S => (match eqB d e with
    | some k => .ok (.py (.bool k)) S
    | none => .no)
  | _, _, _ => .no
def neD : D → D → Sto → R D
  | .py d, .py e, S => (match eqB d e with
    | some k => .ok (.py (.bool (!k))) S
    | none => .no)
  | _, _, _ => .no
def cmpI (p : Int → Int → Bool) : D → D → Sto → R D
  | .py (.int i), .py (.int j), S => .ok (.py (.bool (p i j))) S
  | _, _, _ => .no
def isNon : PyData → Bool
  | .none => true
  | _ => false
def isND : D → D → Sto → R D
  | .py d, .py .none, S => .ok (.py (.bool (isNon d))) S
  | _, _, _ => .no
def notND : D → D → Sto → R D
  | .py d, .py .none, S => .ok (.py (.bool (!isNon d))) S
  | _, _, _ => .no
def itemD : D → D → Sto → R D
  | .py (.str x), .py (.int i), S => if x.length ≤ sizeLine then (match L2.atI x.cps.toList i with
    | some c => .ok (.py (.str ⟨#[c]⟩)) S
    | none => .no) else .no
  | x, .py (.int i), S => match seqOf S x with
    | some ds => (match L2.atI ds i with
      | some d => .ok d S
      | none => .no)
    | none => .no
  | _, _, _ => .no

/-! ### built-ins by values -/
def lenD : List D → Sto → R D
  | [.py (.str x)], S => if x.length ≤ sizeLine then .ok (.py (.int (x.length : Nat))) S else .no
  | [d], S => (match seqOf S d with
    | some ds => .ok (.py (.int (ds.length : Nat))) S
    | none => .no)
  | _, _ => .no
def max2D : List D → Sto → R D
  | [.py (.int i), .py (.int j)], S => .ok (.py (.int (if j > i then j else i))) S
  | _, _ => .no
def min2D : List D → Sto → R D
  | [.py (.int i), .py (.int j)], S => .ok (.py (.int (if j < i then j else i))) S
  | _, _ => .no
def absD : List D → Sto → R D
  | [.py (.int i)], S => .ok (.py (.int (if i < 0 then -i else i))) S
  | _, _ => .no
def divmodD : List D → Sto → R D
  | [.py (.int i), .py (.int j)], S => if 0 < j ∧ j < 1073741824 then .ok (.py (.tuple [.int (i / j), .int (i % j)])) S else .no
  | _, _ => .no
def tupleD : List D → Sto → R D
  | [d], S => (match seqOf S d with
    | some ds => (match pysOf ds with
      | some ps => .ok (.py (.tuple ps)) S
      | none => .no)
    | none => .no)
  | _, _ => .no
/-- a new list of the items -/
def listD : List D → Sto → R (List D)
  | [.py (.str x)], S => if x.length ≤ sizeLine then .ok (x.cps.toList.map fun c => D.py (.str ⟨#[c]⟩)) S else .no
  | [d], S => (match seqOf S d with
    | some ds => .ok ds S
    | none => .no)
  | _, _ => .no
/-- the data of a value, the lists of the store within it as they stand -/
def deep (S : Sto) : Nat → D → Option PyData
  | 0, _ => none
  | _ + 1, .py d => some d
  | n + 1, .obj m => match S[m]? with
    | some (.lst ds) => (ds.mapM (deep S n)).map PyData.list
    | _ => none
  | _ + 1, .raw _ => none
def reprD : List D → Sto → R D
  | [d], S => (match deep S 8 d with
    | some p => if p.showable = true ∧ p.hasDict = false ∧ p.depth ≤ 60 ∧ p.shown.length ≤ sizeLine then .ok (.py (.str p.shown)) S else .no
    | none => .no)
  | _, _ => .no
/-- a call that makes a new list -/
def callL (g : List D → Sto → R (List D)) (a : Ax) : Ax := fun σ S => (a σ S).bind fun ds S1 => g ds S1
/-! ### methods by values -/
def appendD : D → List D → Sto → R D
  | .obj n, [d], S => (match S[n]? with
    | some (.lst ds) => if ds.length < sizeLine then .ok (.py .none) (S.set n (.lst (ds ++ [d]))) else .no
    | _ => .no)
  | _, _, _ => .no
def popD : D → List D → Sto → R D
  | .obj n, [], S => (match S[n]? with
    | some (.lst ds) => (match ds[ds.length - 1]? with
      | some d => .ok d (S.set n (.lst ds.dropLast))
      | none => .no)
    | _ => .no)
  | .obj n, [.py (.int i)], S => (match S[n]? with
    | some (.lst ds) => if 0 ≤ i ∧ i < 2 ^ 62 then (match ds[i.toNat]? with
      | some d => .ok d (S.set n (.lst (ds.eraseIdx i.toNat)))
      | none => .no) else .no
    | _ => .no)
  | _, _, _ => .no
/-- xs.extend(a new list) -/
def extE (o : Ex) (a : Ax) : Ex := fun σ S => (o σ S).bind fun x S1 => match x with
  | .obj n => (match S1[n]? with
    | some (.lst _) => (a σ S1).bind fun ds S2 => (match S2[n]? with
      | some (.lst es) => if es.length + ds.length ≤ sizeLine then .ok (.py .none) (S2.set n (.lst (es ++ ds))) else .no
      | _ => .no)
    | _ => .no)
  | _ => .no

/-! ### targets -/
def nmG (i : Nat) : Tg := fun d σ S => .ok (σ.set i (some d)) S
def nilG : List D → En → Sto → R En := fun ds σ S => match ds with
  | [] => .ok σ S
  | _ => .no
def consG (g : Tg) (r : List D → En → Sto → R En) : List D → En → Sto → R En := fun ds σ S => match ds with
  | d :: ds => (g d σ S).bind fun σ1 S1 => r ds σ1 S1
  | [] => .no
/-- a tuple to several targets -/
def tupG (n : Nat) (r : List D → En → Sto → R En) : Tg := fun d σ S => match d with
  | .py (.tuple ps) => if ps.length = n then r (ps.map .py) σ S else .no
  | _ => .no
/-- o[i] = d, of a list that may be changed -/
def ixG (o i : Ex) : Tg := fun d σ S => (o σ S).bind fun x S1 => (i σ S1).bind fun k S2 => match x, k with
  | .obj n, .py (.int k) => (match S2[n]? with
    | some (.lst ds) => (match L2.ixN ds.length k with
      | some j => .ok σ (S2.set n (.lst (ds.set j d)))
      | none => .no)
    | _ => .no)
  | _, _ => .no

/-! ### what is walked -/
abbrev It := En → Sto → R (List D)
def seqI (e : Ex) : It := fun σ S => (e σ S).bind fun d S1 => match d with
  | .py (.list ds) => .ok (ds.map .py) S1
  | .py (.tuple ds) => .ok (ds.map .py) S1
  | _ => .no
def txtI (e : Ex) : It := fun σ S => (e σ S).bind fun d S1 => match d with
  | .py (.str x) => if x.length ≤ 16777216 then .ok (x.cps.toList.map fun c => D.py (.str ⟨#[c]⟩)) S1 else .no
  | _ => .no
def rngV (lo : Int) (n : Nat) : List D := (List.range n).map fun (k : Nat) => D.py (.int (lo + (k : Int)))
def rng1I (e : Ex) : It := fun σ S => (e σ S).bind fun d S1 => match d with
  | .py (.int j) => if -(2 ^ 62) ≤ j ∧ j ≤ 16777216 then .ok (rngV 0 j.toNat) S1 else .no
  | _ => .no
def pyWalk (S : Sto) : D → Option (List PyData)
  | .py (.str x) => if x.length ≤ 16777216 then some (x.cps.toList.map fun c => PyData.str ⟨#[c]⟩) else none
  | .py (.list ds) => some ds
  | .py (.tuple ds) => some ds
  | _ => none
def zipI (a b : Ex) : It := fun σ S => (a σ S).bind fun x S1 => (b σ S1).bind fun y S2 => match pyWalk S2 x, pyWalk S2 y with
  | some xs, some ys => .ok ((xs.zip ys).map fun p => D.py (.tuple [p.1, p.2])) S2
  | _, _ => .no
def zip3I (a b c : Ex) : It := fun σ S => (a σ S).bind fun x S1 => (b σ S1).bind fun y S2 => (c σ S2).bind fun z S3 => match pyWalk S3 x, pyWalk S3 y, pyWalk S3 z with
  | some xs, some ys, some zs => .ok ((xs.zip (ys.zip zs)).map fun p => D.py (.tuple [p.1, p.2.1, p.2.2])) S3
  | _, _, _ => .no
def enumI (a : Ex) : It := fun σ S => (a σ S).bind fun x S1 => match pyWalk S1 x with
  | some xs => .ok (xs.zipIdx.map fun p => D.py (.tuple [.int (p.2 : Nat), p.1])) S1
  | none => .no
def rrng1I (b : Ex) : It := fun σ S => (b σ S).bind fun y S2 => match y with
  | .py (.int j) => if -(2 ^ 62) ≤ j ∧ j ≤ 16777216 then .ok (rngV 0 j.toNat).reverse S2 else .no
  | _ => .no

/-! ### comprehensions -/
def wipeD (σ : En) : List Nat → En
  | [] => σ
  | v :: vs => (wipeD σ vs).set v none
def lcL (g : Tg) (c : Tx) (e : Ex) (σ : En) : List D → Sto → R (List D)
  | [], S => .ok [] S
  | x :: xs, S => match g x σ S with
    | .ok σ1 S1 => (match c σ1 S1 with
      | .ok k S2 => if k = true then (match e σ1 S2 with
        | .ok d S3 => (lcL g c e σ xs S3).bind fun ds S4 => .ok (d :: ds) S4
        | _ => .no) else lcL g c e σ xs S2
      | _ => .no)
    | _ => .no
def lcX (it : It) (vs : List Nat) (g : Tg) (c : Tx) (e : Ex) : Ax := fun σ S => (it σ S).bind fun xs S1 => lcL g c e (wipeD σ vs) xs S1
abbrev lcF (it : It) (vs : List Nat) (g : Tg) (c : Tx) (e : Ex) : Ex := frzE (lcX it vs g c e)
abbrev lcM (it : It) (vs : List Nat) (g : Tg) (c : Tx) (e : Ex) : Ex := thwE (lcX it vs g c e)

/-! ### statements -/
def passS : Sx := fun σ S => .nx σ S
def brkS : Sx := fun σ S => .bk σ S
def cntS : Sx := fun σ S => .ct σ S
def seqS (a b : Sx) : Sx := fun σ S => match a σ S with
  | .nx σ1 S1 => b σ1 S1
  | r => r
def asgS (e : Ex) (g : Tg) : Sx := fun σ S => (e σ S).run fun d S1 => (g d σ S1).run fun σ2 S2 => .nx σ2 S2
/-- a, b = x, y -/
def setAll : List Nat → List D → En → En
  | i :: is, d :: ds, σ => setAll is ds (σ.set i (some d))
  | _, _, σ => σ
def parS (is : List Nat) (a : Ax) : Sx := fun σ S => (a σ S).run fun ds S1 => .nx (setAll is ds σ) S1
def exprS (e : Ex) : Sx := fun σ S => (e σ S).run fun _ S1 => .nx σ S1
def retS (e : Ex) : Sx := fun σ S => (e σ S).run fun d S1 => .rt d S1
def ifS (c : Tx) (a b : Sx) : Sx := fun σ S => (c σ S).run fun k S1 => if k = true then a σ S1 else b σ S1
def raiseS (c : Str) : Sx := fun _ S => .ex c S
def forL (g : Tg) (b : Sx) : List D → En → Sto → F
  | [], σ, S => .nx σ S
  | x :: xs, σ, S => match g x σ S with
    | .ok σ1 S1 => (match b σ1 S1 with
      | .nx σ2 S2 => forL g b xs σ2 S2
      | .ct σ2 S2 => forL g b xs σ2 S2
      | .bk σ2 S2 => .nx σ2 S2
      | .rt d S2 => .rt d S2
      | .ex c S2 => .ex c S2
      | .no => .no)
    | .ex c S1 => .ex c S1
    | .no => .no
def forS (it : It) (g : Tg) (b : Sx) : Sx := fun σ S => (it σ S).run fun xs S1 => forL g b xs σ S1
/-- the list of a slot is not changed from here on -/
def fixS (i : Nat) : Sx := fun σ S => match σ[i]? with
  | some (some (.obj n)) => (match S[n]? with
    | some (.lst ds) => (match pysOf ds with
      | some ps => .nx (σ.set i (some (.py (.list ps)))) (S.set n .gone)
      | none => .no)
    | _ => .no)
  | _ => .no

/-- .. and its items, which are lists of the store -/
def fixL (S : Sto) : List D → Option (List PyData × Sto)
  | [] => some ([], S)
  | .py p :: ds => (fixL S ds).map fun r => (p :: r.1, r.2)
  | .obj n :: ds => match S[n]? with
    | some (.lst es) => (match pysOf es with
      | some ps => (fixL (S.set n .gone) ds).map fun r => (.list ps :: r.1, r.2)
      | none => none)
    | _ => none
  | .raw _ :: _ => none
def fix2S (i : Nat) : Sx := fun σ S => match σ[i]? with
  | some (some (.obj n)) => (match S[n]? with
    | some (.lst ds) => (match fixL (S.set n .gone) ds with
      | some (ps, S1) => .nx (σ.set i (some (.py (.list ps)))) S1
      | none => .no)
    | _ => .no)
  | _ => .no

/-! ### defs -/
def D.pure : D → Bool
  | .py _ => true
  | _ => false
def O.pure : O → Bool
  | .lst ds => ds.all D.pure
  | .gone => true
  | .tab _ _ => true
  | .dt _ => true
  | .dk _ => true
  | .ins _ fs => fs.all fun p => p.2.pure
  | .tpl ds => ds.all D.pure
open Classical in
/-- what a def has made for itself is forgotten where nothing leads to it -/
noncomputable def gc {α : Type} (p : Prop) (S S' : Sto) (k : Sto → α) : α :=
  if p ∧ S.length ≤ S'.length ∧ ∀ (i : Nat) (o : O), i < S.length → S'[i]? = some o → S[i]? = some o ∨ o.pure = true then k (S'.take S.length) else k S'
def init (n : Nat) (ds : List D) : En := ds.map some ++ List.replicate (n - ds.length) none
noncomputable def fnR (S : Sto) : F → R D
  | .nx _ S' => gc True S S' fun T => .ok (.py .none) T
  | .rt d S' => gc (d.pure = true) S S' fun T => .ok d T
  | .ex c S' => gc True S S' fun T => .ex c T
  | _ => .no
noncomputable def fnF (n : Nat) (b : Sx) : List D → Sto → R D := fun ds S => fnR S (b (init n ds) S)
end DV

set_option maxHeartbeats 4000000
/-! The data-level meaning holds of the model: relations. -/
namespace DV
open PySem PySem.Spec PyProof.Rows L2

/-! ### what is the same in a later heap -/
structure Keep (H H' : Hp) : Prop where
  tups : ∀ b xs, H b = some (.tup xs) → H' b = some (.tup xs)
  frzs : ∀ b o u, H b = some (.frz o u) → H' b = some (.frz o u)
theorem Keep.refl (H : Hp) : Keep H H := ⟨fun _ _ h => h, fun _ _ _ h => h⟩
theorem Keep.trans {H H1 H2 : Hp} (a : Keep H H1) (b : Keep H1 H2) : Keep H H2 :=
  ⟨fun c xs h => b.tups c xs (a.tups c xs h), fun c o u h => b.frzs c o u (a.frzs c o u h)⟩
/-- all but lists stays -/
theorem Keep.of {H H' : Hp} (h : ∀ b o, H b = some o → (∀ xs, o ≠ .lst xs) → H' b = some o) : Keep H H' where
  tups := fun b xs e => h b _ e (fun _ z => by cases z)
  frzs := fun b o u e => h b _ e (fun _ z => by cases z)
theorem Keep.new {H : Hp} {p : Addr} {o : HO} (h : H p = none) : Keep H (upd H p o) := .of fun b u e _ => by rw [upd_ne (ne_of_none e h)]; exact e
theorem Keep.list {H : Hp} {p : Addr} {xs : List V} {o : HO} (h : H p = some (.lst xs)) : Keep H (upd H p o) := .of fun b u e n => by
  rw [upd_ne (fun z => by subst z; rw [h] at e; cases e; exact n xs rfl)]
  exact e
/-- .. and the tables of code objects, too -/
structure KeepA (H H' : Hp) : Prop extends Keep H H' where
  tabs : ∀ P q, LamX.TabS H P q → LamX.TabS H' P q
instance {H H' : Hp} : Coe (KeepA H H') (Keep H H') := ⟨KeepA.toKeep⟩
theorem KeepA.refl (H : Hp) : KeepA H H := ⟨.refl H, fun _ _ h => h⟩
theorem KeepA.of {H H' : Hp} (h : ∀ b o, H b = some o → (∀ xs, o ≠ .lst xs) → H' b = some o) : KeepA H H' := ⟨.of h, fun P q ⟨ps, h1, h2, h3⟩ => ⟨ps, h _ _ h1 (fun _ z => by cases z), h2, fun pos cv hc => by
    obtain ⟨c, e1, e2⟩ := h3 pos cv hc
    exact ⟨c, e1, h _ _ e2 (fun _ z => by unfold LamX.CodeO at z; cases z)⟩⟩⟩
theorem KeepA.new {H : Hp} {p : Addr} {o : HO} (h : H p = none) : KeepA H (upd H p o) := .of fun b u e _ => by rw [upd_ne (ne_of_none e h)]; exact e
theorem KeepA.list {H : Hp} {p : Addr} {xs : List V} {o : HO} (h : H p = some (.lst xs)) : KeepA H (upd H p o) := .of fun b u e n => by
  rw [upd_ne (fun z => by subst z; rw [h] at e; cases e; exact n xs rfl)]
  exact e

/-- what may be changed in the heap: lists, dicts -/
inductive MO where
  | lst (vs : List V)
  | dt (kvs : List (List Key × V))
  | dk (kvs : List (Key × V))
  | ins (C dx : Addr) (fs : List (Str × V))
def MO.ho : MO → HO
  | .lst vs => .lst vs
  | .dt kvs => .dT kvs
  | .dk kvs => .dK kvs
  | .ins C dx fs => .ins C dx fs

/-! ### values -/
section
variable (K : PySem.W.Frag)
/-- a list that is never changed -/
def FL (H : Hp) (a : Addr) (xs : List V) : Prop := (∃ o, H a = some (.frz o (.lst xs))) ∨
  ∃ (o : Obj) (its : Array Value) (n : Nat), K.lookup a = some o ∧ o.cls = .type "list" ∧ o.dict = none ∧ o.data = .seq its n ∧ its.size ≤ sizeLine ∧ Vals xs its.toList
/-- a tuple whose object is known to have no dict -/
def FT (H : Hp) (a : Addr) (xs : List V) : Prop := (∃ o, H a = some (.frz o (.tup xs)) ∧ o.dict = none) ∨
  ∃ (o : Obj) (its : Array Value) (n : Nat), K.lookup a = some o ∧ o.cls = .type "tuple" ∧ o.dict = none ∧ o.data = .seq its n ∧ its.size ≤ sizeLine ∧ Vals xs its.toList
/-- a key as a datum -/
def keyP : Key → PyData
  | .inl i => .int i
  | .inr x => .str x
mutual
inductive Pp (H : Hp) : V → PyData → Prop
  | non : Pp H .non .none
  | bl (b : Bool) : Pp H (.bl b) (.bool b)
  | int (i : Int) : Pp H (.int i) (.int i)
  | str (x : Str) : Pp H (.str x) (.str x)
  | lst {a : Addr} {xs : List V} {ds : List PyData} : FL K H a xs → ds.length ≤ sizeLine → PpAll H xs ds → Pp H (.ref a) (.list ds)
  | tup {a : Addr} {xs : List V} {ds : List PyData} : FT K H a xs → ds.length ≤ sizeLine → PpAll H xs ds → Pp H (.ref a) (.tuple ds)
  | dic {a : Addr} {o : Obj} {kvs : List (Key × V)} {ds : List PyData} : H a = some (.frz o (.dK kvs)) → kvs.length ≤ sizeLine → PpAll H (kvs.map Prod.snd) ds → Pp H (.ref a) (.dict ((kvs.map fun kv => keyP kv.1).zip ds))
inductive PpAll (H : Hp) : List V → List PyData → Prop
  | nil : PpAll H [] []
  | cons {v : V} {vs : List V} {d : PyData} {ds : List PyData} : Pp H v d → PpAll H vs ds → PpAll H (v :: vs) (d :: ds)
end
end
section
variable {K : PySem.W.Frag} {H H' : Hp}
theorem FL.keep {a : Addr} {xs : List V} (k : Keep H H') (h : FL K H a xs) : FL K H' a xs := by
  rcases h with ⟨o, h⟩ | h
  · exact .inl ⟨o, k.frzs _ _ _ h⟩
  · exact .inr h
theorem FL.sq {a : Addr} {xs : List V} (h : FL K H a xs) : SqL K H a xs := by
  rcases h with ⟨o, h⟩ | h
  · exact .inl (.inr ⟨o, h⟩)
  · exact .inr h
theorem FT.keep {a : Addr} {xs : List V} (k : Keep H H') (h : FT K H a xs) : FT K H' a xs := by
  rcases h with ⟨o, h, d⟩ | h
  · exact .inl ⟨o, k.frzs _ _ _ h, d⟩
  · exact .inr h
theorem FT.sq {a : Addr} {xs : List V} (h : FT K H a xs) : SqT K H a xs := by
  rcases h with ⟨o, h, _⟩ | ⟨o, its, n, h1, h2, _, h3⟩
  · exact .inl (.inr ⟨o, h⟩)
  · exact .inr ⟨o, its, n, h1, h2, h3⟩
theorem FT.new {p : Addr} {xs : List V} {o : Obj} (d : o.dict = none) : FT K (upd H p (.frz o (.tup xs))) p xs := .inl ⟨o, upd_same, d⟩
theorem sqT_keep {a : Addr} {xs : List V} (k : Keep H H') (h : SqT K H a xs) : SqT K H' a xs := by
  rcases h with (h | ⟨o, h⟩) | h
  · exact .inl (.inl (k.tups _ _ h))
  · exact .inl (.inr ⟨o, k.frzs _ _ _ h⟩)
  · exact .inr h
mutual
theorem Pp.keep (k : Keep H H') : ∀ {v : V} {d : PyData}, Pp K H v d → Pp K H' v d
  | _, _, .non => .non
  | _, _, .bl b => .bl b
  | _, _, .int i => .int i
  | _, _, .str x => .str x
  | _, _, .lst h z hs => .lst (h.keep k) z (PpAll.keep k hs)
  | _, _, .tup h z hs => .tup (h.keep k) z (PpAll.keep k hs)
  | _, _, .dic h z hs => .dic (k.frzs _ _ _ h) z (PpAll.keep k hs)
theorem PpAll.keep (k : Keep H H') : ∀ {vs : List V} {ds : List PyData}, PpAll K H vs ds → PpAll K H' vs ds
  | _, _, .nil => .nil
  | _, _, .cons h hs => .cons (h.keep k) (hs.keep k)
end
mutual
theorem Pp.dp : ∀ {v : V} {d : PyData}, Pp K H v d → d.hasDict = false → Dp K H v d
  | _, _, .non, _ => .non
  | _, _, .bl b, _ => .bl b
  | _, _, .int i, _ => .int i
  | _, _, .str x, _ => .str x
  | _, _, .lst h _ hs, q => .lst h.sq (PpAll.dp hs (by rw [PyData.hasDict.eq_5] at q; exact q))
  | _, _, .tup h _ hs, q => .tup h.sq (PpAll.dp hs (by rw [PyData.hasDict.eq_6] at q; exact q))
  | _, _, .dic _ _ _, q => by rw [PyData.hasDict.eq_7] at q; cases q
theorem PpAll.dp : ∀ {vs : List V} {ds : List PyData}, PpAll K H vs ds → PyData.hasDictAll ds = false → DpAll K H vs ds
  | _, _, .nil, _ => .nil
  | _, _, .cons h hs, q => by
    rw [PyData.hasDictAll.eq_2, Bool.or_eq_false_iff] at q
    exact .cons (h.dp q.1) (hs.dp q.2)
end
theorem noDict_of {d : PyData} (h : SeqAt.shaped d = true) : d.hasDict = false := PyData.hasDict_of_canLay d (SeqAt.canLay_of_shaped h)
theorem PpAll.length : ∀ {vs : List V} {ds : List PyData}, PpAll K H vs ds → vs.length = ds.length
  | _, _, .nil => rfl
  | _, _, .cons _ hs => by rw [List.length_cons, List.length_cons, hs.length]
theorem PpAll.append : ∀ {vs ws : List V} {ds es : List PyData}, PpAll K H vs ds → PpAll K H ws es → PpAll K H (vs ++ ws) (ds ++ es)
  | _, _, _, _, .nil, q => q
  | _, _, _, _, .cons h hs, q => .cons h (hs.append q)
end

/-- a datum under the numbers of the store -/
inductive Rd (K : PySem.W.Frag) (ι : List Addr) (H : Hp) : V → D → Prop
  | py {v : V} {d : PyData} : Pp K H v d → Rd K ι H v (.py d)
  | obj {n : Nat} {a : Addr} : ι[n]? = some a → Rd K ι H (.ref a) (.obj n)
  | raw (a : Addr) : Rd K ι H (.ref a) (.raw a)
abbrev RdAll (K : PySem.W.Frag) (ι : List Addr) (H : Hp) : List V → List D → Prop := Paired (Rd K ι H)
inductive ObR (K : PySem.W.Frag) (ι : List Addr) (H : Hp) (a : Addr) : O → Prop
  | lst {vs : List V} {ds : List D} : H a = some (.lst vs) → RdAll K ι H vs ds → ObR K ι H a (.lst ds)
  | gone : ObR K ι H a .gone
  | tab {q : Str} : ObR K ι H a (.tab a q)
  | dt {kvs : List (List Key × V)} {es : List (List Key × PyData)} : H a = some (.dT kvs) → kvs.map Prod.fst = es.map Prod.fst → PpAll K H (kvs.map Prod.snd) (es.map Prod.snd) → ObR K ι H a (.dt es)
  | dk {kvs : List (Key × V)} {es : List (Key × PyData)} : H a = some (.dK kvs) → kvs.map Prod.fst = es.map Prod.fst → PpAll K H (kvs.map Prod.snd) (es.map Prod.snd) → ObR K ι H a (.dk es)
  | ins {c : Str} {C dx : Addr} {vs : List (Str × V)} {fs : List (Str × D)} : PySem.W.nsIn K mainGlobals c = some (some (.ref C)) → H a = some (.ins C dx vs) → vs.map Prod.fst = fs.map Prod.fst → RdAll K ι H (vs.map Prod.snd) (fs.map Prod.snd) → ObR K ι H a (.ins c fs)
  | tpl {o : Obj} {vs : List V} {ds : List D} : H a = some (.frz o (.tup vs)) → RdAll K ι H vs ds → ObR K ι H a (.tpl ds)
structure StR (K : PySem.W.Frag) (ι : List Addr) (H : Hp) (S : Sto) : Prop where
  len : ι.length = S.length
  nd : ι.Nodup
  there : ∀ (n : Nat) (a : Addr), ι[n]? = some a → H a ≠ none
  at_ : ∀ (n : Nat) (o : O) (a : Addr), S[n]? = some o → ι[n]? = some a → ObR K ι H a o
  tb : ∀ (n P : Nat) (q : Str), S[n]? = some (.tab P q) → LamX.TabS H P q
structure EnR (K : PySem.W.Frag) (ι : List Addr) (H : Hp) (σ : L2.St) (σd : En) : Prop where
  len : σ.length = σd.length
  at_ : ∀ (i : Nat) (d : D), σd[i]? = some (some d) → ∃ v, σ[i]? = some (some v) ∧ Rd K ι H v d
section
variable {K : PySem.W.Frag} {H H' H1 H2 : Hp} {ι ι' ι1 ι2 : List Addr} {v : V} {d : D} {S S' : Sto} {σ : L2.St} {σd : En}
theorem pre_get {α : Type} {l l' : List α} {n : Nat} {a : α} (p : l <+: l') (h : l[n]? = some a) : l'[n]? = some a := by
  obtain ⟨t, rfl⟩ := p
  obtain ⟨hn, e⟩ := List.getElem?_eq_some_iff.mp h
  rw [List.getElem?_append_left hn]
  exact h
theorem Rd.mono (p : ι <+: ι') (k : Keep H H') (h : Rd K ι H v d) : Rd K ι' H' v d := by
  cases h with
  | py h => exact .py (h.keep k)
  | obj h => exact .obj (pre_get p h)
  | raw a => exact .raw a
theorem RdAll.mono (p : ι <+: ι') (k : Keep H H') : ∀ {vs : List V} {ds : List D}, RdAll K ι H vs ds → RdAll K ι' H' vs ds
  | _, _, .nil => .nil
  | _, _, .cons h hs => .cons (h.mono p k) (RdAll.mono p k hs)
theorem EnR.mono (p : ι <+: ι') (k : Keep H H') (h : EnR K ι H σ σd) : EnR K ι' H' σ σd :=
  ⟨h.len, fun i d e => let ⟨v, e1, r⟩ := h.at_ i d e; ⟨v, e1, r.mono p k⟩⟩
theorem RdAll.pys : ∀ {vs : List V} {ds : List D} {ps : List PyData}, RdAll K ι H vs ds → pysOf ds = some ps → PpAll K H vs ps
  | _, _, _, .nil, e => by cases e; exact .nil
  | _, _, _, .cons (b := d) h hs, e => by
    cases h with
    | py h =>
      rw [pysOf_cons] at e
      rw [Option.map_eq_some_iff] at e
      obtain ⟨ps, e1, e2⟩ := e
      subst e2
      exact .cons h (RdAll.pys hs e1)
    | obj h => simp [pysOf] at e
    | raw a => simp [pysOf] at e
theorem RdAll.of_pys : ∀ {vs : List V} {ps : List PyData}, PpAll K H vs ps → RdAll K ι H vs (ps.map D.py)
  | _, _, .nil => .nil
  | _, _, .cons h hs => .cons (.py h) (RdAll.of_pys hs)
theorem RdAll.length : ∀ {vs : List V} {ds : List D}, RdAll K ι H vs ds → vs.length = ds.length := fun h => Paired.length h
theorem pysOf_length : ∀ {ds : List D} {ps : List PyData}, pysOf ds = some ps → ps.length = ds.length
  | [], _, e => by cases e; rfl
  | .py d :: ds, _, e => by
    rw [pysOf_cons, Option.map_eq_some_iff] at e
    obtain ⟨ps, e1, e2⟩ := e
    subst e2
    rw [List.length_cons, List.length_cons, pysOf_length e1]
  | .obj n :: ds, _, e => by simp [pysOf] at e
  | .raw n :: ds, _, e => by simp [pysOf] at e
theorem Paired.getR {α β : Type} {G : α → β → Prop} : ∀ {l₁ : List α} {l₂ : List β} {i : Nat} {y : β}, Paired G l₁ l₂ → l₂[i]? = some y → ∃ x, l₁[i]? = some x ∧ G x y
  | _, _, _, _, .nil, e => by simp at e
  | _, _, 0, _, .cons r _, e => by simp at e; subst e; exact ⟨_, rfl, r⟩
  | _, _, i + 1, y, .cons r t, e => by
    obtain ⟨x, h1, h2⟩ := Paired.getR (i := i) t (by simpa using e)
    exact ⟨x, by simpa using h1, h2⟩
theorem Paired.setB {α β : Type} {G : α → β → Prop} {x : α} {y : β} (r : G x y) : ∀ {l₁ : List α} {l₂ : List β} (i : Nat), Paired G l₁ l₂ → Paired G (l₁.set i x) (l₂.set i y)
  | _, _, _, .nil => .nil
  | _, _, 0, .cons _ t => .cons r t
  | _, _, i + 1, .cons q t => .cons q (Paired.setB r i t)
theorem Paired.app {α β : Type} {G : α → β → Prop} : ∀ {l₁ m₁ : List α} {l₂ m₂ : List β}, Paired G l₁ l₂ → Paired G m₁ m₂ → Paired G (l₁ ++ m₁) (l₂ ++ m₂)
  | _, _, _, _, .nil, q => q
  | _, _, _, _, .cons h hs, q => .cons h (Paired.app hs q)

theorem tab_set {S : Sto} {n m : Nat} {o : O} {P : Nat} {q : Str} (e : (S.set n o)[m]? = some (.tab P q)) (h : o ≠ .tab P q) : S[m]? = some (.tab P q) := by
  by_cases z : n = m
  · subst z
    have hl : n < S.length := by simpa using (List.getElem?_eq_some_iff.mp e).1
    rw [List.getElem?_set_self hl] at e
    exact absurd (Option.some.inj e) h
  · rwa [List.getElem?_set_ne z] at e
theorem tab_app {S : Sto} {m : Nat} {o : O} {P : Nat} {q : Str} (e : (S ++ [o])[m]? = some (.tab P q)) (h : o ≠ .tab P q) : S[m]? = some (.tab P q) := by
  by_cases z : m < S.length
  · rwa [List.getElem?_append_left z] at e
  · rw [List.getElem?_append_right (by omega)] at e
    have hz : m - S.length = 0 := by
      have := (List.getElem?_eq_some_iff.mp e).1
      simp at this
      omega
    rw [hz] at e
    exact absurd (Option.some.inj e) h
theorem ObR.mono {a : Addr} {o : O} (p : ι <+: ι') (k : Keep H H') (hl : ∀ vs : MO, H a = some vs.ho → H' a = some vs.ho) (h : ObR K ι H a o) : ObR K ι' H' a o := by
  cases h with
  | lst e r => exact .lst (hl (.lst _) e) (r.mono p k)
  | gone => exact .gone
  | tab => exact .tab
  | dt e f r => exact .dt (hl (.dt _) e) f (r.keep k)
  | dk e f r => exact .dk (hl (.dk _) e) f (r.keep k)
  | ins hc e f r => exact .ins hc (hl (.ins _ _ _) e) f (r.mono p k)
  | tpl e r => exact .tpl (k.frzs _ _ _ e) (r.mono p k)
/-- a heap in which the lists are as they were -/
theorem StR.keep (h : StR K ι H S) (k : KeepA H H') (hl : ∀ (b : Addr) (vs : MO), H b = some vs.ho → H' b = some vs.ho) (hn : ∀ b, H b ≠ none → H' b ≠ none) : StR K ι H' S :=
  ⟨h.len, h.nd, fun n a e => hn a (h.there n a e), fun n o a e1 e2 => (h.at_ n o a e1 e2).mono (List.prefix_refl _) k (hl a), fun n P q e => k.tabs P q (h.tb n P q e)⟩
theorem StR.new (h : StR K ι H S) {p : Addr} {o : HO} (hp : H p = none) : StR K ι (upd H p o) S :=
  h.keep (.new hp) (fun b vs e => by rw [upd_ne (ne_of_none e hp)]; exact e) fun b e => by
    unfold upd
    split
    · simp
    · exact e
/-- a list that is at no number is written -/
theorem StR.other (h : StR K ι H S) {p : Addr} {xs : List V} {o : HO} (hp : H p = some (.lst xs)) (hn : p ∉ ι) : StR K ι (upd H p o) S := by
  have ne : ∀ (n : Nat) (a : Addr), ι[n]? = some a → a ≠ p := fun n a e z => by
    subst z
    exact hn (List.mem_of_getElem? e)
  refine ⟨h.len, h.nd, fun n a e => ?_, fun n u a e1 e2 => ?_, fun n P q e => (KeepA.list hp).tabs P q (h.tb n P q e)⟩
  · rw [upd_ne (ne n a e)]
    exact h.there n a e
  · refine (h.at_ n u a e1 e2).mono (List.prefix_refl _) (.list hp) fun vs e => ?_
    rw [upd_ne (ne n a e2)]
    exact e
theorem StR.notin (h : StR K ι H S) {p : Addr} (hp : H p = none) : p ∉ ι := fun hm => by
  obtain ⟨n, e⟩ := List.mem_iff_getElem?.mp hm
  exact h.there n p e hp
/-- a list that stands at no number gets one -/
theorem StR.push (h : StR K ι H S) {p : Addr} {vs : List V} {ds : List D} (hp : H p = some (.lst vs)) (hn : p ∉ ι) (r : RdAll K ι H vs ds) : StR K (ι ++ [p]) H (S ++ [.lst ds]) := by
  refine ⟨by rw [List.length_append, List.length_append, h.len]; rfl, ?_, fun n a e => ?_, fun n o a e1 e2 => ?_, fun n P q e => ?_⟩
  · rw [List.nodup_append]
    exact ⟨h.nd, by simp, fun a ha b hb z => by
      rw [List.mem_singleton] at hb
      exact hn (hb ▸ z ▸ ha)⟩
  · by_cases hlt : n < ι.length
    · rw [List.getElem?_append_left hlt] at e
      exact h.there n a e
    · rw [List.getElem?_append_right (by omega)] at e
      have hz : n - ι.length = 0 := by
        have := (List.getElem?_eq_some_iff.mp e).1
        simp at this
        omega
      rw [hz] at e
      simp at e
      subst e
      rw [hp]
      simp
  · by_cases hlt : n < S.length
    · rw [List.getElem?_append_left hlt] at e1
      rw [List.getElem?_append_left (by rw [h.len]; exact hlt)] at e2
      exact (h.at_ n o a e1 e2).mono (List.prefix_append _ _) (.refl _) fun _ e => e
    · rw [List.getElem?_append_right (by omega)] at e1
      rw [List.getElem?_append_right (by rw [h.len]; omega), h.len] at e2
      have hz : n - S.length = 0 := by
        have := (List.getElem?_eq_some_iff.mp e1).1
        simp at this
        omega
      rw [hz] at e1 e2
      simp at e1 e2
      subst e1 e2
      exact .lst hp (r.mono (List.prefix_append _ _) (.refl _))
  · exact h.tb n P q (tab_app e fun z => by cases z)
theorem nodup_at {l : List Addr} {i j : Nat} {a : Addr} (nd : l.Nodup) (a1 : l[i]? = some a) (a2 : l[j]? = some a) : i = j := by
  obtain ⟨h1, e1⟩ := List.getElem?_eq_some_iff.mp a1
  obtain ⟨h2, e2⟩ := List.getElem?_eq_some_iff.mp a2
  exact (List.getElem_inj nd).mp (e1.trans e2.symm)
/-- a list of the store is written -/
theorem StR.set (h : StR K ι H S) {n : Nat} {p : Addr} {vs ws : List V} {ds : List D} (e : ι[n]? = some p) (hp : H p = some (.lst vs)) (r : RdAll K ι H ws ds) : StR K ι (upd H p (.lst ws)) (S.set n (.lst ds)) := by
  refine ⟨by rw [List.length_set, h.len], h.nd, fun m a e1 => ?_, fun m o a e1 e2 => ?_, fun n P q e1 => (KeepA.list hp).tabs P q (h.tb n P q (tab_set e1 fun z => by cases z))⟩
  · unfold upd
    split
    · simp
    · exact h.there m a e1
  · by_cases hm : m = n
    · subst hm
      rw [e] at e2
      cases e2
      have hlt : m < S.length := by
        have := (List.getElem?_eq_some_iff.mp e1).1
        simpa using this
      rw [List.getElem?_set_self hlt] at e1
      cases e1
      exact .lst upd_same (r.mono (List.prefix_refl _) (.list hp))
    · rw [List.getElem?_set_ne (Ne.symm hm)] at e1
      refine (h.at_ m o a e1 e2).mono (List.prefix_refl _) (.list hp) fun vs' e3 => ?_
      rw [upd_ne (fun z => hm (by subst z; exact nodup_at h.nd e2 e))]
      exact e3
/-- a list of the store is not changed from here on -/
theorem StR.fix (h : StR K ι H S) {n : Nat} {p : Addr} {vs : List V} {o : HO} (e : ι[n]? = some p) (hp : H p = some (.lst vs)) : StR K ι (upd H p o) (S.set n .gone) := by
  refine ⟨by rw [List.length_set, h.len], h.nd, fun m a e1 => ?_, fun m u a e1 e2 => ?_, fun n P q e1 => (KeepA.list hp).tabs P q (h.tb n P q (tab_set e1 fun z => by cases z))⟩
  · unfold upd
    split
    · simp
    · exact h.there m a e1
  · by_cases hm : m = n
    · subst hm
      have hlt : m < S.length := by
        have := (List.getElem?_eq_some_iff.mp e1).1
        simpa using this
      rw [List.getElem?_set_self hlt] at e1
      cases e1
      exact .gone
    · rw [List.getElem?_set_ne (Ne.symm hm)] at e1
      refine (h.at_ m u a e1 e2).mono (List.prefix_refl _) (.list hp) fun vs' e3 => ?_
      rw [upd_ne (fun z => hm (by subst z; exact nodup_at h.nd e2 e))]
      exact e3
end

/-! ### what is wanted behind a part -/
structure Post (K : PySem.W.Frag) (ι : List Addr) (H : Hp) (ι' : List Addr) (H' : Hp) (S' : Sto) : Prop where
  pre : ι <+: ι'
  keep : Keep H H'
  sto : StR K ι' H' S'
  frame : ∀ b vs, b ∉ ι → H b = some (.lst vs) → H' b = some (.lst vs) ∧ b ∉ ι'
  dom : ∀ b, H b ≠ none → H' b ≠ none
section
variable {K : PySem.W.Frag} {ι ι1 ι2 : List Addr} {H H1 H2 : Hp} {S S1 S2 : Sto}
theorem Post.refl (h : StR K ι H S) : Post K ι H ι H S := ⟨List.prefix_refl _, .refl _, h, fun _ _ n e => ⟨e, n⟩, fun _ e => e⟩
theorem Post.trans (a : Post K ι H ι1 H1 S1) (b : Post K ι1 H1 ι2 H2 S2) : Post K ι H ι2 H2 S2 :=
  ⟨a.pre.trans b.pre, a.keep.trans b.keep, b.sto, fun c vs n e => let ⟨e1, n1⟩ := a.frame c vs n e; b.frame c vs n1 e1, fun c e => b.dom c (a.dom c e)⟩
theorem upd_dom {H : Hp} {p : Addr} {o : HO} : ∀ b, H b ≠ none → upd H p o b ≠ none := fun b e => by
  unfold upd
  split
  · simp
  · exact e
theorem Post.new (h : StR K ι H S) {p : Addr} {o : HO} (hp : H p = none) : Post K ι H ι (upd H p o) S :=
  ⟨List.prefix_refl _, .new hp, h.new hp, fun b vs n e => ⟨by rw [upd_ne (ne_of_none e hp)]; exact e, n⟩, upd_dom⟩
/-- a list of the store is written -/
theorem Post.wr {n : Nat} {p : Addr} {vs : List V} {o : HO} (e : ι[n]? = some p) (hp : H p = some (.lst vs)) (h : StR K ι (upd H p o) S) : Post K ι H ι (upd H p o) S :=
  ⟨List.prefix_refl _, .list hp, h, fun b ws m q => ⟨by rw [upd_ne (fun z => m (by subst z; exact List.mem_of_getElem? e))]; exact q, m⟩, upd_dom⟩
/-- a list that is new since H is written, fixed -/
theorem Post.fixNew (a : Post K ι H ι1 H1 S1) {p : Addr} {vs : List V} {o : HO} (hp : H1 p = some (.lst vs)) (hn : p ∉ ι1) (h0 : H p = none) : Post K ι H ι1 (upd H1 p o) S1 :=
  ⟨a.pre, a.keep.trans (.list hp), a.sto.other hp hn, fun b ws m q => let ⟨e1, n1⟩ := a.frame b ws m q; ⟨by rw [upd_ne (ne_of_none q h0)]; exact e1, n1⟩, fun b e => upd_dom b (a.dom b e)⟩
end

/-- the class of an error by its name -/
def clsV (mg : Str → Option Value) (c : Str) : Value := (mg c).getD .none
section
variable (K : PySem.W.Frag) (mg : Str → Option Value) (E : XK) (ι : List Addr) (H : Hp)
def Wp {α β : Type} (rel : List Addr → Hp → α → β → Prop) (r : R β) (Q : α → Hp → Prop) : Prop := match r with
  | .ok d S' => ∀ v H' ι', Post K ι H ι' H' S' → rel ι' H' v d → Q v H'
  | .ex c S' => ∀ H' ι', Post K ι H ι' H' S' → E (clsV mg c) none H'
  | .no => False
def WpF (r : F) (N : Ends) : Prop := match r with
  | .nx σd S' => ∀ σ' H' ι', Post K ι H ι' H' S' → EnR K ι' H' σ' σd → N.nx σ' H'
  | .bk σd S' => ∀ σ' H' ι', Post K ι H ι' H' S' → EnR K ι' H' σ' σd → N.bk σ' H'
  | .ct σd S' => ∀ σ' H' ι', Post K ι H ι' H' S' → EnR K ι' H' σ' σd → N.ct σ' H'
  | .rt d S' => ∀ v H' ι', Post K ι H ι' H' S' → Rd K ι' H' v d → N.rt v H'
  | .ex c S' => ∀ H' ι', Post K ι H ι' H' S' → E (clsV mg c) none H'
  | .no => False
end
abbrev relD (K : PySem.W.Frag) : List Addr → Hp → V → D → Prop := fun ι H v d => Rd K ι H v d
abbrev relB : List Addr → Hp → Bool → Bool → Prop := fun _ _ b k => b = k
abbrev relA (K : PySem.W.Frag) : List Addr → Hp → List V → List D → Prop := fun ι H vs ds => RdAll K ι H vs ds
/-- a new list (since H0) that has no number yet -/
abbrev relL (K : PySem.W.Frag) (H0 : Hp) : List Addr → Hp → V → List D → Prop := fun ι H v ds => ∃ p vs, H0 p = none ∧ v = .ref p ∧ H p = some (.lst vs) ∧ p ∉ ι ∧ vs.length ≤ sizeLine ∧ RdAll K ι H vs ds
section
variable {K : PySem.W.Frag} {mg : Str → Option Value} {E : XK} {ι ι' : List Addr} {H H' : Hp} {S S' : Sto} {α β γ δ : Type} {rel : List Addr → Hp → α → β → Prop} {rel' : List Addr → Hp → γ → δ → Prop} {r : R β} {Q Q' : α → Hp → Prop}
theorem Wp.re (p : Post K ι H ι' H' S') (h : Wp K mg E ι H rel r Q) : Wp K mg E ι' H' rel r Q := by
  cases r with
  | ok d S1 => exact fun v H1 ι1 q => h v H1 ι1 (p.trans q)
  | ex c S1 => exact fun H1 ι1 q => h H1 ι1 (p.trans q)
  | no => exact h
theorem WpF.re {r : F} {N : Ends} (p : Post K ι H ι' H' S') (h : WpF K mg E ι H r N) : WpF K mg E ι' H' r N := by
  cases r with
  | nx d S1 => exact fun v H1 ι1 q => h v H1 ι1 (p.trans q)
  | bk d S1 => exact fun v H1 ι1 q => h v H1 ι1 (p.trans q)
  | ct d S1 => exact fun v H1 ι1 q => h v H1 ι1 (p.trans q)
  | rt d S1 => exact fun v H1 ι1 q => h v H1 ι1 (p.trans q)
  | ex c S1 => exact fun H1 ι1 q => h H1 ι1 (p.trans q)
  | no => exact h
theorem Wp.mono (h : Wp K mg E ι H rel r Q) (q : ∀ v H', Q v H' → Q' v H') : Wp K mg E ι H rel r Q' := by
  cases r with
  | ok d S1 => exact fun v H1 ι1 p x => q _ _ (h v H1 ι1 p x)
  | ex c S1 => exact h
  | no => exact h
theorem Wp.sub {rel2 : List Addr → Hp → α → β → Prop} (h : Wp K mg E ι H rel r Q) (s : ∀ ι H v d, rel2 ι H v d → rel ι H v d) : Wp K mg E ι H rel2 r Q := by
  cases r with
  | ok d S1 => exact fun v H1 ι1 p x => h v H1 ι1 p (s _ _ _ _ x)
  | ex c S1 => exact h
  | no => exact h
/-- a part, then the rest -/
theorem Wp.bind {k : β → Sto → R δ} {P : γ → Hp → Prop} (h : Wp K mg E ι H rel' (r.bind k) P) (q : ∀ d S', r = .ok d S' → ∀ v H' ι', Post K ι H ι' H' S' → rel ι' H' v d → Wp K mg E ι' H' rel' (k d S') P → Q v H') : Wp K mg E ι H rel r Q := by
  cases r with
  | ok d S1 => exact fun v H1 ι1 p x => q d S1 rfl v H1 ι1 p x (h.re p)
  | ex c S1 => exact h
  | no => exact h
/-- .. the rest as it was wanted ahead of it -/
theorem Wp.bind0 {k : β → Sto → R δ} {P : γ → Hp → Prop} (h : Wp K mg E ι H rel' (r.bind k) P) (q : ∀ d S', r = .ok d S' → ∀ v H' ι', Post K ι H ι' H' S' → rel ι' H' v d → Wp K mg E ι H rel' (k d S') P → Q v H') : Wp K mg E ι H rel r Q := by
  cases r with
  | ok d S1 => exact fun v H1 ι1 p x => q d S1 rfl v H1 ι1 p x h
  | ex c S1 => exact h
  | no => exact h
theorem Wp.run {k : β → Sto → F} {N : Ends} (h : WpF K mg E ι H (r.run k) N) (q : ∀ d S', r = .ok d S' → ∀ v H' ι', Post K ι H ι' H' S' → rel ι' H' v d → WpF K mg E ι' H' (k d S') N → Q v H') : Wp K mg E ι H rel r Q := by
  cases r with
  | ok d S1 => exact fun v H1 ι1 p x => q d S1 rfl v H1 ι1 p x (WpF.re p h)
  | ex c S1 => exact h
  | no => exact h
end
end DV

set_option maxHeartbeats 4000000
/-! The data-level meaning holds of the model: judgements, expressions, statements. -/
namespace DV
open PySem PySem.Spec PyProof.Rows L2

structure Okx (k : Nat) (X : Cx) (E : XK) : Prop where
  calm : X.calm = true
  nd : X.N.Nodup
  room : Room k X.A
  gd : X.A.guards = some []
  pass : Passes (L2.CX X.prog X.w) X E
  take : Takes X (fun cls d _ H => E cls d H)
  own : PassesOwn (model X.prog X.w) X.A X.env X.xe
theorem Okx.blk {k : Nat} {X : Cx} {E : XK} (o : Okx k X E) (s : Shared) (H : Hp) (scope : Scope) (cenv : Env) (fp : List Addr) : Okx k (X.blk s H scope cenv fp) E0 :=
  ⟨o.calm, o.nd, o.room, o.gd, passL, takes0, .never⟩

def DE (X : Cx) (E : XK) (e : Expr) (f : Ex) : Prop := ∃ t, PE X e t ∧ ∀ σ H σd S ι Q, EnR X.K ι H σ σd → StR X.K ι H S → Wp X.K X.mg E ι H (relD X.K) (f σd S) Q → t σ H Q
def DT (X : Cx) (E : XK) (e : Expr) (f : Tx) : Prop := ∃ t, PT X e t ∧ ∀ σ H σd S ι Q, EnR X.K ι H σ σd → StR X.K ι H S → Wp X.K X.mg E ι H relB (f σd S) Q → t σ H Q
def DW (X : Cx) (E : XK) (e : Expr) (f : Tx) : Prop := ∃ t, PW X e t ∧ ∀ σ H σd S ι Q, EnR X.K ι H σ σd → StR X.K ι H S → Wp X.K X.mg E ι H relB (f σd S) Q → t σ H Q
/-- a new list -/
def DL (X : Cx) (E : XK) (e : Expr) (f : Ax) : Prop := ∃ t, PE X e t ∧ ∀ σ H σd S ι Q, EnR X.K ι H σ σd → StR X.K ι H S → Wp X.K X.mg E ι H (relL X.K H) (f σd S) Q → t σ H Q
def DA (X : Cx) (E : XK) (es : List Expr) (f : Ax) : Prop := (∀ σ S ds S', f σ S = .ok ds S' → ds.length = es.length) ∧
  ∃ t, PA X es t ∧ ∀ σ H σd S ι Q, EnR X.K ι H σ σd → StR X.K ι H S → Wp X.K X.mg E ι H (relA X.K) (f σd S) Q → t σ H Q
def DS (X : Cx) (E : XK) (st : Stmt) (f : Sx) : Prop := ∃ t, PS X st t ∧ ∀ σ H σd S ι N, EnR X.K ι H σ σd → StR X.K ι H S → WpF X.K X.mg E ι H (f σd S) N → t N σ H
def DSs (X : Cx) (E : XK) (st : List Stmt) (f : Sx) : Prop := ∃ t, PSs X st t ∧ ∀ σ H σd S ι N, EnR X.K ι H σ σd → StR X.K ι H S → WpF X.K X.mg E ι H (f σd S) N → t N σ H
/-- a target; it sets the slots vs alone -/
def DG (X : Cx) (E : XK) (vs : List Nat) (tg : Expr) (g : Tg) : Prop := ∃ t, PG X tg t ∧ ∀ v d σ H σd S ι Q, EnR X.K ι H σ σd → StR X.K ι H S → Rd X.K ι H v d →
  Wp X.K X.mg E ι H (fun ι' H' σ' σd' => EnR X.K ι' H' σ' σd' ∧ wipe σ' vs = wipe σ vs) (g d σd S) Q → t v σ H Q
def DGs (X : Cx) (E : XK) (vs : List Nat) (tgs : List Expr) (g : List D → En → Sto → R En) : Prop := ∃ t, PGs X tgs t ∧ ∀ ws ds σ H σd S ι Q, EnR X.K ι H σ σd → StR X.K ι H S → RdAll X.K ι H ws ds →
  Wp X.K X.mg E ι H (fun ι' H' σ' σd' => EnR X.K ι' H' σ' σd' ∧ wipe σ' vs = wipe σ vs) (g ds σd S) Q → t ws σ H Q


/-! ### kinds of values -/
section
variable {K : PySem.W.Frag} {ι : List Addr} {H : Hp} {S : Sto} {v : V} {d : D}
theorem int_of {i : Int} (r : Rd K ι H v (.py (.int i))) : v = .int i := by
  cases r with
  | py r => cases r; rfl
theorem str_of {i : Str} (r : Rd K ι H v (.py (.str i))) : v = .str i := by
  cases r with
  | py r => cases r; rfl
/-- a sequence is read -/
theorem seq_of (hS : StR K ι H S) (r : Rd K ι H v d) {ds : List D} (h : seqOf S d = some ds) : ∃ a vs, v = .ref a ∧ (SqL K H a vs ∨ (FT K H a vs ∧ ∃ ps, d = .py (.tuple ps) ∧ ps.length ≤ sizeLine)) ∧ RdAll K ι H vs ds := by
  cases r with
  | py r =>
    cases r with
    | lst hf hz hs =>
      cases h
      exact ⟨_, _, rfl, .inl hf.sq, .of_pys hs⟩
    | tup hf hz hs =>
      cases h
      exact ⟨_, _, rfl, .inr ⟨hf, _, rfl, hz⟩, .of_pys hs⟩
    | _ => cases h
  | obj e =>
    rename_i n a
    simp only [seqOf] at h
    split at h
    · rename_i ds' he
      cases h
      cases hS.at_ _ _ _ he e with
      | lst ha rr => exact ⟨a, _, rfl, .inl (.of ha), rr⟩
    · cases h
  | raw a => cases h
theorem tyL (hS : StR K ι H S) (r : Rd K ι H v d) (h : lsOk S d = true) : tyV K "list" v H := by
  cases r with
  | py r =>
    cases r with
    | lst hf hz hs => exact .inl ⟨rfl, _, hf.sq⟩
    | _ => cases h
  | obj e =>
    rename_i n a
    simp only [lsOk] at h
    split at h
    · rename_i ds' he
      cases hS.at_ _ _ _ he e with
      | lst ha rr => exact .inl ⟨rfl, _, .of ha⟩
    · cases h
  | raw a => cases h
theorem atI_read {vs : List V} {ds : List D} {i : Int} {d : D} (r : RdAll K ι H vs ds) (h : atI ds i = some d) : ∃ v, atI vs i = some v ∧ Rd K ι H v d := by
  unfold atI at h ⊢
  rw [r.length]
  cases e : ixN ds.length i with
  | none => rw [e] at h; cases h
  | some j =>
    rw [e] at h
    obtain ⟨v, e1, e2⟩ := Paired.getR r h
    exact ⟨v, e1, e2⟩
theorem item_read {mg : Str → Option Value} {E : XK} {x y : V} {d e : D} {Q : VK} (hS : StR K ι H S) (rx : Rd K ι H x d) (ry : Rd K ι H y e) (h : Wp K mg E ι H (relD K) (itemD d e S) Q) : rIx K x y H Q := by
  unfold itemD at h
  split at h
  · rename_i z i
    split at h
    · rename_i hz
      split at h
      · rename_i c hc
        exact .inr (.inr ⟨z, i, c, str_of rx, int_of ry, hz, hc, h _ _ _ (.refl hS) (.py (.str _))⟩)
      · exact h.elim
    · exact h.elim
  · rename_i i hne
    split at h
    · rename_i ds hds
      split at h
      · rename_i d' hd'
        obtain ⟨a, vs, rfl, hq, rr⟩ := seq_of hS rx hds
        obtain ⟨v, hv, rv⟩ := atI_read rr hd'
        have q := h v H ι (.refl hS) rv
        rcases hq with hq | hq
        · exact .inl ⟨a, vs, i, v, rfl, int_of ry, hq, hv, q⟩
        · exact .inr (.inl ⟨a, vs, i, v, rfl, int_of ry, hq.1.sq, hv, q⟩)
      · exact h.elim
    · exact h.elim
  · exact h.elim
end
section
variable {X : Cx} {E : XK} {k : Nat} {e a b c : Expr} {f g h : Ex} {es : List Expr} {fs : Ax} {pos : Pos}
theorem De.mk {t : TE} (p : PE X e t) (q : ∀ σ H σd S ι Q, EnR X.K ι H σ σd → StR X.K ι H S → Wp X.K X.mg E ι H (relD X.K) (f σd S) Q → t σ H Q) : DE X E e f := ⟨t, p, q⟩

/-! ### names, constants -/
theorem de_var (i : Nat) {x : Str} (hN : X.N[i]? = some x := by rfl) (hv : Vis X.env.scope x := by first | exact Or.inl rfl | exact Or.inr (Or.inl rfl) | exact Or.inr (Or.inr rfl)) (hd : (x == ("__debug__" : Str)) = false := by decide)
    (hcd : (x == ("__classdict__" : Str)) = false := by decide) : DE X E (.Name x pos) (varE i) := by
  refine ⟨_, pe_var hN hv hd hcd, fun σ H σd S ι Q hE hS h => ?_⟩
  unfold varE at h
  split at h
  · rename_i d hd'
    obtain ⟨v, e1, r⟩ := hE.at_ i d hd'
    exact ⟨v, e1, h v H ι (.refl hS) r⟩
  · exact h.elim
theorem de_int {i : Int} {j : Nat} : DE X E (.Constant (.int i) j pos) (cE (.int i)) := ⟨_, pe_int, fun σ H σd S ι Q hE hS h => h _ _ _ (.refl hS) (.py (.int i))⟩
theorem de_bl {i : Bool} {j : Nat} : DE X E (.Constant (.bool i) j pos) (cE (.bool i)) := ⟨_, pe_bl, fun σ H σd S ι Q hE hS h => h _ _ _ (.refl hS) (.py (.bl i))⟩
theorem de_non {j : Nat} : DE X E (.Constant .none j pos) (cE .none) := ⟨_, pe_non, fun σ H σd S ι Q hE hS h => h _ _ _ (.refl hS) (.py .non)⟩
theorem de_str {x : Str} {j : Nat} : DE X E (.Constant (.str x) j pos) (cE (.str x)) := ⟨_, pe_str, fun σ H σd S ι Q hE hS h => h _ _ _ (.refl hS) (.py (.str x))⟩

/-! ### argument lists, displays -/
theorem da_nil : DA X E [] nilA := ⟨fun _ _ ds _ e => by cases e; rfl, _, pa_nil, fun σ H σd S ι Q hE hS h => h _ _ _ (.refl hS) .nil⟩
theorem da_cons (ha : DE X E e f) (hr : DA X E es fs) (hs : starEach (e :: es) X.env = (false, eval e X.env) :: starEach es X.env := by rfl) : DA X E (e :: es) (consA f fs) := by
  obtain ⟨t, p, q⟩ := ha
  obtain ⟨l, u, pu, qu⟩ := hr
  refine ⟨fun σ S ds S' h => ?_, _, pa_cons p pu hs, fun σ H σd S ι Q hE hS h => ?_⟩
  · unfold consA at h
    cases h1 : f σ S with
    | ok d S1 =>
      rw [h1, bind_ok] at h
      cases h2 : fs σ S1 with
      | ok dr S2 =>
        rw [h2, bind_ok] at h
        cases h
        rw [List.length_cons, List.length_cons, l _ _ _ _ h2]
      | ex c S2 => rw [h2] at h; cases h
      | no => rw [h2] at h; cases h
    | ex c S2 => rw [h1] at h; cases h
    | no => rw [h1] at h; cases h
  · refine q σ H σd S ι _ hE hS (Wp.bind h fun d S1 _ v H1 ι1 p1 r1 h1 => ?_)
    refine qu σ H1 σd S1 ι1 _ (hE.mono p1.pre p1.keep) p1.sto (Wp.bind h1 fun ds S2 _ vs H2 ι2 p2 r2 h2 => ?_)
    exact h2 _ _ _ (.refl p2.sto) (.cons (r1.mono p2.pre p2.keep) r2)
theorem small_line {n : Nat} (h : n ≤ 1000) : n ≤ sizeLine := Nat.le_trans h (by decide)
/-- a tuple that was made just now: its object is known -/
theorem tupF_ok {P : Program} {w : World} {H : Hp} {h : Heap} {a : Addr} {xs : List V} {us : List Value} {o : Obj} (hz : xs.length ≤ sizeLine) (r : Vals xs us) (e : h.get? a = some o) (hc : o.cls = .type "tuple") {n : Nat} (hd : o.data = .seq us.toArray n) : ObjOk P w H h a (.frz o (.tup xs)) :=
  ⟨e, hz, us, r, ⟨o, e, hc, n, hd⟩⟩
def tTupF (t : TA) : TE := fun σ H Q => t σ H fun xs H1 => xs.length ≤ sizeLine ∧ ∀ p (o : Obj), o.dict = none → H1 p = none → Q (.ref p) (upd H1 p (.frz o (.tup xs)))
theorem pe_tupF {x1 : Nat} {t : TA} (h : PA X es t) : PE X (.Tuple es x1 pos) (tTupF t) := by
  refine ⟨fun pins s σ H Q I hq => ?_⟩
  refine wpAny_Tuple_spliced (thn (h.run pos pins s σ H _ I hq) fun us s1 ⟨xs, H1, I1, r, z, q⟩ => ⟨by rw [← r.length]; exact z, ?_⟩)
  have hf : H1 s1.heap.objs.size = none := I1.hok.fresh (Nat.le_refl _)
  refine ⟨.ref s1.heap.objs.size, _, I1.laid (t' := s1.toks) (fun b u e => Heap.get?_push_of_some _ e) (Nat.le_refl _) ?_, rfl, q _ { cls := .type "tuple", data := .seq us.toArray } rfl hf⟩
  exact tupF_ok z r (Heap.get?_push_size _ rfl) rfl rfl
theorem de_tup {x1 : Nat} (ha : DA X E es fs) (hl : es.length ≤ 1000 := by decide) : DE X E (.Tuple es x1 pos) (tupE fs) := by
  obtain ⟨l, t, p, q⟩ := ha
  refine ⟨_, pe_tupF p, fun σ H σd S ι Q hE hS h => ?_⟩
  refine q σ H σd S ι _ hE hS (Wp.bind h fun ds S1 e1 vs H1 ι1 p1 r1 h1 => ?_)
  have hlen : ds.length ≤ sizeLine := by rw [l _ _ _ _ e1]; exact small_line hl
  cases hp : pysOf ds with
  | none => rw [hp] at h1; exact h1.elim
  | some ps =>
    rw [hp] at h1
    refine ⟨by rw [r1.length]; exact hlen, fun a o ho na => ?_⟩
    refine h1 _ _ _ (.new p1.sto na) (.py (.tup (.new ho) (by rw [pysOf_length hp]; exact hlen) ?_))
    exact (RdAll.pys r1 hp).keep (.new na)
theorem dl_lst (ha : DA X E es fs) (hl : es.length ≤ 1000 := by decide) : DL X E (.List es pos) fs := by
  obtain ⟨l, t, p, q⟩ := ha
  refine ⟨_, pe_lst p, fun σ H σd S ι Q hE hS h => ?_⟩
  refine q σ H σd S ι _ hE hS ?_
  cases hf : fs σd S with
  | no => rw [hf] at h; exact h.elim
  | ex c S1 => rw [hf] at h; exact h
  | ok ds S1 =>
    rw [hf] at h
    intro vs H1 ι1 p1 r1
    have hz : vs.length ≤ sizeLine := by rw [r1.length, l _ _ _ _ hf]; exact small_line hl
    refine ⟨hz, fun a na => ?_⟩
    refine h _ _ _ (p1.trans (.new p1.sto na)) ⟨a, vs, ?_, rfl, upd_same, p1.sto.notin na, hz, r1.mono (List.prefix_refl _) (.new na)⟩
    cases q0 : H a with
    | none => rfl
    | some u => exact absurd na (p1.dom a (by rw [q0]; simp))

/-! ### a list that is not changed from here on -/
def tFz (t : TE) : TE := fun σ H Q => t σ H fun v H1 => ∃ a xs, v = .ref a ∧ H1 a = some (.lst xs) ∧ ∀ o, Q v (upd H1 a (.frz o (.lst xs)))
theorem pe_frz {t : TE} (p : PE X e t) : PE X e (tFz t) := by
  refine ⟨fun pins s σ H Q I h => thn (p.run pins s σ H _ I h) fun u s1 ⟨v, H1, I1, r, a, xs, ev, ha, q⟩ => ?_⟩
  obtain ⟨o, I2⟩ := I1.lock ha trivial
  exact ⟨v, _, I2, r, q o⟩
/-- a new list, then fixed -/
theorem frz_post {ι ι1 : List Addr} {H H1 : Hp} {S1 : Sto} {v : V} {ds : List D} {ps : List PyData} (p1 : Post X.K ι H ι1 H1 S1) (r : relL X.K H ι1 H1 v ds) (hp : pysOf ds = some ps) :
    ∃ a xs, v = .ref a ∧ H1 a = some (.lst xs) ∧ ∀ o, Post X.K ι H ι1 (upd H1 a (.frz o (.lst xs))) S1 ∧ Pp X.K (upd H1 a (.frz o (.lst xs))) (.ref a) (.list ps) := by
  obtain ⟨a, vs, h0, rfl, ha, hn, hz, r⟩ := r
  refine ⟨a, vs, rfl, ha, fun o => ⟨p1.fixNew ha hn h0, .lst (.inl ⟨o, upd_same⟩) ?_ ?_⟩⟩
  · rw [pysOf_length hp, ← r.length]
    exact hz
  · exact (RdAll.pys r hp).keep (.list ha)
theorem de_frz {fl : Ax} (hl : DL X E e fl) : DE X E e (frzE fl) := by
  obtain ⟨t, p, q⟩ := hl
  refine ⟨_, pe_frz p, fun σ H σd S ι Q hE hS h => ?_⟩
  refine q σ H σd S ι _ hE hS (Wp.bind0 h fun ds S1 e1 v H1 ι1 p1 r1 h1 => ?_)
  cases hp : pysOf ds with
  | none => rw [hp] at h1; exact h1.elim
  | some ps =>
    rw [hp] at h1
    obtain ⟨a, xs, rfl, ha, z⟩ := frz_post p1 r1 hp
    exact ⟨a, xs, rfl, ha, fun o => h1 _ _ _ (z o).1 (.py (z o).2)⟩
theorem thw_post {ι ι1 : List Addr} {H H1 : Hp} {S1 : Sto} {v : V} {ds : List D} (p1 : Post X.K ι H ι1 H1 S1) (r : relL X.K H ι1 H1 v ds) : ∃ ι2, Post X.K ι H ι2 H1 (S1 ++ [.lst ds]) ∧ Rd X.K ι2 H1 v (.obj S1.length) := by
  obtain ⟨a, vs, h0, rfl, ha, hn, hz, r⟩ := r
  refine ⟨ι1 ++ [a], ⟨p1.pre.trans (List.prefix_append _ _), p1.keep, p1.sto.push ha hn r, fun b ws m q => ?_, p1.dom⟩, .obj ?_⟩
  · obtain ⟨e1, n1⟩ := p1.frame b ws m q
    refine ⟨e1, fun hm => ?_⟩
    rcases List.mem_append.mp hm with hm | hm
    · exact n1 hm
    · rw [List.mem_singleton] at hm
      exact ne_of_none q h0 hm
  · rw [← p1.sto.len]
    simp
theorem de_thw {fl : Ax} (hl : DL X E e fl) : DE X E e (thwE fl) := by
  obtain ⟨t, p, q⟩ := hl
  refine ⟨_, p, fun σ H σd S ι Q hE hS h => ?_⟩
  refine q σ H σd S ι _ hE hS (Wp.bind0 h fun ds S1 e1 v H1 ι1 p1 r1 h1 => ?_)
  obtain ⟨ι2, p2, r2⟩ := thw_post p1 r1
  exact h1 _ _ _ p2 r2
/-! ### operators by values -/
/-- an operator of the model does what g says -/
def DOp (X : Cx) (o : Value → Value → Sem Value) (g : D → D → Sto → R D) : Prop := ∃ r, OpR X o r ∧ ∀ x y d e H S ι E Q, StR X.K ι H S → Rd X.K ι H x d → Rd X.K ι H y e → Wp X.K X.mg E ι H (relD X.K) (g d e S) Q → r x y H Q
def DUn (X : Cx) (o : Value → Sem Value) (g : D → Sto → R D) : Prop := ∃ r, UnR X o r ∧ ∀ x d H S ι E Q, StR X.K ι H S → Rd X.K ι H x d → Wp X.K X.mg E ι H (relD X.K) (g d S) Q → r x H Q
/-- a built-in upon its arguments -/
def DC (X : Cx) (o : Value) (g : List D → Sto → R D) : Prop := ∃ r, CallR X o r ∧ ∀ xs ds H S ι E Q, StR X.K ι H S → RdAll X.K ι H xs ds → Wp X.K X.mg E ι H (relD X.K) (g ds S) Q → r xs H Q
/-- a built-in type's method -/
def DM (X : Cx) (T : String) (id : String) (g : D → List D → Sto → R D) : Prop := ∃ r, MtR X id r ∧ ∀ x xs d ds H S ι E Q, StR X.K ι H S → Rd X.K ι H x d → RdAll X.K ι H xs ds → Wp X.K X.mg E ι H (relD X.K) (g d ds S) Q → r x xs H Q
theorem op_read {o : Value → Value → Sem Value} {gg : D → D → Sto → R D} {r : R2} {ta tb : TE} (q : ∀ σ H σd S ι Q, EnR X.K ι H σ σd → StR X.K ι H S → Wp X.K X.mg E ι H (relD X.K) (f σd S) Q → ta σ H Q)
    (qu : ∀ σ H σd S ι Q, EnR X.K ι H σ σd → StR X.K ι H S → Wp X.K X.mg E ι H (relD X.K) (g σd S) Q → tb σ H Q)
    (qr : ∀ x y d e H S ι E Q, StR X.K ι H S → Rd X.K ι H x d → Rd X.K ι H y e → Wp X.K X.mg E ι H (relD X.K) (gg d e S) Q → r x y H Q)
    {σ : L2.St} {H : Hp} {σd : En} {S : Sto} {ι : List Addr} {Q : VK} (hE : EnR X.K ι H σ σd) (hS : StR X.K ι H S) (h : Wp X.K X.mg E ι H (relD X.K) (opE gg f g σd S) Q) : tOp r ta tb σ H Q := by
  refine q σ H σd S ι _ hE hS (Wp.bind h fun d S1 _ v H1 ι1 p1 r1 h1 => ?_)
  refine qu σ H1 σd S1 ι1 _ (hE.mono p1.pre p1.keep) p1.sto (Wp.bind h1 fun d2 S2 _ v2 H2 ι2 p2 r2 h2 => ?_)
  exact qr _ _ _ _ _ _ _ E _ p2.sto (r1.mono p2.pre p2.keep) r2 h2
/-- a truth, as a test of its own -/
theorem bool_of {K : PySem.W.Frag} {ι : List Addr} {H : Hp} {v : V} {c : Bool} (r : Rd K ι H v (.py (.bool c))) : v = .bl c := by
  cases r with
  | py r => cases r; rfl
theorem Wp.val {K : PySem.W.Frag} {mg : Str → Option Value} {ι : List Addr} {H : Hp} {r : R D} {Q : Bool → Hp → Prop} (h : Wp K mg E ι H relB (r.bind fun x S1 => match x with
    | .py (.bool k) => .ok k S1
    | _ => .no) Q) : Wp K mg E ι H (relD K) r (fun v H' => ∃ k, v = .bl k ∧ Q k H') := by
  refine Wp.bind h fun d3 S3 _ v3 H3 ι3 p3 r3 h3 => ?_
  split at h3
  · exact ⟨_, bool_of r3, h3 _ _ _ (.refl p3.sto) rfl⟩
  · exact h3.elim
theorem de_bin {op : Operator} {gg : D → D → Sto → R D} (ho : DOp X (binaryOp op) gg) (ha : DE X E a f) (hb : DE X E b g) : DE X E (.BinOp a op b pos) (opE gg f g) := by
  obtain ⟨t, p, q⟩ := ha
  obtain ⟨u, pu, qu⟩ := hb
  obtain ⟨r, hr, qr⟩ := ho
  exact ⟨_, pe_op hr p pu, fun σ H σd S ι Q hE hS h => op_read (o := binaryOp op) q qu qr hE hS h⟩
theorem de_cmp {op : CmpOp} {gg : D → D → Sto → R D} (ho : DOp X (compareOp op) gg) (ha : DE X E a f) (hb : DE X E b g) (hm : behindInMarks op b = false := by rfl) : DE X E (.Compare a [op] [b] pos) (opE gg f g) := by
  obtain ⟨t, p, q⟩ := ha
  obtain ⟨u, pu, qu⟩ := hb
  obtain ⟨r, hr, qr⟩ := ho
  exact ⟨_, pe_cmpR hr p pu hm, fun σ H σd S ι Q hE hS h => op_read (o := compareOp op) q qu qr hE hS h⟩
theorem dt_cmp {op : CmpOp} {gg : D → D → Sto → R D} (ho : DOp X (compareOp op) gg) (ha : DE X E a f) (hb : DE X E b g) (hm : behindInMarks op b = false := by rfl) : DT X E (.Compare a [op] [b] pos) (valT (opE gg f g)) := by
  obtain ⟨t, p, q⟩ := ha
  obtain ⟨u, pu, qu⟩ := hb
  obtain ⟨r, hr, qr⟩ := ho
  exact ⟨_, pt_cmpR hr p pu hm, fun σ H σd S ι Q hE hS h => op_read (o := compareOp op) q qu qr hE hS (Wp.val h)⟩
theorem de_un {op : UnaryOp} {gg : D → Sto → R D} (ho : DUn X (unaryOp op) gg) (ha : DE X E a f) : DE X E (.UnaryOp op a pos) (op1 gg f) := by
  obtain ⟨t, p, q⟩ := ha
  obtain ⟨r, hr, qr⟩ := ho
  refine ⟨_, pe_un hr p, fun σ H σd S ι Q hE hS h => ?_⟩
  refine q σ H σd S ι _ hE hS (Wp.bind h fun d S1 _ v H1 ι1 p1 r1 h1 => ?_)
  exact qr _ _ _ _ _ E _ p1.sto r1 h1
theorem dt_val (ha : DE X E a f) (he : ∀ whole, isTrue a X.env whole = (do let v ← whole; standAt a.pos; holding [v] (truthy v)) := by intro _; rfl) : DT X E a (valT f) := by
  obtain ⟨t, p, q⟩ := ha
  exact ⟨_, pt_val p he, fun σ H σd S ι Q hE hS h => q σ H σd S ι _ hE hS (Wp.val h)⟩

/-! ### and, or, not -/
variable {ft gt : Tx} {rest : List Expr}
theorem dw_and1 (ha : DT X E a ft) : DW X E (.BoolOp .And [a] pos) ft := by
  obtain ⟨t, p, q⟩ := ha
  exact ⟨_, pw_and1 p, q⟩
theorem dw_or1 (ha : DT X E a ft) : DW X E (.BoolOp .Or [a] pos) ft := by
  obtain ⟨t, p, q⟩ := ha
  exact ⟨_, pw_or1 p, q⟩
theorem dw_and (ha : DT X E a ft) (hb : DW X E (.BoolOp .And (b :: rest) pos) gt) : DW X E (.BoolOp .And (a :: b :: rest) pos) (andT ft gt) := by
  obtain ⟨t, p, q⟩ := ha
  obtain ⟨u, pu, qu⟩ := hb
  refine ⟨_, pw_and p pu, fun σ H σd S ι Q hE hS h => ?_⟩
  refine q σ H σd S ι _ hE hS (Wp.bind h fun d S1 _ v H1 ι1 p1 r1 h1 => ?_)
  cases r1
  cases d with
  | true => exact qu σ H1 σd S1 ι1 _ (hE.mono p1.pre p1.keep) p1.sto h1
  | false => exact h1 _ _ _ (.refl p1.sto) rfl
theorem dw_or (ha : DT X E a ft) (hb : DW X E (.BoolOp .Or (b :: rest) pos) gt) : DW X E (.BoolOp .Or (a :: b :: rest) pos) (orT ft gt) := by
  obtain ⟨t, p, q⟩ := ha
  obtain ⟨u, pu, qu⟩ := hb
  refine ⟨_, pw_or p pu, fun σ H σd S ι Q hE hS h => ?_⟩
  refine q σ H σd S ι _ hE hS (Wp.bind h fun d S1 _ v H1 ι1 p1 r1 h1 => ?_)
  cases r1
  cases d with
  | false => exact qu σ H1 σd S1 ι1 _ (hE.mono p1.pre p1.keep) p1.sto h1
  | true => exact h1 _ _ _ (.refl p1.sto) rfl
theorem dt_w (h : DW X E e ft) : DT X E e ft := by
  obtain ⟨t, p, q⟩ := h
  exact ⟨_, p.pt, q⟩
theorem dt_not (ha : DT X E a ft) : DT X E (.UnaryOp .Not a pos) (notT ft) := by
  obtain ⟨t, p, q⟩ := ha
  refine ⟨_, pt_not p, fun σ H σd S ι Q hE hS h => ?_⟩
  refine q σ H σd S ι _ hE hS (Wp.bind h fun d S1 _ v H1 ι1 p1 r1 h1 => ?_)
  cases r1
  exact h1 _ _ _ (.refl p1.sto) rfl
theorem de_one {op} (ha : DE X E a f) : DE X E (.BoolOp op [a] pos) f := by
  obtain ⟨t, p, q⟩ := ha
  exact ⟨_, pe_one p, q⟩
theorem de_and (ha : DE X E a f) (hb : DE X E (.BoolOp .And (b :: rest) pos) g) : DE X E (.BoolOp .And (a :: b :: rest) pos) (andE f g) := by
  obtain ⟨t, p, q⟩ := ha
  obtain ⟨u, pu, qu⟩ := hb
  refine ⟨_, pe_and p pu, fun σ H σd S ι Q hE hS h => ?_⟩
  refine q σ H σd S ι _ hE hS (Wp.bind h fun d S1 _ v H1 ι1 p1 r1 h1 => ?_)
  split at h1
  · exact ⟨_, bool_of r1, qu σ H1 σd S1 ι1 _ (hE.mono p1.pre p1.keep) p1.sto h1⟩
  · exact ⟨_, bool_of r1, h1 _ _ _ (.refl p1.sto) (.py (.bl false))⟩
  · exact h1.elim
theorem de_or (ha : DE X E a f) (hb : DE X E (.BoolOp .Or (b :: rest) pos) g) : DE X E (.BoolOp .Or (a :: b :: rest) pos) (orE f g) := by
  obtain ⟨t, p, q⟩ := ha
  obtain ⟨u, pu, qu⟩ := hb
  refine ⟨_, pe_or p pu, fun σ H σd S ι Q hE hS h => ?_⟩
  refine q σ H σd S ι _ hE hS (Wp.bind h fun d S1 _ v H1 ι1 p1 r1 h1 => ?_)
  split at h1
  · exact ⟨_, bool_of r1, qu σ H1 σd S1 ι1 _ (hE.mono p1.pre p1.keep) p1.sto h1⟩
  · exact ⟨_, bool_of r1, h1 _ _ _ (.refl p1.sto) (.py (.bl true))⟩
  · exact h1.elim
theorem de_not (ha : DE X E a f) : DE X E (.UnaryOp .Not a pos) (notE f) := by
  obtain ⟨t, p, q⟩ := ha
  refine ⟨_, pe_not p, fun σ H σd S ι Q hE hS h => ?_⟩
  refine q σ H σd S ι _ hE hS (Wp.bind h fun d S1 _ v H1 ι1 p1 r1 h1 => ?_)
  split at h1
  · exact ⟨_, bool_of r1, h1 _ _ _ (.refl p1.sto) (.py (.bl _))⟩
  · exact h1.elim
theorem de_ife (hc : DT X E c ft) (ha : DE X E a f) (hb : DE X E b g) : DE X E (.IfExp c a b pos) (ifE ft f g) := by
  obtain ⟨t, p, q⟩ := hc
  obtain ⟨ta, pa, qa⟩ := ha
  obtain ⟨tb, pb, qb⟩ := hb
  refine ⟨_, pe_ifExp p pa pb, fun σ H σd S ι Q hE hS h => ?_⟩
  refine q σ H σd S ι _ hE hS (Wp.bind h fun d S1 _ v H1 ι1 p1 r1 h1 => ?_)
  cases r1
  cases d with
  | true => exact qa σ H1 σd S1 ι1 _ (hE.mono p1.pre p1.keep) p1.sto h1
  | false => exact qb σ H1 σd S1 ι1 _ (hE.mono p1.pre p1.keep) p1.sto h1
theorem chain_read {gg gg' : D → D → Sto → R D} {r r' : R2} {ta tb tc : TE} (q : ∀ σ H σd S ι Q, EnR X.K ι H σ σd → StR X.K ι H S → Wp X.K X.mg E ι H (relD X.K) (f σd S) Q → ta σ H Q)
    (qu : ∀ σ H σd S ι Q, EnR X.K ι H σ σd → StR X.K ι H S → Wp X.K X.mg E ι H (relD X.K) (g σd S) Q → tb σ H Q) (qw : ∀ σ H σd S ι Q, EnR X.K ι H σ σd → StR X.K ι H S → Wp X.K X.mg E ι H (relD X.K) (h σd S) Q → tc σ H Q)
    (qr : ∀ x y d e H S ι E Q, StR X.K ι H S → Rd X.K ι H x d → Rd X.K ι H y e → Wp X.K X.mg E ι H (relD X.K) (gg d e S) Q → r x y H Q)
    (qr' : ∀ x y d e H S ι E Q, StR X.K ι H S → Rd X.K ι H x d → Rd X.K ι H y e → Wp X.K X.mg E ι H (relD X.K) (gg' d e S) Q → r' x y H Q)
    {σ : L2.St} {H : Hp} {σd : En} {S : Sto} {ι : List Addr} {Q : VK} (hE : EnR X.K ι H σ σd) (hS : StR X.K ι H S) (h : Wp X.K X.mg E ι H (relD X.K) (chainE gg gg' f g h σd S) Q) : tChain r r' ta tb tc σ H Q := by
  refine q σ H σd S ι _ hE hS (Wp.bind h fun d S1 _ v H1 ι1 p1 r1 h1 => ?_)
  refine qu σ H1 σd S1 ι1 _ (hE.mono p1.pre p1.keep) p1.sto (Wp.bind h1 fun d2 S2 _ v2 H2 ι2 p2 r2 h2 => ?_)
  refine qr _ _ _ _ _ _ _ E _ p2.sto (r1.mono p2.pre p2.keep) r2 (Wp.bind h2 fun d3 S3 _ v3 H3 ι3 p3 r3 h3 => ?_)
  split at h3
  · refine ⟨_, bool_of r3, ?_⟩
    rw [if_pos rfl]
    refine qw σ H3 σd S3 ι3 _ (((hE.mono p1.pre p1.keep).mono p2.pre p2.keep).mono p3.pre p3.keep) p3.sto (Wp.bind h3 fun d4 S4 _ v4 H4 ι4 p4 r4 h4 => ?_)
    exact qr' _ _ _ _ _ _ _ E _ p4.sto ((r2.mono p3.pre p3.keep).mono p4.pre p4.keep) r4 h4
  · refine ⟨_, bool_of r3, ?_⟩
    rw [if_neg Bool.false_ne_true]
    exact h3 _ _ _ (.refl p3.sto) (.py (.bl false))
  · exact h3.elim
theorem de_chain {op op' : CmpOp} {gg gg' : D → D → Sto → R D} (ho : DOp X (compareOp op) gg) (ho' : DOp X (compareOp op') gg') (ha : DE X E a f) (hb : DE X E b g) (hc : DE X E c h) (hm : lastMarks [op, op'] [b, c] = false := by with_unfolding_all rfl) : DE X E (.Compare a [op, op'] [b, c] pos) (chainE gg gg' f g h) := by
  obtain ⟨t, p, q⟩ := ha
  obtain ⟨u, pu, qu⟩ := hb
  obtain ⟨w, pw, qw⟩ := hc
  obtain ⟨r, hr, qr⟩ := ho
  obtain ⟨r', hr', qr'⟩ := ho'
  exact ⟨_, pe_chain hr hr' p pu pw hm, fun σ H σd S ι Q hE hS h => chain_read q qu qw qr qr' hE hS h⟩
theorem dt_chain {op op' : CmpOp} {gg gg' : D → D → Sto → R D} (ho : DOp X (compareOp op) gg) (ho' : DOp X (compareOp op') gg') (ha : DE X E a f) (hb : DE X E b g) (hc : DE X E c h) (hm : lastMarks [op, op'] [b, c] = false := by with_unfolding_all rfl) : DT X E (.Compare a [op, op'] [b, c] pos) (valT (chainE gg gg' f g h)) := by
  obtain ⟨t, p, q⟩ := ha
  obtain ⟨u, pu, qu⟩ := hb
  obtain ⟨w, pw, qw⟩ := hc
  obtain ⟨r, hr, qr⟩ := ho
  obtain ⟨r', hr', qr'⟩ := ho'
  exact ⟨_, pt_chain hr hr' p pu pw hm, fun σ H σd S ι Q hE hS h => chain_read q qu qw qr qr' hE hS (Wp.val h)⟩

/-! ### calls of built-ins, methods, items -/
variable {p : Pos} {x : Str}
theorem de_callB {id : String} {gg : List D → Sto → R D} (hc : DC X (.builtin id) gg) (hm : X.mg x = none) (hv : bootBuiltins x = some (.builtin id)) (ha : DA X E (e :: es) fs) (hg : Gl X x := by rfl) (hn : x ≠ "__name__" := by decide) (hdb : (x == ("__debug__" : Str)) = false := by decide)
    (he : starEach (e :: es) X.env = (false, eval e X.env) :: starEach es X.env := by rfl) (hpl : (backTo pos (starEach es X.env)).any (·.1) = false := by rfl) : DE X E (.Call (.Name x p) (e :: es) [] pos) (callE gg fs) := by
  obtain ⟨l, t, pt, q⟩ := ha
  obtain ⟨r, hr, qr⟩ := hc
  refine ⟨_, pe_callB hr hg hm hv pt hn hdb he hpl, fun σ H σd S ι Q hE hS h => ?_⟩
  refine q σ H σd S ι _ hE hS (Wp.bind h fun ds S1 _ vs H1 ι1 p1 r1 h1 => ?_)
  exact qr _ _ _ _ _ E _ p1.sto r1 h1
theorem de_callTy {T : String} {gg : List D → Sto → R D} (hc : DC X (.type T) gg) (hm : X.mg x = none) (hv : bootBuiltins x = some (.type T)) (ha : DA X E (e :: es) fs) (hg : Gl X x := by rfl) (hn : x ≠ "__name__" := by decide) (hdb : (x == ("__debug__" : Str)) = false := by decide)
    (he : starEach (e :: es) X.env = (false, eval e X.env) :: starEach es X.env := by rfl) (hpl : (backTo pos (starEach es X.env)).any (·.1) = false := by rfl) : DE X E (.Call (.Name x p) (e :: es) [] pos) (callE gg fs) := by
  obtain ⟨l, t, pt, q⟩ := ha
  obtain ⟨r, hr, qr⟩ := hc
  refine ⟨_, pe_callTy hr hg hm hv pt hn hdb he hpl, fun σ H σd S ι Q hE hS h => ?_⟩
  refine q σ H σd S ι _ hE hS (Wp.bind h fun ds S1 _ vs H1 ι1 p1 r1 h1 => ?_)
  exact qr _ _ _ _ _ E _ p1.sto r1 h1

/-! ### methods, items -/
variable {o : Expr} {apos cpos : Pos} {name : Str} {id : String}
theorem de_methL {gg : D → List D → Sto → R D} (slot : Slot "list" name id) (hty : typeOf (.builtin id) = pure (.type "method_descriptor")) (hm : DM X "list" id gg) (ho : DE X E o f) (ha : DA X E (e :: es) fs)
    (hbase : attributeBase o name X.env (eval o X.env) = eval o X.env := by rfl)
    (hfew : ((backTo cpos (starEach (e :: es) X.env)).all (fun x => !x.1) && (backToKw cpos (keywordEach [] X.env)).all (fun x => x.1.isSome)
      && decide ((e :: es).length + ([] : List Keyword).length + (if ([] : List Keyword).isEmpty then 0 else 1) < 30)) = true := by rfl)
    (hline : (apos.endLine == cpos.line) = true := by rfl) (hs : starEach (e :: es) X.env = (false, eval e X.env) :: starEach es X.env := by rfl) (hplain : (backTo cpos (starEach es X.env)).any (·.1) = false := by rfl) :
    DE X E (.Call (.Attribute o name apos) (e :: es) [] cpos) (methL gg f fs) := by
  obtain ⟨t, p, q⟩ := ho
  obtain ⟨l, u, pu, qu⟩ := ha
  obtain ⟨r, hr, qr⟩ := hm
  refine ⟨_, pe_bm PySem.F.plainAttrs_list slot hty hr p pu hbase hfew hline hs hplain, fun σ H σd S ι Q hE hS h => ?_⟩
  refine q σ H σd S ι _ hE hS (Wp.bind h fun d S1 _ v H1 ι1 p1 r1 h1 => ?_)
  split at h1
  · rename_i hl
    refine ⟨tyL p1.sto r1 hl, ?_⟩
    refine qu σ H1 σd S1 ι1 _ (hE.mono p1.pre p1.keep) p1.sto (Wp.bind h1 fun d2 S2 _ v2 H2 ι2 p2 r2 h2 => ?_)
    exact qr _ _ _ _ _ _ _ E _ p2.sto (r1.mono p2.pre p2.keep) r2 h2
  · exact h1.elim
theorem de_methS {gg : D → List D → Sto → R D} (slot : Slot "str" name id) (hty : typeOf (.builtin id) = pure (.type "method_descriptor")) (hm : DM X "str" id gg) (ho : DE X E o f) (ha : DA X E (e :: es) fs)
    (hbase : attributeBase o name X.env (eval o X.env) = eval o X.env := by rfl)
    (hfew : ((backTo cpos (starEach (e :: es) X.env)).all (fun x => !x.1) && (backToKw cpos (keywordEach [] X.env)).all (fun x => x.1.isSome)
      && decide ((e :: es).length + ([] : List Keyword).length + (if ([] : List Keyword).isEmpty then 0 else 1) < 30)) = true := by rfl)
    (hline : (apos.endLine == cpos.line) = true := by rfl) (hs : starEach (e :: es) X.env = (false, eval e X.env) :: starEach es X.env := by rfl) (hplain : (backTo cpos (starEach es X.env)).any (·.1) = false := by rfl) :
    DE X E (.Call (.Attribute o name apos) (e :: es) [] cpos) (methS gg f fs) := by
  obtain ⟨t, p, q⟩ := ho
  obtain ⟨l, u, pu, qu⟩ := ha
  obtain ⟨r, hr, qr⟩ := hm
  refine ⟨_, pe_bm PySem.F.plainAttrs_str slot hty hr p pu hbase hfew hline hs hplain, fun σ H σd S ι Q hE hS h => ?_⟩
  refine q σ H σd S ι _ hE hS (Wp.bind h fun d S1 _ v H1 ι1 p1 r1 h1 => ?_)
  split at h1
  · rename_i z
    refine ⟨by cases r1 with | py r1 => cases r1; rfl, ?_⟩
    refine qu σ H1 σd S1 ι1 _ (hE.mono p1.pre p1.keep) p1.sto (Wp.bind h1 fun d2 S2 _ v2 H2 ι2 p2 r2 h2 => ?_)
    exact qr _ _ _ _ _ _ _ E _ p2.sto (r1.mono p2.pre p2.keep) r2 h2
  · exact h1.elim
/-- an item by its index -/
theorem de_item (ha : DE X E a f) (hb : DE X E b g) (hs : PlainIx b := by intro _ _; rfl) : DE X E (.Subscript a b pos) (opE itemD f g) := by
  obtain ⟨t, p, q⟩ := ha
  obtain ⟨u, pu, qu⟩ := hb
  refine ⟨_, pe_ix ix_seq p pu hs, fun σ H σd S ι Q hE hS h => op_read (o := binaryOp .Add) q qu (fun x y d e H S ι E Q hS rx ry h => ?_) hE hS h⟩
  exact item_read hS rx ry h
end
end DV

set_option maxHeartbeats 4000000
/-! Targets, statements, loops, comprehensions. -/
namespace DV
open PySem PySem.Spec PyProof.Rows L2
section
variable {X : Cx} {E : XK} {k : Nat} {e a b c : Expr} {f g h : Ex} {es : List Expr} {fs : Ax} {pos : Pos}

/-! ### targets -/
theorem EnR.set {K : PySem.W.Frag} {ι : List Addr} {H : Hp} {σ : L2.St} {σd : En} {v : V} {d : D} (h : EnR K ι H σ σd) (i : Nat) (r : Rd K ι H v d) : EnR K ι H (σ.set i (some v)) (σd.set i (some d)) := by
  refine ⟨by rw [List.length_set, List.length_set, h.len], fun j d' e => ?_⟩
  by_cases hj : j = i
  · subst hj
    have hlt : j < σd.length := by
      have := (List.getElem?_eq_some_iff.mp e).1
      simpa using this
    rw [List.getElem?_set_self hlt] at e
    cases e
    exact ⟨v, List.getElem?_set_self (by rw [h.len]; exact hlt), r⟩
  · rw [List.getElem?_set_ne (Ne.symm hj)] at e
    obtain ⟨v', e1, r'⟩ := h.at_ j d' e
    exact ⟨v', by rw [List.getElem?_set_ne (Ne.symm hj)]; exact e1, r'⟩
theorem wipe_get {i : Nat} {σ : L2.St} : ∀ {vs : List Nat}, i ∈ vs → i < σ.length → (wipe σ vs)[i]? = some none
  | v :: vs, hm, hl => by
    unfold wipe
    by_cases hi : v = i
    · subst hi
      rw [List.getElem?_set_self (by rw [wipe_length]; exact hl)]
    · rw [List.getElem?_set_ne hi]
      exact wipe_get ((List.mem_cons.mp hm).resolve_left (Ne.symm hi)) hl
theorem wipe_set_in {i : Nat} {x : Option V} {σ : L2.St} {vs : List Nat} (hm : i ∈ vs) : wipe (σ.set i x) vs = wipe σ vs := by
  apply List.ext_getElem?
  intro j
  by_cases hj : j ∈ vs
  · by_cases hl : j < σ.length
    · rw [wipe_get hj (by rw [List.length_set]; exact hl), wipe_get hj hl]
    · rw [List.getElem?_eq_none (by rw [wipe_length, List.length_set]; omega), List.getElem?_eq_none (by rw [wipe_length]; omega)]
  · rw [wipe_out hj, wipe_out hj, List.getElem?_set_ne (fun z => hj (by subst z; exact hm))]
theorem dg_name {vs : List Nat} (i : Nat) {x : Str} (hN : X.N.Nodup) (hi : X.N[i]? = some x := by rfl) (hx : Loc X.env.scope x := by first | exact Or.inl rfl | exact Or.inr rfl) (hf : X.fn x = true ∨ X.env.scope.names.lookup x = some .local := by first | exact .inl rfl | exact .inr rfl) (hm : i ∈ vs := by decide) : DG X E vs (.Name x pos) (nmG i) :=
  ⟨_, pg_name hN hi hx hf, fun v d σ H σd S ι Q hE hS r h => h _ _ _ (.refl hS) ⟨hE.set i r, wipe_set_in hm⟩⟩
theorem dgs_nil {vs : List Nat} : DGs X E vs [] nilG := ⟨_, pgs_nil, fun ws ds σ H σd S ι Q hE hS r h => by
  cases r with
  | nil => exact ⟨rfl, h _ _ _ (.refl hS) ⟨hE, rfl⟩⟩
  | cons _ _ => exact h.elim⟩
theorem dgs_cons {vs : List Nat} {tg : Expr} {tgs : List Expr} {gg : Tg} {gs : List D → En → Sto → R En} (h1 : DG X E vs tg gg) (h2 : DGs X E vs tgs gs) (hs : ∀ env, assignEach (tg :: tgs) env = (false, assign tg env) :: assignEach tgs env := by intro _; rfl) : DGs X E vs (tg :: tgs) (consG gg gs) := by
  obtain ⟨t, p, q⟩ := h1
  obtain ⟨u, pu, qu⟩ := h2
  refine ⟨_, pgs_cons p pu (by rw [hs]; rfl), fun ws ds σ H σd S ι Q hE hS r h => ?_⟩
  cases r with
  | nil => exact h.elim
  | cons r rs =>
    refine ⟨_, _, rfl, q _ _ σ H σd S ι _ hE hS r (Wp.bind h fun σ1 S1 _ v H1 ι1 p1 r1 h1 => ?_)⟩
    refine qu _ _ v H1 σ1 S1 ι1 _ r1.1 p1.sto (RdAll.mono p1.pre p1.keep rs) (Wp.sub h1 fun ι' H' v' σ2 z => ⟨z.1, z.2.trans r1.2⟩)
theorem dg_tup {vs : List Nat} {n kk : Nat} {tgs : List Expr} {gs : List D → En → Sto → R En} (hc : X.calm = true) (h : DGs X E vs tgs gs) (hn : (assignEach tgs X.env).length = n := by rfl) (hst : (assignEach tgs X.env).findIdx? (·.1) = none := by rfl) : DG X E vs (.Tuple tgs kk pos) (tupG n gs) := by
  obtain ⟨t, p, q⟩ := h
  refine ⟨_, pg_tup hc p hn hst, fun v d σ H σd S ι Q hE hS r h => ?_⟩
  unfold tupG at h
  split at h
  · split at h
    · rename_i ps hl
      cases r with
      | py r =>
        cases r with
        | tup hq hz hs => exact ⟨_, _, rfl, hq.sq, by rw [hs.length]; exact hl, q _ _ σ H σd S ι _ hE hS (.of_pys hs) h⟩
    · exact h.elim
  · exact h.elim
/-- o[i] = v of a list of the store -/
theorem dg_ix {vs : List Nat} {o i : Expr} (ho : DE X E o f) (hi : DE X E i g)
    (hz : ∀ v, assign (.Subscript o i pos) X.env v = (do let ov ← holding [v] (eval o X.env); let iv ← holding [v, ov] (eval i X.env); standAt pos; holding [v, ov, iv] (setItem ov iv v); release [v, ov, iv] []) := by intro _; rfl) : DG X E vs (.Subscript o i pos) (ixG f g) := by
  obtain ⟨t, p, q⟩ := ho
  obtain ⟨u, pu, qu⟩ := hi
  refine ⟨_, pg_sub p pu set_list hz, fun v d σ H σd S ι Q hE hS r h => ?_⟩
  refine q σ H σd S ι _ hE hS (Wp.bind h fun d1 S1 _ v1 H1 ι1 p1 r1 h1 => ?_)
  refine qu σ H1 σd S1 ι1 _ (hE.mono p1.pre p1.keep) p1.sto (Wp.bind h1 fun d2 S2 _ v2 H2 ι2 p2 r2 h2 => ?_)
  have r1' := r1.mono p2.pre p2.keep
  have r' := (r.mono p1.pre p1.keep).mono p2.pre p2.keep
  split at h2
  · split at h2
    · rename_i ds hds
      split at h2
      · rename_i j hj
        cases r1' with
        | obj e1 =>
          rename_i a
          cases p2.sto.at_ _ _ _ hds e1 with
          | lst ha rr =>
            rename_i ws
            refine ⟨a, ws, _, j, rfl, int_of r2, ha, by rw [rr.length]; exact hj, ?_⟩
            refine h2 _ _ _ (.wr e1 ha (p2.sto.set e1 ha (Paired.setB r' j rr))) ⟨?_, rfl⟩
            exact ((hE.mono p1.pre p1.keep).mono p2.pre p2.keep).mono (List.prefix_refl _) (.list ha)
      · exact h2.elim
    · exact h2.elim
  · exact h2.elim

/-! ### statements -/
theorem dss_nil : DSs X E [] passS := ⟨_, pss_nil, fun σ H σd S ι N hE hS h => h _ _ _ (.refl hS) hE⟩
theorem dss_cons {st : Stmt} {sts : List Stmt} {u w : Sx} (h1 : DS X E st u) (h2 : DSs X E sts w) : DSs X E (st :: sts) (seqS u w) := by
  obtain ⟨t, p, q⟩ := h1
  obtain ⟨t2, p2, q2⟩ := h2
  refine ⟨_, pss_cons p p2, fun σ H σd S ι N hE hS h => ?_⟩
  refine q σ H σd S ι _ hE hS ?_
  unfold seqS at h
  cases hu : u σd S with
  | nx σ1 S1 =>
    rw [hu] at h
    exact fun σ' H' ι' pp r => q2 σ' H' σ1 S1 ι' N r pp.sto (WpF.re pp h)
  | rt d S1 => rw [hu] at h; exact h
  | bk σ1 S1 => rw [hu] at h; exact h
  | ct σ1 S1 => rw [hu] at h; exact h
  | ex c S1 => rw [hu] at h; exact h
  | no => rw [hu] at h; exact h.elim
theorem dss_one {st : Stmt} {u : Sx} (h1 : DS X E st u) : DSs X E [st] u := by
  obtain ⟨t, p, q⟩ := h1
  exact ⟨_, pss_one p, q⟩
theorem ds_expr (ha : DE X E e f) (hs : swapsWith e none pos.line X.env = pure false := by rfl) : DS X E (.Expr e pos) (exprS f) := by
  obtain ⟨t, p, q⟩ := ha
  refine ⟨_, ps_expr p hs, fun σ H σd S ι N hE hS h => ?_⟩
  exact q σ H σd S ι _ hE hS (Wp.run h fun d S1 _ v H1 ι1 p1 r1 h1 => h1 _ _ _ (.refl p1.sto) (hE.mono p1.pre p1.keep))
theorem ds_ret (ha : DE X E e f) : DS X E (.Return (some e) pos) (retS f) := by
  obtain ⟨t, p, q⟩ := ha
  refine ⟨_, ps_ret p, fun σ H σd S ι N hE hS h => ?_⟩
  exact q σ H σd S ι _ hE hS (Wp.run h fun d S1 _ v H1 ι1 p1 r1 h1 => h1 _ _ _ (.refl p1.sto) r1)
theorem ds_if {ft : Tx} {u w : Sx} {as bs : List Stmt} (hc : DT X E c ft) (ha : DSs X E as u) (hb : DSs X E bs w) : DS X E (.If c as bs pos) (ifS ft u w) := by
  obtain ⟨t, p, q⟩ := hc
  obtain ⟨ta, pa, qa⟩ := ha
  obtain ⟨tb, pb, qb⟩ := hb
  refine ⟨_, ps_if p pa pb, fun σ H σd S ι N hE hS h => ?_⟩
  refine q σ H σd S ι _ hE hS (Wp.run h fun d S1 _ v H1 ι1 p1 r1 h1 => ?_)
  cases r1
  cases d with
  | true => exact qa σ H1 σd S1 ι1 _ (hE.mono p1.pre p1.keep) p1.sto h1
  | false => exact qb σ H1 σd S1 ι1 _ (hE.mono p1.pre p1.keep) p1.sto h1
/-- target = value, whatever the target -/
theorem ds_asg {vs : List Nat} {tg : Expr} {gg : Tg} (he : DE X E e f) (hg : DG X E vs tg gg) (hs : swapsWithSole [tg] e pos.line X.env = pure false := by rfl) (hw : swappedStores [tg] e X.env = pure none := by rfl)
    (h1 : (assignEach [tg] X.env).map (·.2) = [assign tg X.env] := by rfl) : DS X E (.Assign [tg] e pos) (asgS f gg) := by
  obtain ⟨t, p, q⟩ := he
  obtain ⟨u, pu, qu⟩ := hg
  refine ⟨_, ps_asg p pu hs hw h1, fun σ H σd S ι N hE hS h => ?_⟩
  refine q σ H σd S ι _ hE hS (Wp.run h fun d S1 _ v H1 ι1 p1 r1 h1 => ?_)
  exact qu v d σ H1 σd S1 ι1 _ (hE.mono p1.pre p1.keep) p1.sto r1 (Wp.run h1 fun σ2 S2 _ v2 H2 ι2 p2 r2 h2 => h2 _ _ _ (.refl p2.sto) r2.1)
/-- name = value -/
theorem ds_set (i : Nat) {x : Str} {pos' : Pos} (hN : X.N.Nodup) (he : DE X E e f) (hi : X.N[i]? = some x := by rfl) (hx : Loc X.env.scope x := by first | exact Or.inl rfl | exact Or.inr rfl) (hs : swapsWith e (some (.Name x pos')) pos.line X.env = pure false := by rfl)
    (hf : X.fn x = true ∨ X.env.scope.names.lookup x = some .local := by first | exact .inl rfl | exact .inr rfl) : DS X E (.Assign [.Name x pos'] e pos) (asgS f (nmG i)) := by
  obtain ⟨t, p, q⟩ := he
  refine ⟨_, ps_set hN hi hx p hs hf, fun σ H σd S ι N hE hS h => ?_⟩
  refine q σ H σd S ι _ hE hS (Wp.run h fun d S1 _ v H1 ι1 p1 r1 h1 => ?_)
  exact h1 _ _ _ (.refl p1.sto) ((hE.mono p1.pre p1.keep).set i r1)
theorem ds_par {i j : Nat} {x y : Str} {px py pt : Pos} {kt k2 pt2} (hc : X.calm = true) (hN : X.N.Nodup) (ha : DA X E [a, b] fs) (hi : X.N[i]? = some x := by rfl) (hj : X.N[j]? = some y := by rfl) (hij : i ≠ j := by decide)
    (hx : X.env.scope.names.lookup x = some .local := by rfl) (hy : X.env.scope.names.lookup y = some .local := by rfl)
    (hw : swappedStores [.Tuple [.Name x px, .Name y py] kt pt] (.Tuple [a, b] k2 pt2) X.env = pure (some [x, y]) := by rfl)
    (hs : swapsWithSole [.Tuple [.Name x px, .Name y py] kt pt] (.Tuple [a, b] k2 pt2) pos.line X.env = pure false := by rfl) :
    DS X E (.Assign [.Tuple [.Name x px, .Name y py] kt pt] (.Tuple [a, b] k2 pt2) pos) (parS [i, j] fs) := by
  obtain ⟨l, t, p, q⟩ := ha
  refine ⟨_, ps_par hc hN hi hj hij hx hy p hw hs, fun σ H σd S ι N hE hS h => ?_⟩
  refine q σ H σd S ι _ hE hS (Wp.run h fun d S1 e1 v H1 ι1 p1 r1 h1 => ?_)
  have hl := l _ _ _ _ e1
  cases r1 with
  | nil => cases hl
  | cons ra rs =>
    cases rs with
    | nil => cases hl
    | cons rb rt =>
      cases rt with
      | cons _ _ => cases hl
      | nil => exact ⟨_, _, rfl, h1 _ _ _ (.refl p1.sto) (((hE.mono p1.pre p1.keep).set i ra).set j rb)⟩
end
end DV

set_option maxHeartbeats 4000000
/-! Loops, comprehensions, what is walked. -/
namespace DV
open PySem PySem.Spec PyProof.Rows L2

/-- J walks the items xs, from the heap H0 on -/
structure WalkR (K : PySem.W.Frag) (H0 : Hp) (J : L2.It) (xs : List D) : Prop where
  len : xs.length ≤ sizeLine
  go : ∀ i H, Keep H0 H → i < xs.length → J.go i H
  stop : ∀ H, Keep H0 H → J.stop xs.length H
  yld : ∀ i H v H' x, Keep H0 H → xs[i]? = some x → J.yld i H v H' → KeepA H H' ∧ (∀ (b : Addr) (vs : MO), H b = some vs.ho → H' b = some vs.ho) ∧ (∀ b, H b ≠ none → H' b ≠ none) ∧ ∀ ι, Rd K ι H' v x
theorem WalkR.keep {K : PySem.W.Frag} {H0 H1 : Hp} {J : L2.It} {xs : List D} (w : WalkR K H0 J xs) (k : Keep H0 H1) : WalkR K H1 J xs :=
  ⟨w.len, fun i H q => w.go i H (k.trans q), fun H q => w.stop H (k.trans q), fun i H v H' x q => w.yld i H v H' x (k.trans q)⟩
def DI (X : Cx) (E : XK) (tg iter : Expr) (f : DV.It) : Prop := ∃ wi, PI X tg iter wi ∧ ∀ σ H σd S ι R, EnR X.K ι H σ σd → StR X.K ι H S → Wp X.K X.mg E ι H (fun _ H' J xs => WalkR X.K H' J xs) (f σd S) R → wi σ H R

section
variable {X : Cx} {E : XK} {k : Nat} {e a b c : Expr} {f g h : Ex} {es : List Expr} {fs : Ax} {pos : Pos}
theorem wipe_wipe (σ : L2.St) (vs : List Nat) : wipe (wipe σ vs) vs = wipe σ vs := by
  apply List.ext_getElem?
  intro j
  by_cases hj : j ∈ vs
  · by_cases hl : j < σ.length
    · rw [wipe_get hj (by rw [wipe_length]; exact hl), wipe_get hj hl]
    · rw [List.getElem?_eq_none (by rw [wipe_length, wipe_length]; omega), List.getElem?_eq_none (by rw [wipe_length]; omega)]
  · rw [wipe_out hj]
theorem drop_cons {α : Type} {xs : List α} {i : Nat} (hi : i < xs.length) : xs.drop i = xs[i] :: xs.drop (i + 1) := List.drop_eq_getElem_cons hi
/-- for target in iter: body -/
theorem ds_for {vs : List Nat} {tg iter : Expr} {body : List Stmt} {it : DV.It} {gg : Tg} {u : Sx} (o : Okx k X E) (hi : DI X E tg iter it) (hg : DG X E vs tg gg) (hb : DSs X E body u) (hs : ∀ x, foldedSetIterable iter X.env x = pure x := by intro _; rfl) :
    DS X E (.For tg iter body [] pos) (forS it gg u) := by
  obtain ⟨wi, p, q⟩ := hi
  obtain ⟨t, pt, qt⟩ := hg
  obtain ⟨tb, pb, qb⟩ := hb
  refine ⟨_, ps_for o.own o.calm p pt pb hs, fun σ H σd S ι N hE hS h => ?_⟩
  refine q σ H σd S ι _ hE hS (Wp.run h fun xs S1 _ J H1 ι1 p1 w h1 => ?_)
  refine ⟨fun i m σ' H' => m = xs.length - i ∧ i ≤ xs.length ∧ Keep H1 H' ∧ ∃ σd' S' ι', EnR X.K ι' H' σ' σd' ∧ StR X.K ι' H' S' ∧ WpF X.K X.mg E ι' H' (forL gg u (xs.drop i) σd' S') N,
    ⟨_, rfl, Nat.zero_le _, .refl _, σd, S1, ι1, hE.mono p1.pre p1.keep, p1.sto, by rw [List.drop_zero]; exact h1⟩, ?_⟩
  rintro i m σ' H' ⟨rfl, hle, kp, σd', S', ι', hE', hS', hw⟩
  by_cases hlt : i < xs.length
  · refine .inr ⟨w.go i H' kp hlt, fun σ2 H2 => i + 1 ≤ xs.length ∧ Keep H1 H2 ∧ ∃ σd' S' ι', EnR X.K ι' H2 σ2 σd' ∧ StR X.K ι' H2 S' ∧ WpF X.K X.mg E ι' H2 (forL gg u (xs.drop (i + 1)) σd' S') N,
      fun σ2 H2 ⟨z1, z2, z3⟩ => ⟨_, by omega, rfl, z1, z2, z3⟩, fun v H2 y => ?_⟩
    obtain ⟨k2, l2, n2, r2⟩ := w.yld i H' v H2 xs[i] kp (List.getElem?_eq_getElem hlt) y
    have pp : Post X.K ι' H' ι' H2 S' := ⟨List.prefix_refl _, k2, hS'.keep k2 l2 n2, fun b vs m q => ⟨l2 b (.lst vs) q, m⟩, n2⟩
    rw [drop_cons hlt] at hw
    have hw2 := WpF.re pp hw
    unfold forL at hw2
    refine qt v xs[i] σ' H2 σd' S' ι' _ (hE'.mono (List.prefix_refl _) k2) pp.sto (r2 ι') ?_
    cases hgx : gg xs[i] σd' S' with
    | no => rw [hgx] at hw2; exact hw2.elim
    | ex c S3 => rw [hgx] at hw2; exact hw2
    | ok σd3 S3 =>
      rw [hgx] at hw2
      intro σ3 H3 ι3 p3 r3
      refine qb σ3 H3 σd3 S3 ι3 _ r3.1 p3.sto ?_
      have hw3 := WpF.re p3 hw2
      simp only at hw3
      have nxt : ∀ σd4 S4, WpF X.K X.mg E ι3 H3 (forL gg u (xs.drop (i + 1)) σd4 S4) N → ∀ σ4 H4 ι4, Post X.K ι3 H3 ι4 H4 S4 → EnR X.K ι4 H4 σ4 σd4 →
          i + 1 ≤ xs.length ∧ Keep H1 H4 ∧ ∃ σd' S' ι', EnR X.K ι' H4 σ4 σd' ∧ StR X.K ι' H4 S' ∧ WpF X.K X.mg E ι' H4 (forL gg u (xs.drop (i + 1)) σd' S') N := fun σd4 S4 hz σ4 H4 ι4 p4 r4 =>
        ⟨hlt, ((kp.trans k2).trans p3.keep).trans p4.keep, σd4, S4, ι4, r4, p4.sto, WpF.re p4 hz⟩
      cases hu : u σd3 S3 with
      | nx σd4 S4 => rw [hu] at hw3; exact nxt _ _ hw3
      | ct σd4 S4 => rw [hu] at hw3; exact nxt _ _ hw3
      | bk σd4 S4 => rw [hu] at hw3; exact hw3
      | rt d S4 => rw [hu] at hw3; exact hw3
      | ex c S4 => rw [hu] at hw3; exact hw3
      | no => rw [hu] at hw3; exact hw3.elim
  · have hi : i = xs.length := by omega
    subst hi
    refine .inl ⟨w.stop H' kp, ?_⟩
    rw [List.drop_length] at hw
    exact hw _ _ _ (.refl hS') hE'
/-! ### comprehensions -/
/-- the tests of a comprehension -/
def DTs (X : Cx) (E : XK) (es : List Expr) (f : Tx) : Prop := ∃ t, PTs X es t ∧ ∀ σ H σd S ι Q, EnR X.K ι H σ σd → StR X.K ι H S → Wp X.K X.mg E ι H relB (f σd S) Q → t σ H Q
theorem dts_nil : DTs X E [] yesT := ⟨_, pts_nil, fun σ H σd S ι Q hE hS h => h _ _ _ (.refl hS) rfl⟩
theorem dts_one {ft : Tx} (h : DT X E c ft) : DTs X E [c] ft := by
  obtain ⟨t, p, q⟩ := h
  exact ⟨_, pts_one p, q⟩
theorem wipe_rel {K : PySem.W.Frag} {ι : List Addr} {H : Hp} {σ : L2.St} {σd : En} (h : EnR K ι H σ σd) : ∀ vs : List Nat, EnR K ι H (wipe σ vs) (wipeD σd vs)
  | [] => h
  | v :: vs => by
    have ih := wipe_rel h vs
    unfold wipe wipeD
    refine ⟨by rw [List.length_set, List.length_set, ih.len], fun j d e => ?_⟩
    by_cases hj : v = j
    · subst hj
      by_cases hl : v < (wipeD σd vs).length
      · rw [List.getElem?_set_self hl] at e; cases e
      · rw [List.getElem?_eq_none (by rw [List.length_set]; omega)] at e; cases e
    · rw [List.getElem?_set_ne hj] at e ⊢
      exact ih.at_ j d e
/-- one reading for every frame of a block -/
theorem uni_e {e : Expr} {f : Ex} {scope : Scope} (h : ∀ (s : Shared) (H : Hp) (C : Addr) (cl : List (Str × Addr)) (fp : List Addr), DE (X.blk s H scope (compEnvC scope cl C X.env) fp) E0 e f) :
    ∃ t, (∀ (s : Shared) (H : Hp) (C : Addr) (cl : List (Str × Addr)) (fp : List Addr), PE (X.blk s H scope (compEnvC scope cl C X.env) fp) e t) ∧
      ∀ σ H σd S ι Q, EnR X.K ι H σ σd → StR X.K ι H S → Wp X.K X.mg E0 ι H (relD X.K) (f σd S) Q → t σ H Q := by
  refine ⟨fun σ H Q => ∀ (s : Shared) (H1 : Hp) (C : Addr) (cl : List (Str × Addr)) (fp : List Addr), Classical.choose (h s H1 C cl fp) σ H Q, fun s H1 C cl fp => ?_, fun σ H σd S ι Q hE hS hw s H1 C cl fp => ?_⟩
  · exact ⟨fun pins s2 σ H Q I hq => (Classical.choose_spec (h s H1 C cl fp)).1.run pins s2 σ H Q I (hq s H1 C cl fp)⟩
  · exact (Classical.choose_spec (h s H1 C cl fp)).2 σ H σd S ι Q hE hS hw
theorem uni_t {es : List Expr} {f : Tx} {scope : Scope} (h : ∀ (s : Shared) (H : Hp) (C : Addr) (cl : List (Str × Addr)) (fp : List Addr), DTs (X.blk s H scope (compEnvC scope cl C X.env) fp) E0 es f) :
    ∃ t, (∀ (s : Shared) (H : Hp) (C : Addr) (cl : List (Str × Addr)) (fp : List Addr), PTs (X.blk s H scope (compEnvC scope cl C X.env) fp) es t) ∧
      ∀ σ H σd S ι Q, EnR X.K ι H σ σd → StR X.K ι H S → Wp X.K X.mg E0 ι H relB (f σd S) Q → t σ H Q := by
  refine ⟨fun σ H Q => ∀ (s : Shared) (H1 : Hp) (C : Addr) (cl : List (Str × Addr)) (fp : List Addr), Classical.choose (h s H1 C cl fp) σ H Q, fun s H1 C cl fp => ?_, fun σ H σd S ι Q hE hS hw s H1 C cl fp => ?_⟩
  · exact ⟨fun pins s2 σ H Q I hq => (Classical.choose_spec (h s H1 C cl fp)).1.run pins s2 σ H Q I (hq s H1 C cl fp)⟩
  · exact (Classical.choose_spec (h s H1 C cl fp)).2 σ H σd S ι Q hE hS hw
theorem uni_g {vs : List Nat} {tg : Expr} {g : Tg} {scope : Scope} (h : ∀ (s : Shared) (H : Hp) (C : Addr) (cl : List (Str × Addr)) (fp : List Addr), DG (X.blk s H scope (compEnvC scope cl C X.env) fp) E0 vs tg g) :
    ∃ t, (∀ (s : Shared) (H : Hp) (C : Addr) (cl : List (Str × Addr)) (fp : List Addr), PG (X.blk s H scope (compEnvC scope cl C X.env) fp) tg t) ∧
      ∀ v d σ H σd S ι Q, EnR X.K ι H σ σd → StR X.K ι H S → Rd X.K ι H v d → Wp X.K X.mg E0 ι H (fun ι' H' σ' σd' => EnR X.K ι' H' σ' σd' ∧ wipe σ' vs = wipe σ vs) (g d σd S) Q → t v σ H Q := by
  refine ⟨fun v σ H Q => ∀ (s : Shared) (H1 : Hp) (C : Addr) (cl : List (Str × Addr)) (fp : List Addr), Classical.choose (h s H1 C cl fp) v σ H Q, fun s H1 C cl fp => ?_, fun v d σ H σd S ι Q hE hS r hw s H1 C cl fp => ?_⟩
  · exact ⟨fun pins s2 σ H v u Q I rv hq => (Classical.choose_spec (h s H1 C cl fp)).1.run pins s2 σ H v u Q I rv (hq s H1 C cl fp)⟩
  · exact (Classical.choose_spec (h s H1 C cl fp)).2 v d σ H σd S ι Q hE hS r hw
/-- the reading of a comprehension -/
theorem lc_read {wi : TI} {g : TG} {tt : TT} {te : TE} {vs : List Nat} {it : DV.It} {gg : Tg} {ft : Tx} {fe : Ex}
    (q : ∀ σ H σd S ι R, EnR X.K ι H σ σd → StR X.K ι H S → Wp X.K X.mg E ι H (fun _ H' J xs => WalkR X.K H' J xs) (it σd S) R → wi σ H R)
    (qg : ∀ v d σ H σd S ι Q, EnR X.K ι H σ σd → StR X.K ι H S → Rd X.K ι H v d → Wp X.K X.mg E0 ι H (fun ι' H' σ' σd' => EnR X.K ι' H' σ' σd' ∧ wipe σ' vs = wipe σ vs) (gg d σd S) Q → g v σ H Q)
    (qt : ∀ σ H σd S ι Q, EnR X.K ι H σ σd → StR X.K ι H S → Wp X.K X.mg E0 ι H relB (ft σd S) Q → tt σ H Q)
    (qe : ∀ σ H σd S ι Q, EnR X.K ι H σ σd → StR X.K ι H S → Wp X.K X.mg E0 ι H (relD X.K) (fe σd S) Q → te σ H Q)
    {σ : L2.St} {H : Hp} {σd : En} {S : Sto} {ι : List Addr} {Q : VK} (hE : EnR X.K ι H σ σd) (hS : StR X.K ι H S) (h : Wp X.K X.mg E ι H (relL X.K H) (lcX it vs gg ft fe σd S) Q) : tLc wi g tt te vs σ H Q := by
  refine q σ H σd S ι _ hE hS (Wp.bind0 h fun xs S1 _ J H1 ι1 p1 w h1 => ?_)
  intro Dl hD
  have hD0 : H Dl = none := by
    cases q0 : H Dl with
    | none => rfl
    | some u => exact absurd hD (p1.dom Dl (by rw [q0]; simp))
  have p2 : Post X.K ι H ι1 (upd H1 Dl (.lst [])) S1 := p1.trans (.new p1.sto hD)
  refine ⟨fun i m H' => m = xs.length - i ∧ i ≤ xs.length ∧ Keep H1 H' ∧ ∃ ws ds S' ι', Post X.K ι H ι' H' S' ∧ H' Dl = some (.lst ws) ∧ Dl ∉ ι' ∧ ws.length ≤ i ∧ RdAll X.K ι' H' ws ds ∧
      Wp X.K X.mg E ι H (relL X.K H) ((lcL gg ft fe (wipeD σd vs) (xs.drop i) S').bind fun es S4 => .ok (ds ++ es) S4) Q,
    ⟨_, rfl, Nat.zero_le _, .new hD, [], [], S1, ι1, p2, upd_same, p1.sto.notin hD, Nat.le_refl _, .nil, ?_⟩, ?_⟩
  · rw [List.drop_zero]
    cases hl : lcL gg ft fe (wipeD σd vs) xs S1 <;> (rw [hl] at h1; exact h1)
  rintro i m H' ⟨rfl, hle, kp, ws, ds, S', ι', pp, hDl, hn, hlen, rr, hw⟩
  by_cases hlt : i < xs.length
  · refine .inr ⟨w.go i H' kp hlt, fun H2 => i + 1 ≤ xs.length ∧ Keep H1 H2 ∧ ∃ ws ds S' ι', Post X.K ι H ι' H2 S' ∧ H2 Dl = some (.lst ws) ∧ Dl ∉ ι' ∧ ws.length ≤ i + 1 ∧ RdAll X.K ι' H2 ws ds ∧
        Wp X.K X.mg E ι H (relL X.K H) ((lcL gg ft fe (wipeD σd vs) (xs.drop (i + 1)) S').bind fun es S4 => .ok (ds ++ es) S4) Q,
      fun H2 ⟨z1, z2, z3⟩ => ⟨_, by omega, rfl, z1, z2, z3⟩, fun v H2 y => ?_⟩
    obtain ⟨k2, l2, n2, r2⟩ := w.yld i H' v H2 xs[i] kp (List.getElem?_eq_getElem hlt) y
    have p3 : Post X.K ι' H' ι' H2 S' := ⟨List.prefix_refl _, k2, pp.sto.keep k2 l2 n2, fun b vs m q => ⟨l2 b (.lst vs) q, m⟩, n2⟩
    have pp2 := pp.trans p3
    rw [drop_cons hlt] at hw
    unfold lcL at hw
    refine qg v xs[i] _ H2 (wipeD σd vs) S' ι' _ (wipe_rel (hE.mono pp2.pre pp2.keep) vs) pp2.sto (r2 ι') ?_
    cases hgx : gg xs[i] (wipeD σd vs) S' with
    | no => rw [hgx] at hw; exact hw.elim
    | ex c S3 => rw [hgx] at hw; exact hw.elim
    | ok σd3 S3 =>
      rw [hgx] at hw
      intro σ3 H3 ι3 p4 r4
      refine ⟨r4.2.trans (wipe_wipe σ vs), ?_⟩
      have pp3 := pp2.trans p4
      refine qt σ3 H3 σd3 S3 ι3 _ r4.1 p4.sto ?_
      simp only at hw
      cases hft : ft σd3 S3 with
      | no => rw [hft] at hw; exact hw.elim
      | ex c S3 => rw [hft] at hw; exact hw.elim
      | ok kk S4 =>
        rw [hft] at hw
        intro bb H4 ι4 p5 r5
        cases r5
        have pp4 := pp3.trans p5
        have dl4 := (p3.trans p4).trans p5
        have hD4 := dl4.frame Dl ws hn hDl
        simp only at hw
        cases kk with
        | false =>
          rw [if_neg Bool.false_ne_true] at hw ⊢
          exact ⟨hlt, (kp.trans dl4.keep), ws, ds, S4, ι4, pp4, hD4.1, hD4.2, by omega, rr.mono dl4.pre dl4.keep, hw⟩
        | true =>
          rw [if_pos rfl] at hw ⊢
          refine qe σ3 H4 σd3 S4 ι4 _ (r4.1.mono p5.pre p5.keep) p5.sto ?_
          cases hfe : fe σd3 S4 with
          | no => rw [hfe] at hw; exact hw.elim
          | ex c S3 => rw [hfe] at hw; exact hw.elim
          | ok d S5 =>
            rw [hfe] at hw
            intro y H5 ι5 p6 r6
            have pp5 := pp4.trans p6
            have dl5 := dl4.trans p6
            have hD5 := dl5.frame Dl ws hn hDl
            have hz := w.len
            refine ⟨ws, hD5.1, by omega, hlt, (kp.trans dl5.keep).trans (.list hD5.1), ws ++ [y], ds ++ [d], S5, ι5, pp5.fixNew hD5.1 hD5.2 hD0, upd_same, hD5.2, by rw [List.length_append]; show ws.length + 1 ≤ _; omega, ?_, ?_⟩
            · exact Paired.app (RdAll.mono (List.prefix_refl _) (.list hD5.1) (rr.mono dl5.pre dl5.keep)) (.cons (r6.mono (List.prefix_refl _) (.list hD5.1)) .nil)
            · simp only at hw
              cases hl : lcL gg ft fe (wipeD σd vs) (xs.drop (i + 1)) S5 with
              | no => rw [hl] at hw; exact hw
              | ex c S6 => rw [hl] at hw; exact hw
              | ok es S6 =>
                rw [hl] at hw
                simp only [bind_ok] at hw ⊢
                rw [List.append_assoc]
                exact hw
  · have hi : i = xs.length := by omega
    subst hi
    refine .inl ⟨w.stop H' kp, ?_⟩
    rw [List.drop_length] at hw
    simp only [lcL, bind_ok, List.append_nil] at hw
    exact hw _ _ _ pp ⟨Dl, ws, hD0, rfl, hDl, hn, Nat.le_trans hlen w.len, rr⟩
end
end DV

set_option maxHeartbeats 4000000
/-! Comprehensions as expressions, lists fixed, what is walked. -/
namespace DV
open PySem PySem.Spec PyProof.Rows L2
section
variable {X : Cx} {E : XK} {k : Nat} {e a b c : Expr} {f g h : Ex} {es : List Expr} {fs : Ax} {pos : Pos}
theorem dl_lc {elt tg iter : Expr} {ifs : List Expr} {scope : Scope} (own : List (Str × Nat)) {it : DV.It} {gg : Tg} {ft : Tx} {fe : Ex} (o : Okx k X E) (hi : DI X E tg iter it)
    (hg : ∀ (s : Shared) (H : Hp) (C : Addr) (cl : List (Str × Addr)) (fp : List Addr), Okx k (X.blk s H scope (compEnvC scope cl C X.env) fp) E0 → DG (X.blk s H scope (compEnvC scope cl C X.env) fp) E0 (own.map (·.2)) tg gg)
    (ht : ∀ (s : Shared) (H : Hp) (C : Addr) (cl : List (Str × Addr)) (fp : List Addr), Okx k (X.blk s H scope (compEnvC scope cl C X.env) fp) E0 → DTs (X.blk s H scope (compEnvC scope cl C X.env) fp) E0 ifs ft)
    (he : ∀ (s : Shared) (H : Hp) (C : Addr) (cl : List (Str × Addr)) (fp : List Addr), Okx k (X.blk s H scope (compEnvC scope cl C X.env) fp) E0 → DE (X.blk s H scope (compEnvC scope cl C X.env) fp) E0 elt fe)
    (ok : BlkOk X.N X.env.scope scope own := by exact blkOk_by (by rfl)) (hs : ∀ x, foldedSetIterable iter X.env x = pure x := by intro _; rfl) :
    DL X E (.ListComp elt [⟨tg, iter, ifs, 0⟩] scope pos) (lcX it (own.map (·.2)) gg ft fe) := by
  obtain ⟨wi, p, q⟩ := hi
  obtain ⟨tg', pg, qg⟩ := uni_g fun s H C cl fp => hg s H C cl fp (o.blk s H scope _ fp)
  obtain ⟨tt, pt, qt⟩ := uni_t fun s H C cl fp => ht s H C cl fp (o.blk s H scope _ fp)
  obtain ⟨te, pe, qe⟩ := uni_e fun s H C cl fp => he s H C cl fp (o.blk s H scope _ fp)
  exact ⟨_, pe_lc o.calm o.nd p ok pg pt pe hs, fun σ H σd S ι Q hE hS h => lc_read q qg qt qe hE hS h⟩
/-- name = [..] on one line, fixed or not -/
def tFzS (t : TS) : TS := fun N σ H => t { N with nx := fun σ' H' => ∃ a xs, H' a = some (.lst xs) ∧ ∀ o, N.nx σ' (upd H' a (.frz o (.lst xs))) } σ H
theorem ps_frz {st : Stmt} {t : TS} (p : PS X st t) : PS X st (tFzS t) := by
  refine ⟨fun pins s σ H N I h => thn (p.run pins s σ H _ I h) fun fl s1 q => ?_⟩
  cases fl with
  | next =>
    obtain ⟨σ', H', I1, a, xs, ha, q⟩ := q
    obtain ⟨o, I2⟩ := I1.lock ha trivial
    exact ⟨σ', _, I2, q o⟩
  | brk => exact q
  | cont => exact q
  | ret v => exact q
theorem ds_setLcF (i : Nat) {y : Str} {py spos : Pos} {elt tg iter : Expr} {ifs : List Expr} {scope : Scope} (own : List (Str × Nat)) {it : DV.It} {gg : Tg} {ft : Tx} {fe : Ex} (o : Okx k X E) (hi : DI X E tg iter it)
    (hg : ∀ (s : Shared) (H : Hp) (C : Addr) (cl : List (Str × Addr)) (fp : List Addr), Okx k (X.blk s H scope (compEnvC scope cl C X.env) fp) E0 → DG (X.blk s H scope (compEnvC scope cl C X.env) fp) E0 (own.map (·.2)) tg gg)
    (ht : ∀ (s : Shared) (H : Hp) (C : Addr) (cl : List (Str × Addr)) (fp : List Addr), Okx k (X.blk s H scope (compEnvC scope cl C X.env) fp) E0 → DTs (X.blk s H scope (compEnvC scope cl C X.env) fp) E0 ifs ft)
    (he : ∀ (s : Shared) (H : Hp) (C : Addr) (cl : List (Str × Addr)) (fp : List Addr), Okx k (X.blk s H scope (compEnvC scope cl C X.env) fp) E0 → DE (X.blk s H scope (compEnvC scope cl C X.env) fp) E0 elt fe)
    (hy : X.N[i]? = some y := by rfl) (hyl : X.env.scope.names.lookup y = some .local := by rfl)
    (hsw : swapsWith (.ListComp elt [⟨tg, iter, ifs, 0⟩] scope pos) (some (.Name y py)) spos.line X.env = pure true := by exact sw_true rfl rfl rfl (by decide +kernel))
    (ok : BlkOk X.N X.env.scope scope own := by exact blkOk_by (by rfl)) (hs : ∀ x, foldedSetIterable iter X.env x = pure x := by intro _; rfl) :
    DS X E (.Assign [.Name y py] (.ListComp elt [⟨tg, iter, ifs, 0⟩] scope pos) spos) (asgS (lcF it (own.map (·.2)) gg ft fe) (nmG i)) := by
  obtain ⟨wi, p, q⟩ := hi
  obtain ⟨tg', pg, qg⟩ := uni_g fun s H C cl fp => hg s H C cl fp (o.blk s H scope _ fp)
  obtain ⟨tt, pt, qt⟩ := uni_t fun s H C cl fp => ht s H C cl fp (o.blk s H scope _ fp)
  obtain ⟨te, pe, qe⟩ := uni_e fun s H C cl fp => he s H C cl fp (o.blk s H scope _ fp)
  refine ⟨_, ps_frz (ps_setLc o.calm o.nd hy hyl hsw p ok pg pt pe hs), fun σ H σd S ι N hE hS h => ?_⟩
  refine (lc_read q qg qt qe hE hS ?_ : tLc wi tg' tt te (own.map (·.2)) σ H (fun x H1 => ∃ a xs, H1 a = some (.lst xs) ∧ ∀ o, N.nx (σ.set i (some x)) (upd H1 a (.frz o (.lst xs)))))
  unfold asgS lcF frzE at h
  cases hl : lcX it (own.map (·.2)) gg ft fe σd S with
  | no => rw [hl] at h; exact h.elim
  | ex c S1 => rw [hl] at h; exact h
  | ok ds S1 =>
    rw [hl] at h
    intro v H1 ι1 p1 r1
    cases hp : pysOf ds with
    | none => simp only [frz, bind_ok, hp, run_no] at h; exact h.elim
    | some ps =>
      simp only [frz, bind_ok, hp, run_ok, nmG] at h
      obtain ⟨a, xs, rfl, ha, z⟩ := frz_post p1 r1 hp
      refine ⟨a, xs, ha, fun o => h _ _ _ (z o).1 ?_⟩
      exact (hE.mono p1.pre (z o).1.keep).set i (.py (z o).2)
theorem ds_setLcM (i : Nat) {y : Str} {py spos : Pos} {elt tg iter : Expr} {ifs : List Expr} {scope : Scope} (own : List (Str × Nat)) {it : DV.It} {gg : Tg} {ft : Tx} {fe : Ex} (o : Okx k X E) (hi : DI X E tg iter it)
    (hg : ∀ (s : Shared) (H : Hp) (C : Addr) (cl : List (Str × Addr)) (fp : List Addr), Okx k (X.blk s H scope (compEnvC scope cl C X.env) fp) E0 → DG (X.blk s H scope (compEnvC scope cl C X.env) fp) E0 (own.map (·.2)) tg gg)
    (ht : ∀ (s : Shared) (H : Hp) (C : Addr) (cl : List (Str × Addr)) (fp : List Addr), Okx k (X.blk s H scope (compEnvC scope cl C X.env) fp) E0 → DTs (X.blk s H scope (compEnvC scope cl C X.env) fp) E0 ifs ft)
    (he : ∀ (s : Shared) (H : Hp) (C : Addr) (cl : List (Str × Addr)) (fp : List Addr), Okx k (X.blk s H scope (compEnvC scope cl C X.env) fp) E0 → DE (X.blk s H scope (compEnvC scope cl C X.env) fp) E0 elt fe)
    (hy : X.N[i]? = some y := by rfl) (hyl : X.env.scope.names.lookup y = some .local := by rfl)
    (hsw : swapsWith (.ListComp elt [⟨tg, iter, ifs, 0⟩] scope pos) (some (.Name y py)) spos.line X.env = pure true := by exact sw_true rfl rfl rfl (by decide +kernel))
    (ok : BlkOk X.N X.env.scope scope own := by exact blkOk_by (by rfl)) (hs : ∀ x, foldedSetIterable iter X.env x = pure x := by intro _; rfl) :
    DS X E (.Assign [.Name y py] (.ListComp elt [⟨tg, iter, ifs, 0⟩] scope pos) spos) (asgS (lcM it (own.map (·.2)) gg ft fe) (nmG i)) := by
  obtain ⟨wi, p, q⟩ := hi
  obtain ⟨tg', pg, qg⟩ := uni_g fun s H C cl fp => hg s H C cl fp (o.blk s H scope _ fp)
  obtain ⟨tt, pt, qt⟩ := uni_t fun s H C cl fp => ht s H C cl fp (o.blk s H scope _ fp)
  obtain ⟨te, pe, qe⟩ := uni_e fun s H C cl fp => he s H C cl fp (o.blk s H scope _ fp)
  refine ⟨_, ps_setLc o.calm o.nd hy hyl hsw p ok pg pt pe hs, fun σ H σd S ι N hE hS h => ?_⟩
  refine (lc_read q qg qt qe hE hS ?_ : tLc wi tg' tt te (own.map (·.2)) σ H (fun x H1 => N.nx (σ.set i (some x)) H1))
  unfold asgS lcM thwE at h
  cases hl : lcX it (own.map (·.2)) gg ft fe σd S with
  | no => rw [hl] at h; exact h.elim
  | ex c S1 => rw [hl] at h; exact h
  | ok ds S1 =>
    rw [hl] at h
    intro v H1 ι1 p1 r1
    simp only [thw, bind_ok, run_ok, nmG] at h
    obtain ⟨ι2, p2, r2⟩ := thw_post p1 r1
    exact h _ _ _ p2 ((hE.mono p2.pre p2.keep).set i r2)

theorem EnR.setD {K : PySem.W.Frag} {ι : List Addr} {H : Hp} {σ : L2.St} {σd : En} {v : V} {d : D} {i : Nat} (h : EnR K ι H σ σd) (e : σ[i]? = some (some v)) (r : Rd K ι H v d) : EnR K ι H σ (σd.set i (some d)) := by
  refine ⟨by rw [List.length_set, h.len], fun j d' e' => ?_⟩
  by_cases hj : i = j
  · subst hj
    have hlt : i < σd.length := by
      have := (List.getElem?_eq_some_iff.mp e').1
      simpa using this
    rw [List.getElem?_set_self hlt] at e'
    cases e'
    exact ⟨v, e, r⟩
  · rw [List.getElem?_set_ne hj] at e'
    exact h.at_ j d' e'

/-! ### a list of a slot is fixed -/
def tFix (t : TS) : TS := fun N σ H => ∃ a xs, H a = some (.lst xs) ∧ (xs.length ≤ sizeLine → ∀ o, t N σ (upd H a (.frz o (.lst xs))))
theorem pss_fix {sts : List Stmt} {t : TS} (p : PSs X sts t) : PSs X sts (tFix t) := by
  refine ⟨fun pins s σ H N I ⟨a, xs, ha, h⟩ => ?_⟩
  obtain ⟨o, I2⟩ := I.lock ha trivial
  exact p.run pins s σ _ N I2 (h (I.hok a _ ha).1 o)
theorem fix_post {ι : List Addr} {H : Hp} {S : Sto} {n : Nat} {a : Addr} {vs : List V} {o : HO} (hS : StR X.K ι H S) (e : ι[n]? = some a) (ha : H a = some (.lst vs)) : Post X.K ι H ι (upd H a o) (S.set n .gone) :=
  .wr e ha (hS.fix e ha)
theorem dss_fix {sts : List Stmt} {w : Sx} (i : Nat) (h : DSs X E sts w) : DSs X E sts (seqS (fixS i) w) := by
  obtain ⟨t, p, q⟩ := h
  refine ⟨_, pss_fix p, fun σ H σd S ι N hE hS h => ?_⟩
  unfold seqS fixS at h
  cases hi : σd[i]? with
  | none => rw [hi] at h; exact h.elim
  | some od =>
    cases od with
    | none => rw [hi] at h; exact h.elim
    | some d =>
      cases d with
      | py d => rw [hi] at h; exact h.elim
      | raw d => rw [hi] at h; exact h.elim
      | obj n =>
        rw [hi] at h
        simp only at h
        cases hn : S[n]? with
        | none => rw [hn] at h; exact h.elim
        | some u =>
          cases u with
          | gone => rw [hn] at h; exact h.elim
          | tab _ _ => rw [hn] at h; exact h.elim
          | dt _ => rw [hn] at h; exact h.elim
          | dk _ => rw [hn] at h; exact h.elim
          | ins _ _ => rw [hn] at h; exact h.elim
          | tpl _ => rw [hn] at h; exact h.elim
          | lst ds =>
            rw [hn] at h
            simp only at h
            cases hp : pysOf ds with
            | none => rw [hp] at h; exact h.elim
            | some ps =>
              rw [hp] at h
              simp only at h
              obtain ⟨v, e1, r⟩ := hE.at_ i _ hi
              cases r with
              | obj en =>
                rename_i a
                cases hS.at_ _ _ _ hn en with
                | lst ha rr =>
                  rename_i vs
                  refine ⟨a, vs, ha, fun hz o => ?_⟩
                  have pp := fix_post (X := X) (o := .frz o (.lst vs)) hS en ha
                  refine q σ _ _ _ ι N ((hE.mono pp.pre pp.keep).setD e1 (.py (.lst (.inl ⟨o, upd_same⟩) ?_ ?_))) pp.sto (WpF.re pp h)
                  · rw [pysOf_length hp, ← rr.length]
                    exact hz
                  · exact (RdAll.pys rr hp).keep pp.keep
/-- .. with the lists within -/
def tFixN : Nat → TS → TS
  | 0, t => t
  | n + 1, t => tFix (tFixN n t)
theorem pss_fixN {sts : List Stmt} {t : TS} (p : PSs X sts t) : ∀ n, PSs X sts (tFixN n t)
  | 0 => p
  | n + 1 => pss_fix (pss_fixN p n)
/-- a number of lists is fixed, as many as wanted -/
def tFixA (t : TS) : TS := fun N σ H => ∃ n, tFixN n t N σ H
theorem pss_fixA {sts : List Stmt} {t : TS} (p : PSs X sts t) : PSs X sts (tFixA t) := ⟨fun pins s σ H N I ⟨n, h⟩ => (pss_fixN p n).run pins s σ H N I h⟩
def cntO : List D → Nat
  | [] => 0
  | .py _ :: ds => cntO ds
  | .obj _ :: ds => cntO ds + 1
  | .raw _ :: ds => cntO ds
theorem fixL_read {t : TS} {N : Ends} {σ : L2.St} : ∀ {ds : List D} {vs : List V} {ps : List PyData} {S S1 : Sto} {ι : List Addr} {H : Hp}, fixL S ds = some (ps, S1) → StR X.K ι H S → RdAll X.K ι H vs ds →
    (∀ H', Post X.K ι H ι H' S1 → PpAll X.K H' vs ps → t N σ H') → tFixN (cntO ds) t N σ H
  | [], vs, ps, S, S1, ι, H, hf, hS, rr, q => by
    cases rr
    cases hf
    exact q H (.refl hS) .nil
  | .py p :: ds, vs, ps, S, S1, ι, H, hf, hS, rr, q => by
    cases rr with
    | cons r rs =>
      simp only [fixL, Option.map_eq_some_iff] at hf
      obtain ⟨⟨ps', S'⟩, h1, h2⟩ := hf
      cases h2
      show tFixN (cntO ds) t N σ H
      refine fixL_read h1 hS rs fun H' pp al => q H' pp (.cons ?_ al)
      cases r with
      | py r => exact r.keep pp.keep
  | .raw n :: ds, vs, ps, S, S1, ι, H, hf, hS, rr, q => by cases hf
  | .obj n :: ds, vs, ps, S, S1, ι, H, hf, hS, rr, q => by
    cases rr with
    | cons r rs =>
      simp only [fixL] at hf
      split at hf
      · rename_i es he
        split at hf
        · rename_i qs hq
          rw [Option.map_eq_some_iff] at hf
          obtain ⟨⟨ps', S'⟩, h1, h2⟩ := hf
          cases h2
          cases r with
          | obj en =>
            rename_i a
            cases hS.at_ _ _ _ he en with
            | lst ha r2 =>
              rename_i ws
              refine ⟨a, ws, ha, fun hz o => ?_⟩
              have pp := fix_post (X := X) (o := .frz o (.lst ws)) hS en ha
              refine fixL_read h1 pp.sto (RdAll.mono pp.pre pp.keep rs) fun H' pp2 al => q H' (pp.trans pp2) (.cons ?_ al)
              refine Pp.keep pp2.keep (.lst (.inl ⟨o, upd_same⟩) ?_ ?_)
              · rw [pysOf_length hq, ← r2.length]
                exact hz
              · exact (RdAll.pys r2 hq).keep pp.keep
        · cases hf
      · cases hf
theorem fixL_len : ∀ {ds : List D} {ps : List PyData} {S S1 : Sto}, fixL S ds = some (ps, S1) → ps.length = ds.length
  | [], _, _, _, h => by cases h; rfl
  | .py p :: ds, _, _, _, h => by
    simp only [fixL, Option.map_eq_some_iff] at h
    obtain ⟨⟨ps', S'⟩, h1, h2⟩ := h
    cases h2
    simp only [List.length_cons, fixL_len h1]
  | .obj n :: ds, _, S, _, h => by
    simp only [fixL] at h
    split at h
    · split at h
      · rw [Option.map_eq_some_iff] at h
        obtain ⟨⟨ps', S'⟩, h1, h2⟩ := h
        cases h2
        simp only [List.length_cons, fixL_len h1]
      · cases h
    · cases h
theorem dss_fix2 {sts : List Stmt} {w : Sx} (i : Nat) (h : DSs X E sts w) : DSs X E sts (seqS (fix2S i) w) := by
  obtain ⟨t, p, q⟩ := h
  refine ⟨_, pss_fixA p, fun σ H σd S ι N hE hS h => ?_⟩
  unfold seqS fix2S at h
  cases hi : σd[i]? with
  | none => rw [hi] at h; exact h.elim
  | some od =>
    cases od with
    | none => rw [hi] at h; exact h.elim
    | some d =>
      cases d with
      | py d => rw [hi] at h; exact h.elim
      | raw d => rw [hi] at h; exact h.elim
      | obj n =>
        rw [hi] at h
        simp only at h
        cases hn : S[n]? with
        | none => rw [hn] at h; exact h.elim
        | some u =>
          cases u with
          | gone => rw [hn] at h; exact h.elim
          | tab _ _ => rw [hn] at h; exact h.elim
          | dt _ => rw [hn] at h; exact h.elim
          | dk _ => rw [hn] at h; exact h.elim
          | ins _ _ => rw [hn] at h; exact h.elim
          | tpl _ => rw [hn] at h; exact h.elim
          | lst ds =>
            rw [hn] at h
            simp only at h
            cases hp : fixL (S.set n .gone) ds with
            | none => rw [hp] at h; exact h.elim
            | some r =>
              obtain ⟨ps, S1⟩ := r
              rw [hp] at h
              simp only at h
              obtain ⟨v, e1, r⟩ := hE.at_ i _ hi
              cases r with
              | obj en =>
                rename_i a
                cases hS.at_ _ _ _ hn en with
                | lst ha rr =>
                  rename_i vs
                  refine ⟨cntO ds + 1, a, vs, ha, fun hz o => ?_⟩
                  have pp := fix_post (X := X) (o := .frz o (.lst vs)) hS en ha
                  refine fixL_read hp pp.sto (RdAll.mono pp.pre pp.keep rr) fun H' pp2 al => ?_
                  refine q σ H' _ S1 ι N (((hE.mono pp.pre pp.keep).mono pp2.pre pp2.keep).setD e1 (.py (.lst (.inl ⟨o, pp2.keep.frzs _ _ _ upd_same⟩) ?_ al))) pp2.sto (WpF.re (pp.trans pp2) h)
                  rw [fixL_len hp, ← rr.length]
                  exact hz

/-! ### what is walked -/
theorem pi_or {tg iter : Expr} {w1 w2 : TI} (h1 : PI X tg iter w1) (h2 : PI X tg iter w2) : PI X tg iter (fun σ H R => w1 σ H R ∨ w2 σ H R) :=
  ⟨fun pins s σ H R I h => h.elim (fun h => h1.run pins s σ H R I h) fun h => h2.run pins s σ H R I h⟩
theorem get_pys {ds : List PyData} {i : Nat} {x : D} (h : (ds.map D.py)[i]? = some x) : ∃ d, ds[i]? = some d ∧ x = .py d := by
  rw [List.getElem?_map, Option.map_eq_some_iff] at h
  obtain ⟨d, h1, h2⟩ := h
  exact ⟨d, h1, h2.symm⟩
theorem PpAll.getR {K : PySem.W.Frag} {H : Hp} : ∀ {vs : List V} {ds : List PyData} {i : Nat} {d : PyData}, PpAll K H vs ds → ds[i]? = some d → ∃ v, vs[i]? = some v ∧ Pp K H v d
  | _, _, _, _, .nil, e => by simp at e
  | _, _, 0, _, .cons r _, e => by simp at e; subst e; exact ⟨_, rfl, r⟩
  | _, _, i + 1, y, .cons r t, e => by
    obtain ⟨x, h1, h2⟩ := PpAll.getR (i := i) t (by simpa using e)
    exact ⟨x, by simpa using h1, h2⟩
theorem walk_list {K : PySem.W.Frag} {H0 : Hp} {a : Addr} {xs : List V} {ds : List PyData} (hf : FL K H0 a xs) (hz : ds.length ≤ sizeLine) (al : PpAll K H0 xs ds) : WalkR K H0 (Itl K a) (ds.map D.py) := by
  have hl := al.length
  refine ⟨by rw [List.length_map]; exact hz, fun i H kp hi => ?_, fun H kp => ?_, fun i H v H' x kp hx y => ?_⟩
  · rw [List.length_map, ← hl] at hi
    exact ⟨xs, xs[i], (hf.keep kp).sq, List.getElem?_eq_getElem hi⟩
  · exact ⟨xs, (hf.keep kp).sq, by rw [List.length_map, hl]; exact Nat.le_refl _⟩
  · obtain ⟨e, y⟩ := y
    subst e
    obtain ⟨d, hd, rfl⟩ := get_pys hx
    obtain ⟨w, hw, pw⟩ := al.getR hd
    have := y xs (hf.keep kp).sq
    rw [hw] at this
    cases this
    exact ⟨.refl _, fun _ _ h => h, fun _ h => h, fun ι => .py (pw.keep kp)⟩
theorem walk_tup {K : PySem.W.Frag} {H0 : Hp} {a : Addr} {xs : List V} {ds : List PyData} (hf : SqT K H0 a xs) (hz : ds.length ≤ sizeLine) (al : PpAll K H0 xs ds) : WalkR K H0 (Itt K a) (ds.map D.py) := by
  have hl := al.length
  refine ⟨by rw [List.length_map]; exact hz, fun i H kp hi => ?_, fun H kp => ?_, fun i H v H' x kp hx y => ?_⟩
  · rw [List.length_map, ← hl] at hi
    exact ⟨xs, xs[i], sqT_keep kp hf, List.getElem?_eq_getElem hi⟩
  · exact ⟨xs, sqT_keep kp hf, by rw [List.length_map, hl]; exact Nat.le_refl _⟩
  · obtain ⟨e, y⟩ := y
    subst e
    obtain ⟨d, hd, rfl⟩ := get_pys hx
    obtain ⟨w, hw, pw⟩ := al.getR hd
    have := y xs (sqT_keep kp hf)
    rw [hw] at this
    cases this
    exact ⟨.refl _, fun _ _ h => h, fun _ h => h, fun ι => .py (pw.keep kp)⟩
theorem di_seq {tg : Expr} (ha : DE X E e f) : DI X E tg e (seqI f) := by
  obtain ⟨t, p, q⟩ := ha
  refine ⟨_, pi_or (pi_list p) (pi_tup p), fun σ H σd S ι R hE hS h => ?_⟩
  cases hf : f σd S with
  | no => unfold seqI at h; rw [hf] at h; exact h.elim
  | ex c S1 =>
    unfold seqI at h; rw [hf] at h
    refine .inl (q σ H σd S ι _ hE hS ?_)
    rw [hf]
    exact h
  | ok d S1 =>
    unfold seqI at h
    rw [hf] at h
    simp only [bind_ok] at h
    cases d with
    | obj n => exact h.elim
    | raw n => exact h.elim
    | py d =>
      cases d with
      | list ds =>
        refine .inl (q σ H σd S ι _ hE hS ?_)
        rw [hf]
        intro v H1 ι1 p1 r1
        cases r1 with
        | py r =>
          cases r with
          | lst hf hz al => exact ⟨_, rfl, ⟨_, hf.sq⟩, h _ _ _ p1 (walk_list hf hz al)⟩
      | tuple ds =>
        refine .inr (q σ H σd S ι _ hE hS ?_)
        rw [hf]
        intro v H1 ι1 p1 r1
        cases r1 with
        | py r =>
          cases r with
          | tup hf hz al => exact ⟨_, rfl, ⟨_, hf.sq⟩, h _ _ _ p1 (walk_tup hf.sq hz al)⟩
      | _ => exact h.elim
theorem di_txt {tg : Expr} (ha : DE X E e f) : DI X E tg e (txtI f) := by
  obtain ⟨t, p, q⟩ := ha
  refine ⟨_, pi_str p, fun σ H σd S ι R hE hS h => ?_⟩
  refine q σ H σd S ι _ hE hS (Wp.bind0 h fun d S1 _ v H1 ι1 p1 r1 h1 => ?_)
  cases d with
  | obj n => exact h1.elim
  | raw n => exact h1.elim
  | py d =>
    cases d with
    | str x =>
      simp only at h1
      split at h1
      · rename_i hz
        refine ⟨x, str_of r1, h1 _ _ _ p1 ⟨?_, fun i H kp hi => ?_, fun H kp => ?_, fun i H v H' y kp hx yy => ?_⟩⟩
        · rw [List.length_map, sizeLine_eq]
          exact hz
        · show i < x.cps.size
          simpa using hi
        · show x.cps.size ≤ _
          simp
        · obtain ⟨e, c, hc, rfl⟩ := yy
          subst e
          rw [List.getElem?_map, Option.map_eq_some_iff] at hx
          obtain ⟨c', h1, h2⟩ := hx
          subst h2
          rw [Array.getElem?_toList, hc] at h1
          cases h1
          exact ⟨.refl _, fun _ _ h => h, fun _ h => h, fun ι => .py (.str _)⟩
      · exact h1.elim
    | _ => exact h1.elim
theorem rngV_get {lo : Int} {n i : Nat} {x : D} (h : (rngV lo n)[i]? = some x) : i < n ∧ x = .py (.int (lo + (i : Int))) := by
  have hl : i < n := by
    have := (List.getElem?_eq_some_iff.mp h).1
    unfold rngV at this
    simpa using this
  unfold rngV at h
  rw [List.getElem?_map, List.getElem?_range hl] at h
  cases h
  exact ⟨hl, rfl⟩
theorem rngV_len {lo : Int} {n : Nat} : (rngV lo n).length = n := by
  unfold rngV
  simp
theorem walk_rng {K : PySem.W.Frag} {H0 : Hp} {lo : Int} {n : Nat} (hz : n ≤ sizeLine) : WalkR K H0 (Itr lo n) (rngV lo n) := by
  refine ⟨by rw [rngV_len]; exact hz, fun i H kp hi => ?_, fun H kp => ?_, fun i H v H' x kp hx y => ?_⟩
  · rw [rngV_len] at hi
    exact hi
  · show n ≤ _
    rw [rngV_len]
    exact Nat.le_refl _
  · obtain ⟨e, y⟩ := y
    subst e y
    obtain ⟨_, rfl⟩ := rngV_get hx
    exact ⟨.refl _, fun _ _ h => h, fun _ h => h, fun ι => .py (.int _)⟩
theorem toNat_line {j : Int} (h : j ≤ 16777216) : j.toNat ≤ sizeLine := by
  rw [sizeLine_eq]
  omega
variable {p : Pos}
theorem di_rng1 {tg : Expr} (hm : X.mg "range" = none) (ha : DE X E a f) (hg : Gl X "range" := by rfl) (hs : starEach [a] X.env = [(false, eval a X.env)] := by rfl) : DI X E tg (.Call (.Name "range" p) [a] [] pos) (rng1I f) := by
  obtain ⟨t, pt, q⟩ := ha
  refine ⟨_, pi_range1 hg hm (pa_cons pt pa_nil hs) hs, fun σ H σd S ι R hE hS h => ?_⟩
  refine q σ H σd S ι _ hE hS (Wp.bind0 h fun d S1 _ v H1 ι1 p1 r1 h1 => ?_)
  split at h1
  · split at h1
    · rename_i hz
      refine ⟨_, by rw [int_of r1], hz.1, by have := hz.2; omega, h1 _ _ _ p1 (walk_rng (toNat_line hz.2))⟩
    · exact h1.elim
  · exact h1.elim
end
end DV

set_option maxHeartbeats 4000000
/-! The tuples that zip and enumerate give out have no dict. -/
namespace DV
open PySem
/-- the object there has no dict -/
def NoD (h : Heap) (T : Addr) : Prop := ∃ o, h.get? T = some o ∧ o.dict = none
section
variable {prog : Program} {w : World} {A : Around} {fp wr : List Addr} {n : Nat} {St : Nat → Heap → Prop} {I : Addr}
/-- a walk over tuples, each without a dict -/
structure WalksD (prog : Program) (w : World) (A : Around) (I : Addr) (fp wr : List Addr) (n : Nat) (Pt : Nat → Array Value → Prop) (St : Nat → Heap → Prop) (Mid : Nat → Addr → Heap → Prop) : Prop where
  base : WalksT prog w A I fp wr n Pt St Mid
  itemD : ∀ i (s : Shared) (Q : Option Value → Shared → Prop) (E : Value → Shared → Prop), i < n → St i s.heap →
    (∀ T vals h' tk, Pt i vals → s.heap.objs.size ≤ T → h'.IsTuple T vals → NoD h' T → Mid i T h' → (∀ b o, b ∉ wr → s.heap.get? b = some o → h'.get? b = some o) → Q (some (.ref T)) { s with heap := h', toks := tk }) →
    wpAny (model prog w) A (pyNext (.ref I)) Q E s
theorem WalksD.goes {elts : List Expr} {k : Nat} {pos : Pos} {Pt : Nat → Array Value → Prop} {Mid : Nat → Addr → Heap → Prop} (W : WalksD prog w A I fp wr n Pt St Mid) :
    GoesN prog w A (.Tuple elts k pos) I fp wr n (fun i h₀ v h => ∃ T vals, v = .ref T ∧ h₀.objs.size ≤ T ∧ Pt i vals ∧ h.IsTuple T vals ∧ NoD h T) St := by
  have G := GoesN.ofWalksT (elts := elts) (k := k) (pos := pos) W.base
  refine ⟨G.sub, G.frame, fun i s Q E hi st hQ => ?_, G.stops, G.self⟩
  refine wpAny_with_toks (n := s.toks) (Nat.le_refl _) (W.itemD i s _ _ hi st fun T vals h1 tk hP ge isT nd mid k1 htk => ⟨_, rfl, ?_⟩)
  refine W.base.go elts k pos i T { s with heap := h1, toks := tk } _ _ mid fun h2 st2 k2 => ?_
  have nw := W.base.apart i T h1 mid
  obtain ⟨ob, e1, e2⟩ := nd
  exact hQ _ h2 tk ⟨T, vals, rfl, ge, hP, isT.at fun o e => k2 T o nw e, ob, k2 T ob nw e1, e2⟩ st2 (fun b o hb e => k2 b o hb (k1 b o hb e)) htk
end
theorem away {h : Heap} {c : Addr} {o : Obj} (e : h.get? c = some o) : h.objs.size ≠ c := Nat.ne_of_gt (Heap.lt_size e)
section
variable {prog : Program} {w : World} {A : Around} {z TI TO i1 i2 i3 : Addr} {fp1 fp2 fp3 : List Addr} {n1 n2 n3 : Nat} {P1 P2 P3 : Nat → Value → Prop} {St1 St2 St3 : Nat → Heap → Prop}
theorem zip2_noD {elts : List Expr} {k : Nat} {pos : Pos} (S : ZipSep2 z TI TO i1 i2 fp1 fp2) (D1 : Draws prog w A.in1 i1 fp1 n1 P1 St1) (D2 : Draws prog w A.in1 i2 fp2 n2 P2 St2) :
    GoesN prog w A (.Tuple elts k pos) z (z :: TI :: TO :: (fp1 ++ fp2)) [z, TO, i1, i2] (min n1 n2) (fun i h₀ v h => ∃ T x y, v = .ref T ∧ h₀.objs.size ≤ T ∧ P1 i x ∧ P2 i y ∧ h.IsTuple T #[x, y] ∧ NoD h T)
      (fun i h => IsZip h z TI TO .none ∧ IsTupOf2 h TI (.ref i1) (.ref i2) ∧ (∃ a1 a2, IsTupOf2 h TO a1 a2) ∧ St1 i h ∧ St2 i h) := by
  have W := WalksT.zipD2 S D1 D2
  refine (WalksD.goes ⟨W, fun i s Q E hi st q => ?_⟩).mono fun i h₀ v h _ ⟨T, vals, ev, ge, ⟨x, y, hx, hy, evs⟩, isT, nd⟩ => ⟨T, x, y, ev, ge, hx, hy, evs ▸ isT, nd⟩
  obtain ⟨zz, ti, ⟨a1, a2, to⟩, s1, s2⟩ := st
  obtain ⟨_, e1⟩ := D1.live _ _ s1
  obtain ⟨_, e2⟩ := D2.live _ _ s2
  have l : i < n1 ∧ i < n2 := by omega
  refine wpAny_pyNext_zipD2_item S D1 D2 zz ti to s1 s2 l.1 l.2 fun x y h' tk px py zz' to' t1 t2 nw _ kp => ?_
  exact q _ #[x, y] h' tk ⟨x, y, px, py, rfl⟩ (Nat.le_refl _) ⟨_, nw, rfl, _, rfl⟩ ⟨_, nw, rfl⟩ ⟨zz', kp _ _ S.TIz S.TITO S.TIi1 S.TIi2 ti, ⟨_, _, to'⟩, t1, t2, away zz, away to, away e1, away e2⟩ fun b o hb e => by
    simp only [List.mem_cons, List.not_mem_nil, or_false, not_or] at hb
    exact kp b o hb.1 hb.2.1 hb.2.2.1 hb.2.2.2 e
theorem enum_noD {elts : List Expr} {k : Nat} {pos : Pos} {it : Addr} {fp : List Addr} {n : Nat} {P : Nat → Value → Prop} {St : Nat → Heap → Prop} (k₀ : Int) (D : Draws prog w A.in1 it fp n P St) (e : Addr) (hei : e ≠ it) (hef : e ∉ fp) (hif : it ∈ fp) :
    GoesN prog w A (.Tuple elts k pos) e (e :: fp) [e, it] n (fun i h₀ v h => ∃ T t x, v = .ref T ∧ h₀.objs.size ≤ T ∧ P i x ∧ h.IsTuple T #[.int (k₀ + (i : Int)) t, x] ∧ NoD h T) (fun i h => (∃ old, IsEnum h e it (k₀ + (i : Int)) old) ∧ St i h) := by
  have W := WalksT.enumFrom k₀ D e hei hef hif
  refine (WalksD.goes ⟨W, fun i s Q E hi st q => ?_⟩).mono fun i h₀ v h _ ⟨T, vals, ev, ge, ⟨t, x, hx, evs⟩, isT, nd⟩ => ⟨T, t, x, ev, ge, hx, evs ▸ isT, nd⟩
  obtain ⟨⟨old, he⟩, hs⟩ := st
  obtain ⟨_, e1⟩ := D.live _ _ hs
  refine wpAny_pyNext_enum_itemC D he hs hi hei hef fun x h' tk px ou hs' nw _ kp => ?_
  exact q _ #[.int (k₀ + (i : Int)) tk, x] h' (tk + 1) ⟨_, _, px, rfl⟩ (Nat.le_refl _) ⟨_, nw, rfl, _, rfl⟩ ⟨_, nw, rfl⟩ ⟨⟨_, ou⟩, hs', away he, away e1⟩ fun b o hb z => by
    simp only [List.mem_cons, List.not_mem_nil, or_false, not_or] at hb
    exact kp b o hb.1 hb.2 z
end
end DV

set_option maxHeartbeats 4000000
/-! zip, enumerate over lists, tuples, texts in any mix. -/
namespace DV
open PySem PySem.Spec PyProof.Rows L2

/-- a source that is walked -/
inductive SK where
  | lst (a : Addr)
  | tup (a : Addr)
  | txt (x : Str) (t : Tok)
def SK.src : SK → List Addr
  | .lst a => [a]
  | .tup a => [a]
  | .txt _ _ => []
def SK.st (k : SK) (it : Addr) (i : Nat) (h : Heap) : Prop := match k with
  | .lst a => h.IsListIter it a i
  | .tup a => h.IsTupleIter it a i
  | .txt x t => h.IsStrIter it (strIterType x) x t i
def SK.val : SK → Value
  | .lst a => .ref a
  | .tup a => .ref a
  | .txt x t => .str x t
def SK.ob : SK → Obj
  | .lst a => { cls := .type "list_iterator", data := .fields #[.ref a, .int 0 0] }
  | .tup a => { cls := .type "tuple_iterator", data := .fields #[.ref a, .int 0 0] }
  | .txt x t => { cls := .type (strIterType x), data := .fields #[.str x t, .int 0 0] }
/-- the source holds the items -/
def SK.ok (K : PySem.W.Frag) (H : Hp) : SK → List V → Prop
  | .lst a, xs => FL K H a xs
  | .tup a, xs => SqT K H a xs
  | .txt x _, xs => xs = x.cps.toList.map fun c => V.str ⟨#[c]⟩
def SK.hold (k : SK) (h : Heap) (its : List Value) : Prop := match k with
  | .lst a => h.IsList a its.toArray
  | .tup a => h.IsTuple a its.toArray
  | .txt _ _ => True
def SK.n (k : SK) (its : List Value) : Nat := match k with
  | .txt x _ => x.cps.size
  | _ => its.length
def SK.P (k : SK) (its : List Value) (i : Nat) (v : Value) : Prop := match k with
  | .txt x _ => ∃ c u, x.cps[i]? = some c ∧ v = .str ⟨#[c]⟩ u
  | _ => its.toArray[i]? = some v
theorem SK.ok.keep {K : PySem.W.Frag} {H H' : Hp} {k : SK} {xs : List V} (q : Keep H H') (h : k.ok K H xs) : k.ok K H' xs := by
  cases k with
  | lst a => exact FL.keep q h
  | tup a => exact sqT_keep q h
  | txt x t => exact h
theorem SK.draws {prog : Program} {w : World} {A : Around} (hh : A.handled = none) (k : SK) (it : Addr) (hne : ∀ a ∈ k.src, a ≠ it) (its : List Value) :
    Draws prog w A it (it :: k.src) (k.n its) (k.P its) (fun i h => k.st it i h ∧ k.hold h its) := by
  cases k with
  | lst a => exact Draws.list hh it a (hne a (by simp [SK.src])) its.toArray
  | tup a => exact Draws.tuple hh it a (hne a (by simp [SK.src])) its.toArray
  | txt x t =>
    have D := Draws.text (prog := prog) (w := w) hh it x t
    exact ⟨fun i h st => D.live i h st.1, fun i h h' st k => ⟨D.frame i h h' st.1 k, trivial⟩, fun i s Q E hi st hQ => D.item i s Q E hi st.1 fun x h' tk hP hs hb => hQ x h' tk hP ⟨hs, trivial⟩ hb, fun s Q E st hE => D.done s Q E st.1 hE⟩
theorem SK.begins (k : SK) (its : List Value) : Begins k.val k.ob fun h => k.hold h its := by
  cases k with
  | lst a => exact begins_list a its.toArray
  | tup a => exact begins_tuple a its.toArray
  | txt x t =>
    have B := begins_text x t
    exact ⟨B.iter, B.keeps, B.free⟩
/-- the state of a source's iterator hangs on that iterator alone -/
theorem SK.st_keep {k : SK} {it : Addr} {i : Nat} {h h' : Heap} (st : k.st it i h) (q : ∀ o, h.get? it = some o → h'.get? it = some o) : k.st it i h' := by
  cases k with
  | lst a => exact Heap.IsListIter.at st fun o e => q o e
  | tup a => exact Heap.IsTupleIter.at st fun o e => q o e
  | txt x t => obtain ⟨o, e, c, d⟩ := st; exact ⟨o, q o e, c, d⟩
theorem SK.st_obj {k : SK} {it : Addr} {i : Nat} {h : Heap} (st : k.st it i h) : ∃ o, h.get? it = some o ∧ ∀ v, o.data ≠ .cell v := by
  cases k with
  | lst a => obtain ⟨o, e, _, d⟩ := st; exact ⟨o, e, fun v z => by rw [d] at z; cases z⟩
  | tup a => obtain ⟨o, e, _, d⟩ := st; exact ⟨o, e, fun v z => by rw [d] at z; cases z⟩
  | txt x t => obtain ⟨o, e, _, d⟩ := st; exact ⟨o, e, fun v z => by rw [d] at z; cases z⟩
theorem SK.st0 (k : SK) {it : Addr} {h : Heap} (e : h.get? it = some k.ob) : k.st it 0 h := by
  cases k with
  | lst a => exact ⟨_, e, rfl, rfl⟩
  | tup a => exact ⟨_, e, rfl, rfl⟩
  | txt x t => exact ⟨_, e, rfl, rfl⟩
section
variable {X : Cx} {pins : List (Addr × Obj)} {σ : L2.St} {H : Hp} {s : Shared}
/-- what the source holds, in the heap as it stands -/
theorem SK.heap {k : SK} {xs : List V} (I : Inv X pins σ H s) (h : k.ok X.K H xs) : ∃ its : List Value, k.hold s.heap its ∧ k.n its = xs.length ∧ (∀ i v, k.P its i v → ∃ x, xs[i]? = some x ∧ RelV x v) ∧ ∀ a ∈ k.src, a < s.heap.objs.size := by
  cases k with
  | lst a =>
    obtain ⟨its, rv, p, z⟩ := I.list (FL.sq h)
    exact ⟨its, p.isList, rv.length.symm, fun i v e => by
      have e' : its[i]? = some v := by simpa [SK.P] using e
      exact Paired.getR rv e', fun b hb => by
      rw [show b = a by simpa [SK.src] using hb]
      exact p.lt⟩
  | tup a =>
    obtain ⟨its, rv, p, z⟩ := I.tuple h
    exact ⟨its, p, rv.length.symm, fun i v e => by
      have e' : its[i]? = some v := by simpa [SK.P] using e
      exact Paired.getR rv e', fun b hb => by
      rw [show b = a by simpa [SK.src] using hb]
      exact p.lt⟩
  | txt x t =>
    refine ⟨[], trivial, ?_, fun i v e => ?_, fun b hb => by simp [SK.src] at hb⟩
    · have h' : xs = _ := h
      rw [h']
      simp [SK.n]
    · obtain ⟨c, u, h1, h2⟩ := e
      have h' : xs = _ := h
      refine ⟨.str ⟨#[c]⟩, ?_, ⟨u, h2⟩⟩
      rw [h', List.getElem?_map, Array.getElem?_toList, h1]
      rfl
end
/-- an iterator whose i-th item is a new tuple of the values gv i -/
def ItN (Src : Hp → Prop) (n : Nat) (gv : Nat → List V) : L2.It :=
  ⟨fun i H => i < n ∧ Src H, fun i H v H' => ∃ T o, v = .ref T ∧ H T = none ∧ o.dict = none ∧ H' = upd H T (.frz o (.tup (gv i))), fun i H => i = n ∧ Src H⟩
/-- a turn of such an iterator, from the model's own walk -/
theorem turn_new {P : Program} {w : World} {K : PySem.W.Frag} {tg : Expr} {Src : Hp → Prop} {n : Nat} {gv : Nat → List V} {it : Addr} {fp : List Addr} {tn : Nat → Heap → Prop} (mem : it ∈ fp)
    (obj : ∀ i h, tn i h → ∀ b ∈ fp, ∃ o, h.get? b = some o ∧ ∀ v, o.data ≠ .cell v)
    (keep : ∀ i h h', tn i h → (∀ b ∈ fp, ∀ o, h.get? b = some o → h'.get? b = some o) → tn i h')
    (self : ∀ (A : Around) (i : Nat) (s : Shared) (Q : Value → Shared → Prop) (E : Value → Shared → Prop), tn i s.heap → Q (.ref it) s → wpAny (model P w) A (pyIter (.ref it)) Q E s)
    (small : ∀ i, (gv i).length ≤ sizeLine)
    (goes : ∀ (X : Cx), X.prog = P → X.w = w → X.K = K → X.A.handled = none → ∀ (i : Nat) (pins : List (Addr × Obj)) (s : Shared) (σ : L2.St) (H : Hp), Inv X pins σ H s → tn i s.heap → Src H →
      ∃ (fg wr : List Addr) (Y : Nat → Heap → Value → Heap → Prop) (St : Nat → Heap → Prop), GoesN P w X.A tg it fg wr n Y St ∧ St i s.heap ∧ (∀ b ∈ wr, b ∈ fp) ∧
        (∀ h v h', i < n → Y i h v h' → ∃ T us, v = .ref T ∧ h.objs.size ≤ T ∧ Vals (gv i) us ∧ h'.IsTuple T us.toArray ∧ NoD h' T) ∧ (∀ h', St (i + 1) h' → tn (i + 1) h')) :
    Turn P w K tg (ItN Src n gv) fp it tn where
  mem := mem
  obj := obj
  keep := keep
  self := self
  item := by
    intro X hP hw hK hc i pins s σ H E I hf st hg
    obtain ⟨hi, hsrc⟩ := hg
    obtain ⟨fg, wr, Y, St, W, hst, hwr, hY, hSt⟩ := goes X hP hw hK (I.ok.hd hc) i pins s σ H I st hsrc
    refine W.goes i s _ E hi hst fun v h' tk y st' hk htk => ?_
    obtain ⟨T, us, rfl, hT, rv, ⟨o, e1, e2, n1, e3⟩, o2, e4, e5⟩ := hY _ _ _ hi y
    cases e1.symm.trans e4
    have new : ObjOk X.prog X.w (upd H T (.frz o (.tup (gv i)))) h' T (.frz o (.tup (gv i))) := tupF_ok (small i) rv e1 e2 e3
    refine ⟨.ref T, _, I.turnedNew (t' := tk) (ch := wr) hk (fun b hb => hf b (hwr b hb)) hT new, rfl, ⟨T, o, rfl, I.hok.fresh hT, e5, rfl⟩, hSt _ st', fun b hb => ?_⟩
    obtain ⟨o, ho, _⟩ := obj i _ st b hb
    rw [upd_ne (Nat.ne_of_lt (Nat.lt_of_lt_of_le (Heap.lt_size ho) hT))]
    exact (hf b hb).1
  done := by
    intro X hP hw hK hc i pins s σ H E I hf st hg
    obtain ⟨hi, hsrc⟩ := hg
    subst hi
    obtain ⟨fg, wr, Y, St, W, hst, hwr, _, _⟩ := goes X hP hw hK (I.ok.hd hc) i pins s σ H I st hsrc
    exact W.stops s (fun s1 => Inv X pins σ H s1) E hst fun h' tk hk htk => I.turnedL (t' := tk) (ch := wr) hk fun b hb => hf b (hwr b hb)
/-- a value that is a source -/
def srcV (K : PySem.W.Frag) (H : Hp) (v : V) (xs : List V) : Prop :=
  (∃ a, v = .ref a ∧ FL K H a xs) ∨ (∃ a, v = .ref a ∧ SqT K H a xs) ∨ ∃ x, v = .str x ∧ xs = x.cps.toList.map fun c => V.str ⟨#[c]⟩
theorem srcV.sk {K : PySem.W.Frag} {H : Hp} {v : V} {xs : List V} {u : Value} (h : srcV K H v xs) (r : RelV v u) : ∃ k : SK, u = k.val ∧ k.ok K H xs := by
  rcases h with ⟨a, rfl, h⟩ | ⟨a, rfl, h⟩ | ⟨x, rfl, h⟩
  · cases r; exact ⟨.lst a, rfl, h⟩
  · cases r; exact ⟨.tup a, rfl, h⟩
  · obtain ⟨t, rfl⟩ := r; exact ⟨.txt x t, rfl, h⟩
theorem srcV.of {K : PySem.W.Frag} {ι : List Addr} {H : Hp} {S : Sto} {v : V} {d : D} {ds : List PyData} (r : Rd K ι H v d) (h : pyWalk S d = some ds) : ∃ xs, srcV K H v xs ∧ PpAll K H xs ds ∧ ds.length ≤ sizeLine := by
  cases r with
  | obj e => simp [pyWalk] at h
  | raw e => simp [pyWalk] at h
  | py r =>
    cases r with
    | lst hf hz al => cases h; exact ⟨_, .inl ⟨_, rfl, hf⟩, al, hz⟩
    | tup hf hz al => cases h; exact ⟨_, .inr (.inl ⟨_, rfl, hf.sq⟩), al, hz⟩
    | str x =>
      simp only [pyWalk] at h
      split at h
      · rename_i hz
        cases h
        refine ⟨_, .inr (.inr ⟨x, rfl, rfl⟩), ?_, ?_⟩
        · generalize x.cps.toList = l
          induction l with
          | nil => exact .nil
          | cons c l ih => exact .cons (.str _) ih
        · rw [List.length_map, sizeLine_eq]
          exact hz
      · cases h
    | _ => simp [pyWalk] at h

section
variable {X : Cx} {E : XK} {e a b c : Expr} {f g h : Ex} {pos p : Pos}
def iZipM (K : PySem.W.Frag) (ta : TA) : TI := fun σ H R => ta σ H fun vs H1 => ∃ v1 v2 xs ys, vs = [v1, v2] ∧ srcV K H1 v1 xs ∧ srcV K H1 v2 ys ∧
  ∀ Src : Hp → Prop, (∀ H', Keep H1 H' → Src H') → R (ItN Src (min xs.length ys.length) fun i => [xs.getD i .non, ys.getD i .non]) H1
theorem getD_of {xs : List V} {i : Nat} {x : V} (h : xs[i]? = some x) : xs.getD i .non = x := by
  rw [List.getD_eq_getElem?_getD, h]
  rfl
abbrev zipTn (k1 k2 : SK) (N : Addr) : Nat → Heap → Prop := fun i h => IsZip h (N + 4) (N + 2) (N + 3) .none ∧ IsTupOf2 h (N + 2) (.ref N) (.ref (N + 1)) ∧ (∃ a1 a2, IsTupOf2 h (N + 3) a1 a2) ∧ k1.st N i h ∧ k2.st (N + 1) i h
theorem turn_zip2 {P : Program} {w : World} {K : PySem.W.Frag} {elts : List Expr} {kk : Nat} {tpos : Pos} {k1 k2 : SK} {N : Addr} {xs ys : List V} (l1 : ∀ a ∈ k1.src, a < N) (l2 : ∀ a ∈ k2.src, a < N) :
    Turn P w K (.Tuple elts kk tpos) (ItN (fun H => k1.ok K H xs ∧ k2.ok K H ys) (min xs.length ys.length) fun i => [xs.getD i .non, ys.getD i .non]) [N + 4, N + 2, N + 3, N, N + 1] (N + 4) (zipTn k1 k2 N) := by
  have S := zip_sep2 (N := N) l1 l2
  refine turn_new (by simp) ?_ ?_ ?_ (fun i => by show 2 ≤ sizeLine; decide) ?_
  · intro i h st c hc
    obtain ⟨hz, hTI, ⟨x, y, hTO⟩, h1, h2⟩ := st
    have e' : c = N + 4 ∨ c = N + 2 ∨ c = N + 3 ∨ c = N ∨ c = N + 1 := by simpa using hc
    rcases e' with q | q | q | q | q
    · rw [q]; exact ⟨_, hz, fun v q => nomatch q⟩
    · rw [q]; exact ⟨_, hTI, fun v q => nomatch q⟩
    · rw [q]; exact ⟨_, hTO, fun v q => nomatch q⟩
    · rw [q]; exact SK.st_obj h1
    · rw [q]; exact SK.st_obj h2
  · intro i h h' st k
    obtain ⟨hz, hTI, ⟨x, y, hTO⟩, h1, h2⟩ := st
    exact ⟨k (N + 4) (by simp) _ hz, k (N + 2) (by simp) _ hTI, ⟨x, y, k (N + 3) (by simp) _ hTO⟩, SK.st_keep h1 fun o q => k N (by simp) o q, SK.st_keep h2 fun o q => k (N + 1) (by simp) o q⟩
  · exact fun A i s Q E st h => wpAny_pyIter_zip st.1 h
  · intro X' hP hw hK hh i pins' s' σ' H' I' st hsrc
    subst hP hw hK
    obtain ⟨its1', d1', n1', P1', l1'⟩ := SK.heap I' hsrc.1
    obtain ⟨its2', d2', n2', P2', l2'⟩ := SK.heap I' hsrc.2
    have W := zip2_noD (elts := elts) (k := kk) (pos := tpos) S (SK.draws (prog := X'.prog) (w := X'.w) (A := X'.A.in1) hh k1 N (fun a ha => Nat.ne_of_lt (l1 a ha)) its1') (SK.draws (A := X'.A.in1) hh k2 (N + 1) (fun a ha => Nat.ne_of_lt (Nat.lt_succ_of_lt (l2 a ha))) its2')
    rw [n1', n2'] at W
    refine ⟨_, _, _, _, W, ⟨st.1, st.2.1, st.2.2.1, ⟨st.2.2.2.1, d1'⟩, ⟨st.2.2.2.2, d2'⟩⟩, fun b hb => ?_, fun h v h' hi y => ?_, fun h' st' => ⟨st'.1, st'.2.1, st'.2.2.1, st'.2.2.2.1.1, st'.2.2.2.2.1⟩⟩
    · have e' : b = N + 4 ∨ b = N + 3 ∨ b = N ∨ b = N + 1 := by simpa using hb
      rcases e' with q | q | q | q <;> simp [q]
    · obtain ⟨T, x, y, rfl, hT, p1, p2, ht, nd⟩ := y
      obtain ⟨v1, e1, r1⟩ := P1' _ _ p1
      obtain ⟨v2, e2, r2⟩ := P2' _ _ p2
      refine ⟨T, [x, y], rfl, hT, ?_, ht, nd⟩
      rw [getD_of e1, getD_of e2]
      exact .cons r1 (.cons r2 .nil)
theorem pi_zipM {e2 : Expr} {ta : TA} {tpos : Pos} {elts : List Expr} {kk : Nat} (hg : Gl X "zip") (hm : X.mg "zip" = none) (hc : X.calm = true) (ha : PA X [e, e2] ta)
    (hs : starEach [e, e2] X.env = (false, eval e X.env) :: starEach [e2] X.env := by rfl) (hpl : (backTo pos (starEach [e2] X.env)).any (·.1) = false := by rfl) :
    PI X (.Tuple elts kk tpos) (.Call (.Name "zip" p) [e, e2] [] pos) (iZipM X.K ta) := by
  refine ⟨fun pins s σ H R I h => ?_⟩
  refine Call_ (ld_blt I hg hm PyProof.Rows.boot_zip (PyProof.Rows.callWith_type1 (thn (ha.run pos pins s σ H _ I h) fun us s1 ⟨vs, H1, I1, r1, q1⟩ => ?_) hs hpl))
  obtain ⟨v1, v2, xs, ys, rfl, h1, h2, q⟩ := q1
  obtain ⟨u1, u2, rfl, r1, r2⟩ := vals2 r1
  obtain ⟨k1, rfl, o1⟩ := h1.sk r1
  obtain ⟨k2, rfl, o2⟩ := h2.sk r2
  obtain ⟨its1, d1, n1, P1, l1⟩ := SK.heap I1 o1
  obtain ⟨its2, d2, n2, P2, l2⟩ := SK.heap I1 o2
  refine zip_begins2 (SK.begins k1 its1) (SK.begins k2 its2) d1 d2 fun h' hz hTI hTO hi1 hi2 hsz hk => wpAny_pyIter_zip hz ?_
  have I2 : Inv X pins σ H1 { s1 with heap := h' } := I1.kept (t' := s1.toks) hk
  have S := zip_sep2 (N := s1.heap.objs.size) l1 l2
  generalize hN : s1.heap.objs.size = N at *
  have fresh5 : ∀ c, c ∈ [N + 4, N + 2, N + 3, N, N + 1] → FpOk X pins H1 c := fun c hcm => by
    have e' : c = N + 4 ∨ c = N + 2 ∨ c = N + 3 ∨ c = N ∨ c = N + 1 := by simpa using hcm
    have hle : s1.heap.objs.size ≤ c := by
      rw [hN]
      rcases e' with z | z | z | z | z
      · rw [z]; exact Nat.le_add_right _ _
      · rw [z]; exact Nat.le_add_right _ _
      · rw [z]; exact Nat.le_add_right _ _
      · rw [z]; exact Nat.le_refl _
      · rw [z]; exact Nat.le_add_right _ _
    exact I1.fpOk hle (I1.hok.fresh hle)
  refine ⟨N + 4, [N + 4, N + 2, N + 3, N, N + 1], fun i h => IsZip h (N + 4) (N + 2) (N + 3) .none ∧ IsTupOf2 h (N + 2) (.ref N) (.ref (N + 1)) ∧ (∃ a1 a2, IsTupOf2 h (N + 3) a1 a2) ∧ k1.st N i h ∧ k2.st (N + 1) i h,
    ItN (fun H => k1.ok X.K H xs ∧ k2.ok X.K H ys) (min xs.length ys.length) fun i => [xs.getD i .non, ys.getD i .non], H1, rfl, I2, ?_, ⟨hz, hTI, ⟨_, _, hTO⟩, SK.st0 k1 hi1, SK.st0 k2 hi2⟩, fresh5, q _ fun H' kp => ⟨o1.keep kp, o2.keep kp⟩⟩
  exact turn_zip2 l1 l2
/-- the items of a walk over new tuples -/
theorem walk_new {K : PySem.W.Frag} {H0 : Hp} {Src : Hp → Prop} {n : Nat} {gv : Nat → List V} {ps : List (List PyData)} (hn : n = ps.length) (hz : ps.length ≤ sizeLine) (hs : ∀ H', Keep H0 H' → Src H')
    (hv : ∀ i p, ps[i]? = some p → p.length ≤ sizeLine ∧ PpAll K H0 (gv i) p) : WalkR K H0 (ItN Src n gv) (ps.map fun p => D.py (.tuple p)) := by
  refine ⟨by rw [List.length_map]; exact hz, fun i H kp hi => ?_, fun H kp => ?_, fun i H v H' x kp hx y => ?_⟩
  · rw [List.length_map] at hi
    exact ⟨by rw [hn]; exact hi, hs H kp⟩
  · exact ⟨by rw [List.length_map]; exact hn.symm, hs H kp⟩
  · obtain ⟨T, o, rfl, hT, ho, rfl⟩ := y
    rw [List.getElem?_map, Option.map_eq_some_iff] at hx
    obtain ⟨p, h1, rfl⟩ := hx
    obtain ⟨hl, al⟩ := hv i p h1
    exact ⟨.new hT, fun b vs e => by rw [upd_ne (ne_of_none e hT)]; exact e, upd_dom, fun ι => .py (.tup (.new ho) hl (al.keep (kp.trans (.new hT))))⟩
theorem di_zip {tpos : Pos} {elts : List Expr} {kk : Nat} (hm : X.mg "zip" = none) (hc : X.calm = true) (ha : DE X E a f) (hb : DE X E b g) (hg : Gl X "zip" := by rfl)
    (hs : starEach [a, b] X.env = (false, eval a X.env) :: starEach [b] X.env := by rfl) (hs2 : starEach [b] X.env = (false, eval b X.env) :: starEach [] X.env := by rfl) (hpl : (backTo pos (starEach [b] X.env)).any (·.1) = false := by rfl) :
    DI X E (.Tuple elts kk tpos) (.Call (.Name "zip" p) [a, b] [] pos) (zipI f g) := by
  obtain ⟨t, pt, q⟩ := ha
  obtain ⟨u, pu, qu⟩ := hb
  refine ⟨_, pi_zipM hg hm hc (pa_cons pt (pa_cons pu pa_nil hs2) hs) hs hpl, fun σ H σd S ι R hE hS h => ?_⟩
  refine q σ H σd S ι _ hE hS (Wp.bind0 h fun d S1 _ v H1 ι1 p1 r1 h1 => ?_)
  refine qu σ H1 σd S1 ι1 _ (hE.mono p1.pre p1.keep) p1.sto (Wp.bind0 (Wp.re p1 h1) fun d2 S2 _ v2 H2 ι2 p2 r2 h2 => ?_)
  split at h2
  · rename_i xs ys hx hy
    obtain ⟨vs, s1, al1, z1⟩ := srcV.of (S := S2) (r1.mono p2.pre p2.keep) hx
    obtain ⟨ws, s2, al2, z2⟩ := srcV.of (S := S2) r2 hy
    refine ⟨v, v2, vs, ws, rfl, s1, s2, fun Src hSrc => h2 _ _ _ p2 ?_⟩
    have e : ((xs.zip ys).map fun p => D.py (.tuple [p.1, p.2])) = ((xs.zip ys).map fun p => [p.1, p.2]).map fun p => D.py (.tuple p) := by rw [List.map_map]; rfl
    rw [e]
    refine walk_new ?_ ?_ hSrc fun i pp hp => ?_
    · rw [List.length_map, List.length_zip, al1.length, al2.length]
    · rw [List.length_map, List.length_zip]
      exact Nat.le_trans (Nat.min_le_left _ _) z1
    · rw [List.getElem?_map, Option.map_eq_some_iff] at hp
      obtain ⟨⟨x, y⟩, h3, rfl⟩ := hp
      rw [List.getElem?_zip_eq_some] at h3
      obtain ⟨v1, e1, r1⟩ := al1.getR h3.1
      obtain ⟨v3, e2, r3⟩ := al2.getR h3.2
      refine ⟨by show 2 ≤ sizeLine; decide, ?_⟩
      rw [getD_of e1, getD_of e2]
      exact .cons r1 (.cons r3 .nil)
  · exact h2.elim
end
end DV
namespace PySem
open Sem (wp)
set_option maxHeartbeats 1000000 in
theorem dv_meets_enumerate {v : Value} {o : Obj} {H : Heap → Prop} (B : Begins v o H) :
    Meets (Builtin.«enumerate.__new__» ⟨[.type "enumerate", v], []⟩) (fun _ R s => H s.heap ∧
      R (.ok (.ret (.ref (s.heap.push o).objs.size))) { s with heap := (s.heap.push o).push { cls := .type "enumerate", data := .fields #[.none, .bool false, .ref s.heap.objs.size, rawInt 0, .none, .none] } }) :=
  .of_wp fun prog w A R s h => by
    obtain ⟨hp, g, d, tk, os⟩ := s; obtain ⟨h1, h⟩ := h
    have hsub := sub_enumerate
    have q1 : ∀ {A' : Around} {E : Value → Shared → Prop} {Q : Value → Shared → Prop}, Q (.ref hp.objs.size) ⟨hp.push o, g, d, tk, os⟩ → wpAny (model prog w) A' (pyIter v) Q E ⟨hp, g, d, tk, os⟩ :=
      fun q => B.iter prog w _ _ ⟨hp, g, d, tk, os⟩ _ h1 q
    wp_walk using q1
    refine wpAny_stack_any fun st => wpAny_pure ?_
    split
    · rename_i c _ _ _ _ _
      cases (c == Value.type "enumerate")
      · wp_walk using q1
        exact ⟨_, rfl, h⟩
      · wp_walk using q1
        exact ⟨_, rfl, h⟩
    · wp_walk using q1
      exact ⟨_, rfl, h⟩
end PySem
namespace DV
open PySem PySem.Spec PyProof.Rows L2
end DV

set_option maxHeartbeats 4000000
namespace DV
open PySem PySem.Spec PyProof.Rows L2
/-! enumerate, zip of three. -/
section
variable {prog : Program} {w : World} {A : Around} {E : Value → Shared → Prop} {s : Shared}
theorem enum_begins1 {v : Value} {o : Obj} {H : Heap → Prop} {Q : Value → Shared → Prop} (B : Begins v o H) (h1 : H s.heap)
    (h : ∀ h', IsEnum h' (s.heap.objs.size + 1) s.heap.objs.size 0 .none → h'.get? s.heap.objs.size = some o → h'.objs.size = s.heap.objs.size + 2 →
      (∀ b o, s.heap.get? b = some o → h'.get? b = some o) → Q (.ref (s.heap.objs.size + 1)) { s with heap := h' }) :
    wpAny (model prog w) A (call (.type "enumerate") [v]) Q E s := by
  refine callType_new F.called_enumerate (by decide) (F.typeCall_enumerate_1 _) (F.newCall_enumerate_1 _) (fun obj => F.args_object_init_2 obj _) F.entry_enumerate_new
    (dv_meets_enumerate B) ⟨h1, ?_⟩
  have hz : (s.heap.push o).objs.size = s.heap.objs.size + 1 := Heap.size_push ..
  show _ ∧ _
  rw [hz]
  have he : IsEnum ((s.heap.push o).push { cls := .type "enumerate", data := .fields #[.none, .bool false, .ref s.heap.objs.size, rawInt 0, .none, .none] }) (s.heap.objs.size + 1) s.heap.objs.size 0 .none := by
    have := Heap.get?_push_size (s.heap.push o) (o := { cls := .type "enumerate", data := .fields #[.none, .bool false, .ref s.heap.objs.size, rawInt 0, .none, .none] }) rfl
    rw [hz] at this; exact this
  refine ⟨⟨_, he, rfl⟩, h _ he (Heap.get?_push_of_some _ (Heap.get?_push_size _ B.free)) (by rw [Heap.size_push, hz]) fun b o x => Heap.get?_push_of_some _ (Heap.get?_push_of_some _ x)⟩
end
abbrev enumTn (k1 : SK) (N : Addr) : Nat → Heap → Prop := fun i h => (∃ old, IsEnum h (N + 1) N (i : Nat) old) ∧ k1.st N i h
theorem turn_enum {P : Program} {w : World} {K : PySem.W.Frag} {elts : List Expr} {kk : Nat} {tpos : Pos} {k1 : SK} {N : Addr} {xs : List V} (l1 : ∀ a ∈ k1.src, a < N) :
    Turn P w K (.Tuple elts kk tpos) (ItN (fun H => k1.ok K H xs) xs.length fun i => [.int (i : Nat), xs.getD i .non]) [N + 1, N] (N + 1) (enumTn k1 N) := by
  refine turn_new (by simp) ?_ ?_ ?_ (fun i => by show 2 ≤ sizeLine; decide) ?_
  · intro i h st c hc
    obtain ⟨⟨old, hz⟩, h1⟩ := st
    have e' : c = N + 1 ∨ c = N := by simpa using hc
    rcases e' with q | q
    · rw [q]; exact ⟨_, hz, fun v q => nomatch q⟩
    · rw [q]; exact SK.st_obj h1
  · intro i h h' st k
    obtain ⟨⟨old, hz⟩, h1⟩ := st
    exact ⟨⟨old, k (N + 1) (by simp) _ hz⟩, SK.st_keep h1 fun o q => k N (by simp) o q⟩
  · exact fun A i s Q E st h => let ⟨_, hz⟩ := st.1; wpAny_pyIter_enum hz h
  · intro X' hP hw hK hh i pins' s' σ' H' I' st hsrc
    subst hP hw hK
    obtain ⟨its1', d1', n1', P1', l1'⟩ := SK.heap I' hsrc
    have W := enum_noD (elts := elts) (k := kk) (pos := tpos) 0 (SK.draws (prog := X'.prog) (w := X'.w) (A := X'.A.in1) hh k1 N (fun a ha => Nat.ne_of_lt (l1 a ha)) its1') (N + 1) (Nat.ne_of_gt (Nat.lt_succ_self _)) (fun hm => by
      rcases List.mem_cons.mp hm with q | q
      · exact absurd q (Nat.ne_of_gt (Nat.lt_succ_self _))
      · exact absurd (l1 _ q) (Nat.not_lt_of_le (Nat.le_succ _))) (List.mem_cons_self ..)
    rw [n1'] at W
    refine ⟨_, _, _, _, W, ⟨?_, ⟨st.2, d1'⟩⟩, fun b hb => ?_, fun h v h' hi y => ?_, fun h' st' => ⟨?_, st'.2.1⟩⟩
    · obtain ⟨old, hz⟩ := st.1
      exact ⟨old, by rw [Int.zero_add]; exact hz⟩
    · have e' : b = N + 1 ∨ b = N := by simpa using hb
      rcases e' with q | q <;> simp [q]
    · obtain ⟨T, t, x, rfl, hT, p1, ht⟩ := y
      obtain ⟨v1, e1, r1⟩ := P1' _ _ p1
      refine ⟨T, [.int (0 + (i : Int)) t, x], rfl, hT, ?_, ht⟩
      rw [getD_of e1, Int.zero_add]
      exact .cons ⟨t, rfl⟩ (.cons r1 .nil)
    · obtain ⟨old, hz⟩ := st'.1
      exact ⟨old, by rw [Int.zero_add] at hz; exact hz⟩
section
variable {X : Cx} {E : XK} {e a b c : Expr} {f g h : Ex} {pos p : Pos}
def iEnumM (K : PySem.W.Frag) (ta : TA) : TI := fun σ H R => ta σ H fun vs H1 => ∃ v1 xs, vs = [v1] ∧ srcV K H1 v1 xs ∧
  ∀ Src : Hp → Prop, (∀ H', Keep H1 H' → Src H') → R (ItN Src xs.length fun i => [.int (i : Nat), xs.getD i .non]) H1
theorem pi_enumM {ta : TA} {tpos : Pos} {elts : List Expr} {kk : Nat} (hg : Gl X "enumerate") (hm : X.mg "enumerate" = none) (ha : PA X [e] ta)
    (hs : starEach [e] X.env = [(false, eval e X.env)] := by rfl) :
    PI X (.Tuple elts kk tpos) (.Call (.Name "enumerate" p) [e] [] pos) (iEnumM X.K ta) := by
  refine ⟨fun pins s σ H R I h => ?_⟩
  refine Call_ (ld_blt I hg hm boot_enumerate (PyProof.Rows.callWith_type1 (thn (ha.run pos pins s σ H _ I h) fun us s1 ⟨vs, H1, I1, r1, q1⟩ => ?_) hs rfl))
  obtain ⟨v1, xs, rfl, h1, q⟩ := q1
  obtain ⟨u1, rfl, ru⟩ := vals1 r1
  obtain ⟨k1, rfl, o1⟩ := h1.sk ru
  obtain ⟨its1, d1, n1, P1, l1⟩ := SK.heap I1 o1
  refine enum_begins1 (SK.begins k1 its1) d1 fun h' hz hi1 hsz hk => wpAny_pyIter_enum hz ?_
  have I2 : Inv X pins σ H1 { s1 with heap := h' } := I1.kept (t' := s1.toks) hk
  generalize hN : s1.heap.objs.size = N at *
  have fresh5 : ∀ c, c ∈ [N + 1, N] → FpOk X pins H1 c := fun c hcm => by
    have e' : c = N + 1 ∨ c = N := by simpa using hcm
    have hle : s1.heap.objs.size ≤ c := by
      rw [hN]
      rcases e' with z | z
      · rw [z]; exact Nat.le_add_right _ _
      · rw [z]; exact Nat.le_refl _
    exact I1.fpOk hle (I1.hok.fresh hle)
  exact ⟨N + 1, [N + 1, N], enumTn k1 N, ItN (fun H => k1.ok X.K H xs) xs.length fun i => [.int (i : Nat), xs.getD i .non], H1, rfl, I2, turn_enum l1, ⟨⟨_, hz⟩, SK.st0 k1 hi1⟩, fresh5, q _ fun H' kp => o1.keep kp⟩
theorem di_enum {tpos : Pos} {elts : List Expr} {kk : Nat} (hm : X.mg "enumerate" = none) (ha : DE X E a f) (hg : Gl X "enumerate" := by rfl)
    (hs : starEach [a] X.env = [(false, eval a X.env)] := by rfl) :
    DI X E (.Tuple elts kk tpos) (.Call (.Name "enumerate" p) [a] [] pos) (enumI f) := by
  obtain ⟨t, pt, q⟩ := ha
  refine ⟨_, pi_enumM hg hm (pa_cons pt pa_nil hs) hs, fun σ H σd S ι R hE hS h => ?_⟩
  refine q σ H σd S ι _ hE hS (Wp.bind0 h fun d S1 _ v H1 ι1 p1 r1 h1 => ?_)
  split at h1
  · rename_i xs hx
    obtain ⟨vs, s1, al1, z1⟩ := srcV.of (S := S1) r1 hx
    refine ⟨v, vs, rfl, s1, fun Src hSrc => h1 _ _ _ p1 ?_⟩
    have e : (xs.zipIdx.map fun p => D.py (.tuple [.int (p.2 : Nat), p.1])) = (xs.zipIdx.map fun p => [PyData.int (p.2 : Nat), p.1]).map fun p => D.py (.tuple p) := by rw [List.map_map]; rfl
    rw [e]
    refine walk_new ?_ ?_ hSrc fun i pp hp => ?_
    · rw [List.length_map, List.length_zipIdx, al1.length]
    · rw [List.length_map, List.length_zipIdx]
      exact z1
    · rw [List.getElem?_map, Option.map_eq_some_iff] at hp
      obtain ⟨⟨x, j⟩, h3, rfl⟩ := hp
      rw [List.getElem?_zipIdx, Option.map_eq_some_iff] at h3
      obtain ⟨x', h4, h5⟩ := h3
      cases h5
      obtain ⟨v1, e1, r1⟩ := al1.getR h4
      refine ⟨by show 2 ≤ sizeLine; decide, ?_⟩
      rw [getD_of e1]
      simp only [Nat.zero_add]
      exact .cons (.int _) (.cons r1 .nil)
  · exact h1.elim
end
/-! ### zip of three -/
section
variable {X : Cx} {E : XK} {e a b c : Expr} {f g h : Ex} {pos p : Pos}
end
end DV

set_option maxHeartbeats 4000000
namespace DV
open PySem PySem.Spec PyProof.Rows L2
/-! Defs and their calls, errors raised. -/

/-! ### what a def has made for itself is forgotten -/
section
variable {K : PySem.W.Frag} {ι ι' : List Addr} {H H' : Hp} {S S' : Sto} {v : V} {d : D}
theorem Rd.back (p : ι <+: ι') (h : Rd K ι' H' v d) {v0 : V} (h0 : Rd K ι H v0 d) : Rd K ι H' v d := by
  cases h with
  | py h => exact .py h
  | obj e =>
    cases h0 with
    | obj e0 =>
      have := pre_get p e0
      rw [e] at this
      cases this
      exact .obj e0
  | raw a => exact .raw a
theorem RdAll.back (p : ι <+: ι') : ∀ {vs : List V} {ds : List D}, RdAll K ι' H' vs ds → ∀ {ws : List V}, RdAll K ι H ws ds → RdAll K ι H' vs ds
  | _, _, .nil, _, _ => .nil
  | _, _, .cons h hs, _, .cons h0 hs0 => .cons (h.back p h0) (RdAll.back p hs hs0)
theorem Rd.pure (h : Rd K ι' H' v d) (hp : d.pure = true) : Rd K ι H' v d := by
  cases h with
  | py h => exact .py h
  | obj e => cases hp
  | raw a => exact .raw a
theorem RdAll.pure : ∀ {vs : List V} {ds : List D}, RdAll K ι' H' vs ds → ds.all D.pure = true → RdAll K ι H' vs ds
  | _, _, .nil, _ => .nil
  | _, _, .cons h hs, e => by
    rw [List.all_cons, Bool.and_eq_true] at e
    exact .cons (h.pure e.1) (RdAll.pure hs e.2)
theorem tab_take {S : Sto} {n m : Nat} {o : O} (e : (S.take n)[m]? = some o) : S[m]? = some o := by
  rw [List.getElem?_take] at e
  split at e
  · exact e
  · cases e
theorem gc_post (p : Post K ι H ι' H' S') (hS : StR K ι H S) (hl : S.length ≤ S'.length) (hc : ∀ (i : Nat) (o : O), i < S.length → S'[i]? = some o → S[i]? = some o ∨ o.pure = true) : Post K ι H ι H' (S'.take S.length) := by
  refine ⟨List.prefix_refl _, p.keep, ⟨by rw [List.length_take, hS.len]; omega, hS.nd, fun n a e => p.sto.there n a (pre_get p.pre e), fun n o a e1 e2 => ?_, fun m P q e => p.sto.tb m P q (tab_take e)⟩, fun b vs m q => ⟨(p.frame b vs m q).1, m⟩, p.dom⟩
  have hn : n < S.length := by
    have := (List.getElem?_eq_some_iff.mp e1).1
    rw [List.length_take] at this
    omega
  rw [List.getElem?_take_of_lt hn] at e1
  have z := p.sto.at_ n o a e1 (pre_get p.pre e2)
  rcases hc n o hn e1 with h | h
  · have z0 := hS.at_ n o a h e2
    cases z with
    | gone => exact .gone
    | tab => exact .tab
    | dt a b c => exact .dt a b c
    | dk a b c => exact .dk a b c
    | ins hc a b rr =>
      cases z0 with
      | ins hc0 a0 b0 rr0 => exact .ins hc a b (RdAll.back p.pre rr rr0)
    | tpl a rr =>
      cases z0 with
      | tpl a0 rr0 => exact .tpl a (RdAll.back p.pre rr rr0)
    | lst ha rr =>
      cases z0 with
      | lst ha0 rr0 => exact .lst ha (RdAll.back p.pre rr rr0)
  · cases z with
    | gone => exact .gone
    | tab => exact .tab
    | dt a b c => exact .dt a b c
    | dk a b c => exact .dk a b c
    | ins hc a b rr => exact .ins hc a b (RdAll.pure rr (by
        rw [List.all_map]
        exact h))
    | tpl a rr => exact .tpl a (RdAll.pure rr h)
    | lst ha rr => exact .lst ha (RdAll.pure rr h)
theorem Wp.gcI {mg : Str → Option Value} {E : XK} {α β γ : Type} {rel : List Addr → Hp → α → β → Prop} {b : β} {P : Prop} {Q : α → Hp → Prop} (hS : StR K ι H S) (h : Wp K mg E ι H rel (gc P S S' fun T => R.ok b T) Q)
    (hr : ∀ a H' ι', ι <+: ι' → P → rel ι' H' a b → rel ι H' a b) : ∀ a H' ι', Post K ι H ι' H' S' → rel ι' H' a b → Q a H' := by
  intro a H1 ι1 p r
  unfold gc at h
  split at h
  · rename_i hc
    exact h a H1 ι (gc_post p hS hc.2.1 hc.2.2) (hr a H1 ι1 p.pre hc.1 r)
  · exact h a H1 ι1 p r
theorem WpF.fn {mg : Str → Option Value} {E : XK} {r : F} {Q : VK} (hS : StR K ι H S) (h : Wp K mg E ι H (relD K) (fnR S r) Q) : WpF K mg E ι H r { nx := fun _ H' => Q .non H', rt := Q } := by
  cases r with
  | nx σd S' =>
    intro σ' H1 ι1 p _
    exact Wp.gcI (γ := Unit) (rel := relD K) hS h (fun a H' ι' _ _ r => r.pure rfl) .non H1 ι1 p (.py .non)
  | rt d S' =>
    intro v H1 ι1 p r
    exact Wp.gcI (γ := Unit) (rel := relD K) hS h (fun a H' ι' _ hp r => r.pure hp) v H1 ι1 p r
  | ex c S' =>
    intro H1 ι1 p
    unfold fnR gc at h
    simp only at h
    split at h
    · rename_i hc
      exact h H1 ι (gc_post p hS hc.2.1 hc.2.2)
    · exact h H1 ι1 p
  | bk σ S' => exact h.elim
  | ct σ S' => exact h.elim
  | no => exact h.elim
theorem init_rel (N : List Str) {vs : List V} {ds : List D} (r : RdAll K ι H vs ds) : EnR K ι H (start N vs) (init N.length ds) := by
  unfold L2.start init
  refine ⟨by simp [r.length], fun i d e => ?_⟩
  by_cases hi : i < ds.length
  · rw [List.getElem?_append_left (by simpa using hi)] at e
    rw [List.getElem?_map, Option.map_eq_some_iff] at e
    obtain ⟨d', h1, h2⟩ := e
    cases h2
    obtain ⟨v, hv, rv⟩ := Paired.getR r h1
    exact ⟨v, by rw [List.getElem?_append_left (by simpa [r.length] using hi), List.getElem?_map, hv]; rfl, rv⟩
  · rw [List.getElem?_append_right (by simpa using hi)] at e
    have := List.mem_of_getElem? e
    rw [List.mem_replicate] at this
    cases this.2
end

/-- the promise of a def: it does what F says upon data -/
def spD (K : PySem.W.Frag) (mg : Str → Option Value) (n : Nat) (F : List D → Sto → R D) : Sp := fun vs H Q E => vs.length = n ∧ ∃ ι S ds, StR K ι H S ∧ RdAll K ι H vs ds ∧ Wp K mg E ι H (relD K) (F ds S) Q
structure FnD (P : Program) (w : World) (K : PySem.W.Frag) (mg : Str → Option Value) (base : Heap) (k : Nat) (f : Addr) (fd : FuncData) (ps : List Str) (F : List D → Sto → R D) : Prop where
  run : ∀ (A : Around) (outer : List Env) (s : Shared) (H : Hp) (args : Args) (us : List Value) (vs : List V) (Q : VK) (E : XK), Room k A → A.guards = some [] → Env0 P w K mg base A outer s H → BindsTo s fd args (ps.zip us) → Vals vs us → spD K mg ps.length F vs H Q E →
    codeAny (model P w) A (.call (.ref f) args) (CR (L2.CX P w) outer P w H s Q E) s
theorem FnD.mono {P : Program} {w : World} {K : PySem.W.Frag} {mg : Str → Option Value} {base : Heap} {j k : Nat} {f : Addr} {fd : FuncData} {ps : List Str} {F : List D → Sto → R D} (h : FnD P w K mg base j f fd ps F) (hl : j ≤ k) : FnD P w K mg base k f fd ps F :=
  ⟨fun A outer s H args us vs Q E hr => h.run A outer s H args us vs Q E (hr.mono hl)⟩
section
variable {P : Program} {w : World} {K : PySem.W.Frag} {mg : Str → Option Value} {base : Heap}
/-- the context of a def's body is fit -/
theorem okx_def {N ps : List Str} {qual : Str} {sc : Scope} {f : Addr} {cdv : Value} {A : Around} {outer : List Env} {s : Shared} {H : Hp} {E : XK} {k : Nat} (S : FnScope N ps sc) (hr : Room (k + 1) A) (hg : A.guards = some []) :
    Okx k (cxOf (L2.CX P w) P w K mg base N qual sc f cdv A outer s H E) E where
  calm := rfl
  nd := S.nd
  room := hr.deeper _
  gd := hg
  take := takes_of rfl rfl rfl rfl
  pass := passes_call (takes_of rfl rfl rfl rfl) fun _ _ _ _ h => h
  own := passes_of rfl
theorem dfn {x qual : Str} {st : Stmt} {f : Addr} {fd : FuncData} {N ps : List Str} {k : Nat} {b : Sx} (F : L2.Fun K x qual st f fd) (S : FnScope N ps (defScope st))
    (hbody : ∀ (cdv : Value) (A : Around) (outer : List Env) (s : Shared) (H : Hp) (E : XK), Okx k (cxOf (L2.CX P w) P w K mg base N qual (defScope st) f cdv A outer s H E) E →
      DSs (cxOf (L2.CX P w) P w K mg base N qual (defScope st) f cdv A outer s H E) E (defBody st) b) : FnD P w K mg base (k + 1) f fd ps (fnF N.length b) := by
  obtain ⟨oc, od, kV, doc, pm, an, cdv, ct, osl, rfl, lk, hcd⟩ := F.ex
  refine ⟨fun A outer s H args us vs Q E hr hg e0 hb r hsp => ?_⟩
  obtain ⟨hl, ι, Sd, ds, hS, rr, hw⟩ := hsp
  have KX : K.In s.heap := e0.mod.kin.keeps fun b o e => (e0.bs b o e).1
  have lim : s.heap.NoLimit := e0.mod.nolimit.keeps fun b o e => (e0.bs b o e).1
  have hkind : ∀ y ∈ ps.zip us, (defScope st).names.lookup y.1 = some .local ∨ ((defScope st).names.lookup y.1 = some .cell ∧ ((cellsFrom (s.heap.objs.size + 1) (defScope st).names []).lookup y.1).isSome = true) := fun ⟨n, v⟩ hy => by
    rcases S.par n (List.of_mem_zip hy).1 with q | q
    · exact .inl q
    · exact .inr ⟨q, PySem.W.cellsFrom_some _ _ _ (.inl q)⟩
  refine codeAny_call_function hr.depth (KX _ _ lk) rfl S.co S.gen rfl (PySem.W.codeRec_of KX hcd) (hb _ _ _ _ ?_)
  refine wpAny_newFunctionEnv_cells S.kind hkind fun env he s1 xx => ?_
  subst he
  refine ⟨lim.keeps xx.toInCall.keep, codeAny_func ?_⟩
  obtain ⟨t, ht, hq⟩ := hbody cdv A outer s H E (okx_def S hr hg)
  have I : Inv (cxOf (L2.CX P w) P w K mg base N qual (defScope st) f cdv A outer s H E) [] (start N vs) H s1 := inv_start S hr.hd e0 hl r xx
  refine wpAny_mono (ht.run [] s1 (start N vs) H _ I (hq _ _ _ _ _ _ (init_rel N rr) hS (WpF.fn hS hw))) (fun fl s' hs => ?_) fun e s' hs => hs
  have fin : ∀ {σ' : L2.St} {H' : Hp} {v : V} {u : Value}, Inv (cxOf (L2.CX P w) P w K mg base N qual (defScope st) f cdv A outer s H E) [] σ' H' s' → RelV v u → Q v H' → CE outer P w H s Q u s' :=
    fun {σ' H' v u} J rv q => ⟨v, H', J.os, J.bare, J.base, J.hok, rv, q⟩
  cases fl with
  | ret u =>
    obtain ⟨v, σ', H', J, rv, q⟩ := hs
    exact fin J rv q
  | next =>
    obtain ⟨σ', H', J, q⟩ := hs
    exact fin (v := V.non) (u := Value.none) J rfl q
  | brk =>
    obtain ⟨_, _, _, q⟩ := hs
    exact False.elim q
  | cont =>
    obtain ⟨_, _, _, q⟩ := hs
    exact False.elim q
end

/-! ### calls -/
section
variable {X : Cx} {E : XK} {k j : Nat} {e : Expr} {f : Addr} {es : List Expr} {fs : Ax} {pos p : Pos} {x : Str} {fd : FuncData} {ps : List Str} {F : List D → Sto → R D}
theorem run_fnD {pins : List (Addr × Obj)} {σ : L2.St} {H : Hp} {s : Shared} {Q : VK} {us : List Value} {vs : List V} (o : Okx k X E) (hF : FnD X.prog X.w X.K X.mg X.base j f fd ps F) (hj : j ≤ k) (hb : Binds X.K fd ps []) (I : Inv X pins σ H s) (r : Vals vs us) (h : spD X.K X.mg ps.length F vs H Q E) :
    wpAny (model X.prog X.w) X.A (call (.ref f) us) (EP X pins σ Q) X.xe s := by
  have hl : us.length = ps.length := by rw [← r.length]; exact h.1
  have b := hb s us I.kIn (by rw [List.append_nil]; exact hl)
  rw [List.append_nil] at b
  refine wpAny_call (codeAny_mono (hF.run X.A X.stack s H ⟨us, []⟩ us vs Q E (o.room.mono hj) o.gd I.env0 b r h) fun r s' hq => ?_)
  cases r with
  | error e => exact o.pass pins σ H s e s' I hq
  | ok fl =>
    cases fl with
    | ret u => exact I.after hq
    | next => exact False.elim hq
    | brk => exact False.elim hq
    | cont => exact False.elim hq
/-- where a def of the top stands -/
structure At (K : PySem.W.Frag) (mg : Str → Option Value) (x : Str) (f : Addr) (fd : FuncData) (ps : List Str) : Prop where
  g : mg x = some (.ref f)
  kp : PySem.W.keepIn K (.ref f) = true
  b : Binds K fd ps []
theorem de_call (o : Okx k X E) (hF : FnD X.prog X.w X.K X.mg X.base j f fd ps F) (at_ : At X.K X.mg x f fd ps) (hj : j ≤ k) (ha : DA X E (e :: es) fs) (hn : (e :: es).length = ps.length := by rfl) (hg : Gl X x := by rfl) (hdb : (x == ("__debug__" : Str)) = false := by decide)
    (he : starEach (e :: es) X.env = (false, eval e X.env) :: starEach es X.env := by rfl) (hpl : (backTo pos (starEach es X.env)).any (·.1) = false := by rfl) : DE X E (.Call (.Name x p) (e :: es) [] pos) (callE F fs) := by
  obtain ⟨l, t, pt, q⟩ := ha
  refine ⟨tCall (spD X.K X.mg ps.length F) [] E t, ⟨fun pins s σ H Q I h => ?_⟩, fun σ H σd S ι Q hE hS h => ?_⟩
  · refine wpAny_Call_Name_kw (ld_glob I hg at_.g ?_ hdb)
    refine PySem.W.callWith_K (h₀ := X.base) I.ok.mod.kin at_.kp (thn (pt.run pos pins s σ H _ I h) fun us s1 ⟨vs, H1, I1, r, q⟩ => ⟨I1.kIn, ?_⟩) he hpl
    have q' : spD X.K X.mg ps.length F (vs ++ []) H1 Q E := q
    rw [List.append_nil] at q'
    exact run_fnD o hF hj at_.b I1 r q'
  · refine q σ H σd S ι _ hE hS (Wp.bind h fun ds S1 e1 vs H1 ι1 p1 r1 h1 => ?_)
    rw [List.append_nil]
    exact ⟨by rw [r1.length, l _ _ _ _ e1, hn], ι1, S1, ds, p1.sto, r1, h1⟩
/-! ### errors -/
abbrev veTail : List Value := [.type "ValueError", .type "Exception", .type "BaseException", .type "object"]
structure ExcAt (K : PySem.W.Frag) (mg : Str → Option Value) (x : Str) (C : Addr) : Prop where
  g : mg x = some (.ref C)
  x : PySem.W.excIn K C veTail "ValueError.__new__" = true
  k : PySem.W.keepIn K (.ref C) = true
  b : PySem.W.subIn K (.ref C) (.type "BaseException") = some true
  t : PySem.W.typeIn K (.ref C) = some (.type "type")
theorem ds_raise {C : Addr} {m : Str} {jj : Nat} {p2 : Pos} (o : Okx k X E) (h : ExcAt X.K X.mg x C) (hg : Gl X x := by rfl) (hdb : (x == ("__debug__" : Str)) = false := by decide) : DS X E (.Raise (some (.Call (.Name x p) [.Constant (.str m) jj p2] [] pos)) none pos') (raiseS x) := by
  refine ⟨_, ps_raise o.calm o.take (pmk_own PySem.F.excBase_ValueError h.x h.g h.k (raises_own h.b h.t) hg hdb), fun σ H σd S ι N hE hS hw => ?_⟩
  have e : clsV X.mg x = .ref C := by unfold clsV; rw [h.g]; rfl
  have := hw H ι (.refl hS)
  rw [e] at this
  exact this
end
end DV

set_option maxHeartbeats 4000000
namespace DV
open PySem PySem.Spec PyProof.Rows L2
/-! The law's own call. -/
theorem cx_false {P : Program} {w : World} {l : List Env} {H : Hp} {s : Shared} {e : Value} {s' : Shared} (h : L2.CX P w l H s (fun _ _ _ => False) e s') : False := by
  obtain ⟨_, _, _, _, _, _, _, _, _, _, _, _, z⟩ := h
  exact z
theorem ints_pp {K : PySem.W.Frag} {H : Hp} : ∀ ns : List Int, PpAll K H (ns.map V.int) (ns.map PyData.int)
  | [] => .nil
  | n :: ns => .cons (.int n) (ints_pp ns)
/-- the law run at the heap H, the script alone being known to it -/
theorem law_at {P : Program} {w : World} {K : PySem.W.Frag} {mg : Str → Option Value} {base : Heap} {k : Nat} {fa a : Addr} {fd : FuncData} {x : Str} {F : List D → Sto → R D} {s : Shared} {ns : List Int} {H : Hp}
    (hF : FnD P w K mg base k fa fd [x] F) (hr : Room k callerA) (e0 : Env0 P w K mg base callerA [] s H) (hb : ∀ (s : Shared) (u : Value), BindsTo s fd ⟨[u], []⟩ [(x, u)]) (hl : ns.length ≤ sizeLine)
    (hS : FL K H a (ns.map V.int)) (res : ∃ S', F [.py (.list (ns.map .int))] [] = .ok (.py (.bool true)) S') :
    codeAny (model P w) callerA (.call (.ref fa) ⟨[.ref a], []⟩) (fun r s' => r = .ok (.ret (.bool true)) ∧ s'.os = s.os ∧ AllBare s'.gens ∧ ∃ H', Un [] [] H H' s.heap s'.heap ∧ HOk P w H' s'.heap) s := by
  obtain ⟨S', hres⟩ := res
  have hsp : spD K mg 1 F [.ref a] H (fun v _ => v = .bl true) fun _ _ _ => False := by
    refine ⟨rfl, [], [], [.py (.list (ns.map .int))], ⟨rfl, List.nodup_nil, fun n a e => by simp at e, fun n o a e => by simp at e, fun n P q e => by simp at e⟩, .cons (.py (.lst hS (by rw [List.length_map]; exact hl) (ints_pp ns))) .nil, ?_⟩
    rw [hres]
    exact fun v H' ι' _ r => bool_of r
  refine codeAny_mono (hF.run callerA [] s H ⟨[.ref a], []⟩ [.ref a] [.ref a] _ _ hr rfl e0 (hb s (.ref a)) (.cons rfl .nil) hsp) fun r s' h => ?_
  match r, h with
  | .error e, h => exact (cx_false h).elim
  | .ok .next, h => exact h.elim
  | .ok .brk, h => exact h.elim
  | .ok .cont, h => exact h.elim
  | .ok (.ret u), ⟨v, H', os, bare, un, hok, rv, q⟩ =>
    have q' : v = .bl true := q
    subst q'
    have e : u = Value.bool true := rv
    exact ⟨by rw [e], os, bare, H', un, hok⟩
/-- what the head leaves, with nothing tracked but a script that is no object of the module -/
theorem law_callD {P : Program} {w : World} {K : PySem.W.Frag} {mg mb : Str → Option Value} {k : Nat} {fa a : Addr} {fd : FuncData} {x : Str} {F : List D → Sto → R D} {s : Shared} {vs : List Value} {ns : List Int}
    (KX : K.In s.heap) (hns : s.heap.Ns mainGlobals mg) (hb : s.heap.Ns builtinsNs mb) (hbb : ∀ x : Str, x ≠ "__name__" → mb x = bootBuiltins x) (hlim : s.heap.NoLimit) (hg : s.gens = #[])
    (ha : s.heap.get? a = some { cls := .type "list", data := .seq vs.toArray }) (hi : IntsAre vs ns) (hl : ns.length ≤ sizeLine) (hr : Room k callerA)
    (hF : ∀ base : Heap, K.In base → base.Ns mainGlobals mg → FnD P w K mg base k fa fd [x] F) (hbind : ∀ (s : Shared) (u : Value), BindsTo s fd ⟨[u], []⟩ [(x, u)])
    (res : ∃ S', F [.py (.list (ns.map .int))] [] = .ok (.py (.bool true)) S') :
    codeAny (model P w) callerA (.call (.ref fa) ⟨[.ref a], []⟩) (fun r s' => r = .ok (.ret (.bool true)) ∧ OldK s.heap s'.heap ∧ s'.os = s.os ∧ AllBare s'.gens) s := by
  have rv := vals_ints hi
  have step : ∀ H : Hp, FL K H a (ns.map V.int) → HOk P w H s.heap → (∀ b u, H b = some u → b = a ∧ ∃ o xs, u = .frz o (.lst xs)) → (∀ u, H a = some u → K.lookup a = none) →
      codeAny (model P w) callerA (.call (.ref fa) ⟨[.ref a], []⟩) (fun r s' => r = .ok (.ret (.bool true)) ∧ OldK s.heap s'.heap ∧ s'.os = s.os ∧ AllBare s'.gens) s := by
    intro H hS hok hA hK
    have free : ∀ {b : Addr} {o : Obj}, s.heap.get? b = some o → b ≠ a → H b = none := fun {b o} _ ne => by
      cases q : H b with
      | none => rfl
      | some u => exact absurd (hA b u q).1 ne
    have nsK : ∀ {b : Addr} {m : Str → Option Value}, s.heap.Ns b m → (hidT s.heap H).Ns b m := fun {b m} hn => by
      obtain ⟨o, es, ep, e, d, r⟩ := hn
      refine ⟨o, es, ep, hidT_get e (free e fun z => ?_), d, r⟩
      rw [z, ha] at e
      cases e
      cases d
    have hKb : K.In (hidT s.heap H) := fun b o e => hidT_get (KX b o e) (by
      cases q : H b with
      | none => rfl
      | some u =>
        have z := (hA b u q).1
        rw [z] at e q
        rw [hK u q] at e
        cases e)
    have hM : Mod K mg (hidT s.heap H) := ⟨hKb, nsK hns, ⟨mb, nsK hb, hbb⟩, by obtain ⟨mc, h1, h2⟩ := hlim; exact ⟨mc, nsK h1, h2⟩⟩
    have e0 : Env0 P w K mg (hidT s.heap H) callerA [] s H :=
      { frames := rfl, mod := hM, bs := fun b o e => of_hidT e, bsz := Nat.le_of_eq (hidT_size _ _), funs := trivial, frf := fun b hb => (by cases hb), hok := hok, bare := .of_eq hg }
    refine codeAny_mono (law_at (hF _ hKb (nsK hns)) hr e0 hbind hl hS res) fun r s' h => ?_
    obtain ⟨rfl, os, bare, H', un, hok'⟩ := h
    refine ⟨rfl, OldK.of_keep fun b o e => ?_, os, bare⟩
    cases q : H b with
    | none => exact un.keep b o e q (by simp) (by simp)
    | some u =>
      obtain ⟨_, ob, xs, rfl⟩ := hA b u q
      have e1 := (hok b _ q).1
      have e2 := (hok' b _ (un.frzs b ob _ q)).1
      rw [e] at e1
      cases e1
      exact e2
  cases hk : K.lookup a with
  | some o =>
    have e := KX a o hk
    rw [ha] at e
    cases e
    exact step (fun _ => none) (.inr ⟨_, vs.toArray, _, hk, rfl, rfl, rfl, by rw [List.size_toArray, hi.length]; exact hl, by simpa using rv⟩) (fun b u z => by cases z) (fun b u z => by cases z) fun u z => by cases z
  | none =>
    have at_ : ∀ b u, (fun b => if b = a then some (HO.frz { cls := .type "list", data := .seq vs.toArray } (.lst (ns.map V.int))) else none) b = some u → b = a ∧ u = .frz { cls := .type "list", data := .seq vs.toArray } (.lst (ns.map V.int)) := fun b u z => by
      by_cases q : b = a
      · simp only [q, if_true] at z
        cases z
        exact ⟨q, rfl⟩
      · simp only [q, if_false] at z
        cases z
    refine step _ (.inl ⟨_, if_pos rfl⟩) (fun b u z => ?_) (fun b u z => ⟨(at_ b u z).1, _, _, (at_ b u z).2⟩) fun _ _ => hk
    obtain ⟨rfl, rfl⟩ := at_ b u z
    exact ⟨ha, by rw [List.length_map]; exact hl, vs, _, rv, ha⟩
/-- the goal that the head leaves -/
theorem walk_ofD {l : PySem.W.OpenLaw} {n k : Nat} {q : Program} {loose : List Str} {XP : (Str → Option Value) → Heap → Prop} {YP : World → Heap → Prop} {d : DefRec} {K : Params → PySem.W.Frag} {F : List D → Sto → R D} {x : Str}
    (hn : l.most = some n) (hn2 : n ≤ sizeLine) (hdf : d.params.defaults = []) (hr : Room k callerA) (hY : ∀ (w : World) (h : Heap), YP w h → (K w.params).In h)
    (hF : ∀ (w : World) (mg : Str → Option Value) (fa : Addr) (h : Heap), (K w.params).In h → h.Ns mainGlobals mg → mg d.name = some (.ref fa) →
      ∃ fd : FuncData, (∀ (s : Shared) (u : Value), BindsTo s fd ⟨[u], []⟩ [(x, u)]) ∧ ∀ base : Heap, (K w.params).In base → base.Ns mainGlobals mg → FnD l.prog w (K w.params) mg base k fa fd [x] F)
    (res : ∀ ns : List Int, ns.length ≤ n → ∃ S', F [.py (.list (ns.map .int))] [] = .ok (.py (.bool true)) S') :
    PySem.W.WalkO q loose XP YP l.row.toRowW d [] (fun f vs => PySem.call f vs) := by
  refine Att.attach_call hn hdf fun w s₀ s₁ mg mb fa o pm cd doc a vs ns G Y ho hd hcd hmg hobj hints hlen hg => ?_
  have KX := hY w _ Y
  obtain ⟨fd, hb, h⟩ := hF w mg fa _ KX G.T.g hmg
  exact law_callD KX G.T.g G.T.b G.T.builtins G.T.nolimit hg hobj hints (Nat.le_trans hlen hn2) hr h hb (res ns hlen)
end DV

set_option maxHeartbeats 4000000
namespace DV
open PySem PySem.Spec PyProof.Rows L2 PySem.SeqAt
open AutoSeq1 (wpAny_loadPart')
open MeetsSeq
/-! A text and a dict are unlike. -/
theorem dv_str_eq_dict (b : Str) (u : Tok) (l : Addr) (c : Value) (es : Array DictEntry) (n : Nat) (dd : Option Addr) (sl : Array (Option Value)) :
    Meets (Builtin.«str.__eq__» ⟨[.str b u, .ref l], []⟩) (fun _ R s => s.heap.get? l = some { cls := c, dict := dd, data := .dict es n, slots := sl } ∧ R (.ok (.ret .notImplemented)) s) :=
  .of_wp fun prog w A R s h => by obtain ⟨hp, g, d, tk, os⟩ := s; obtain ⟨hl, h⟩ := h; wp_walk using wpAny_loadPart' hl, wpAny_load hl; exact ⟨_, rfl, h⟩
theorem dv_dict_eq_str (l : Addr) (es : Array DictEntry) (n : Nat) (dd : Option Addr) (sl : Array (Option Value)) (b : Str) (u : Tok) :
    Meets (Builtin.«dict.__eq__» ⟨[.ref l, .str b u], []⟩) (fun _ R s => s.heap.get? l = some { cls := .type "dict", dict := dd, data := .dict es n, slots := sl } ∧ R (.ok (.ret .notImplemented)) s) :=
  .of_wp fun prog w A R s h => by obtain ⟨hp, g, d, tk, os⟩ := s; obtain ⟨hl, h⟩ := h; have f1 := PySem.F.sub_str_dict; wp_walk using wpAny_loadPart' hl; exact ⟨_, rfl, h⟩
theorem dv_str_ne_dict (b : Str) (u : Tok) (l : Addr) (c : Value) (es : Array DictEntry) (n : Nat) (dd : Option Addr) (sl : Array (Option Value)) :
    Meets (Builtin.«str.__ne__» ⟨[.str b u, .ref l], []⟩) (fun _ R s => s.heap.get? l = some { cls := c, dict := dd, data := .dict es n, slots := sl } ∧ R (.ok (.ret .notImplemented)) s) :=
  .of_wp fun prog w A R s h => by obtain ⟨hp, g, d, tk, os⟩ := s; obtain ⟨hl, h⟩ := h; wp_walk using wpAny_loadPart' hl, wpAny_load hl; exact ⟨_, rfl, h⟩
theorem dv_dict_ne_str (l : Addr) (es : Array DictEntry) (n : Nat) (dd : Option Addr) (sl : Array (Option Value)) (b : Str) (u : Tok) :
    Meets (Builtin.«dict.__ne__» ⟨[.ref l, .str b u], []⟩) (fun _ R s => s.heap.get? l = some { cls := .type "dict", dict := dd, data := .dict es n, slots := sl } ∧ R (.ok (.ret .notImplemented)) s) :=
  .of_wp fun prog w A R s h => by obtain ⟨hp, g, d, tk, os⟩ := s; obtain ⟨hl, h⟩ := h; have f1 := PySem.F.sub_str_dict; wp_walk using wpAny_loadPart' hl; exact ⟨_, rfl, h⟩
section
variable {A : Around} {s : Shared} {l : Addr} {dd : Option Addr} {es : Array DictEntry} {n : Nat} {sl : Array (Option Value)}
theorem rc_str_dict (b : Str) (u : Tok) (ho : s.heap.get? l = some { cls := .type "dict", dict := dd, data := .dict es n, slots := sl }) (hu : A.units < cLine) : RcAt A s (.str b u) (.ref l) false := fun prog w E Q h =>
  rc_eq_decline_or (k := false) (typeIs_str s b u) ⟨_, ho, rfl⟩ (by decide) PySem.F.sub_dict_str PySem.F.slot_str_eq PySem.F.slot_dict_eq_refl
    (fun _ hq => call_meets PySem.F.slot_str_eq (typeIs_str s b u) PySem.F.entry_str_eq (PySem.F.args_str_eq_2 _ _) (dv_str_eq_dict b u l (.type "dict") es n dd sl) ⟨ho, hq⟩)
    (fun _ hq => call_meets PySem.F.slot_dict_eq_refl ⟨_, ho, rfl⟩ PySem.F.entry_dict_eq (PySem.F.args_dict_eq_2 _ _) (dv_dict_eq_str l es n dd sl b u) ⟨ho, hq⟩)
    (fun _ hq => wpAny_of_eq (rfl : isSame (.str b u) (.ref l) = pure false) hq) (.inr hu) h
theorem rc_dict_str (b : Str) (u : Tok) (ho : s.heap.get? l = some { cls := .type "dict", dict := dd, data := .dict es n, slots := sl }) (hu : A.units < cLine) : RcAt A s (.ref l) (.str b u) false := fun prog w E Q h =>
  rc_eq_decline_or (k := false) ⟨_, ho, rfl⟩ (typeIs_str s b u) (by decide) PySem.F.sub_str_dict PySem.F.slot_dict_eq PySem.F.slot_str_eq_refl
    (fun _ hq => call_meets PySem.F.slot_dict_eq ⟨_, ho, rfl⟩ PySem.F.entry_dict_eq (PySem.F.args_dict_eq_2 _ _) (dv_dict_eq_str l es n dd sl b u) ⟨ho, hq⟩)
    (fun _ hq => call_meets PySem.F.slot_str_eq_refl (typeIs_str s b u) PySem.F.entry_str_eq (PySem.F.args_str_eq_2 _ _) (dv_str_eq_dict b u l (.type "dict") es n dd sl) ⟨ho, hq⟩)
    (fun _ hq => wpAny_of_eq (rfl : isSame (.ref l) (.str b u) = pure false) hq) (.inr hu) h
theorem rn_str_dict (b : Str) (u : Tok) (ho : s.heap.get? l = some { cls := .type "dict", dict := dd, data := .dict es n, slots := sl }) (hu : A.units < cLine) : RcNeAt A s (.str b u) (.ref l) true := fun prog w E Q h =>
  rc_ne_decline_or (k := false) (typeIs_str s b u) ⟨_, ho, rfl⟩ (by decide) PySem.F.sub_dict_str PySem.F.slot_str_ne PySem.F.slot_dict_ne_refl
    (fun _ hq => call_meets PySem.F.slot_str_ne (typeIs_str s b u) PySem.F.entry_str_ne (PySem.F.args_str_ne_2 _ _) (dv_str_ne_dict b u l (.type "dict") es n dd sl) ⟨ho, hq⟩)
    (fun _ hq => call_meets PySem.F.slot_dict_ne_refl ⟨_, ho, rfl⟩ PySem.F.entry_dict_ne (PySem.F.args_dict_ne_2 _ _) (dv_dict_ne_str l es n dd sl b u) ⟨ho, hq⟩)
    (fun _ hq => wpAny_of_eq (rfl : isSame (.str b u) (.ref l) = pure false) hq) (.inr hu) h
theorem rn_dict_str (b : Str) (u : Tok) (ho : s.heap.get? l = some { cls := .type "dict", dict := dd, data := .dict es n, slots := sl }) (hu : A.units < cLine) : RcNeAt A s (.ref l) (.str b u) true := fun prog w E Q h =>
  rc_ne_decline_or (k := false) ⟨_, ho, rfl⟩ (typeIs_str s b u) (by decide) PySem.F.sub_str_dict PySem.F.slot_dict_ne PySem.F.slot_str_ne_refl
    (fun _ hq => call_meets PySem.F.slot_dict_ne ⟨_, ho, rfl⟩ PySem.F.entry_dict_ne (PySem.F.args_dict_ne_2 _ _) (dv_dict_ne_str l es n dd sl b u) ⟨ho, hq⟩)
    (fun _ hq => call_meets PySem.F.slot_str_ne_refl (typeIs_str s b u) PySem.F.entry_str_ne (PySem.F.args_str_ne_2 _ _) (dv_str_ne_dict b u l (.type "dict") es n dd sl) ⟨ho, hq⟩)
    (fun _ hq => wpAny_of_eq (rfl : isSame (.ref l) (.str b u) = pure false) hq) (.inr hu) h
end
/-- one is a text, the other one a dict -/
def TxDk (H : Hp) (x y : V) : Prop := (∃ z a o kvs, x = .str z ∧ y = .ref a ∧ H a = some (.frz o (.dK kvs))) ∨ ∃ z a o kvs, x = .ref a ∧ y = .str z ∧ H a = some (.frz o (.dK kvs))
theorem dk_obj {X : Cx} {pins : List (Addr × Obj)} {σ : L2.St} {H : Hp} {s : Shared} (I : Inv X pins σ H s) {a : Addr} {o : Obj} {kvs : List (Key × V)} (e : H a = some (.frz o (.dK kvs))) : ∃ es n, s.heap.get? a = some { cls := .type "dict", dict := none, data := .dict es n, slots := #[] } := by
  obtain ⟨_, _, vs, _, ⟨⟨c, d, dt, sl⟩, es, ep, ho, ⟨hc, hn, hs⟩, hd, _⟩⟩ := dk_rd I.hok (.inr ⟨o, e⟩)
  simp only at hc hn hs hd
  subst hc hn hs hd
  exact ⟨es, ep, ho⟩
theorem op_eqSD {X : Cx} (hu : X.A.units + 64 < cLine) : OpR X (compareOp .Eq) (fun x y H Q => TxDk H x y ∧ Q (.bl false) H) := by
  intro pins s σ H x y v u Q I rx ry h
  obtain ⟨h, q⟩ := h
  rcases h with ⟨z, a, o, kvs, rfl, rfl, e⟩ | ⟨z, a, o, kvs, rfl, rfl, e⟩
  · obtain ⟨t, rfl⟩ := rx
    cases ry
    obtain ⟨es, n, ho⟩ := dk_obj I e
    exact rc_str_dict z t ho (by omega) X.prog X.w _ _ ⟨.bl _, H, I, rfl, q⟩
  · obtain ⟨t, rfl⟩ := ry
    cases rx
    obtain ⟨es, n, ho⟩ := dk_obj I e
    exact rc_dict_str z t ho (by omega) X.prog X.w _ _ ⟨.bl _, H, I, rfl, q⟩
theorem op_neSD {X : Cx} (hu : X.A.units + 64 < cLine) : OpR X (compareOp .NotEq) (fun x y H Q => TxDk H x y ∧ Q (.bl true) H) := by
  intro pins s σ H x y v u Q I rx ry h
  obtain ⟨h, q⟩ := h
  rcases h with ⟨z, a, o, kvs, rfl, rfl, e⟩ | ⟨z, a, o, kvs, rfl, rfl, e⟩
  · obtain ⟨t, rfl⟩ := rx
    cases ry
    obtain ⟨es, n, ho⟩ := dk_obj I e
    exact rn_str_dict z t ho (by omega) X.prog X.w _ _ ⟨.bl _, H, I, rfl, q⟩
  · obtain ⟨t, rfl⟩ := ry
    cases rx
    obtain ⟨es, n, ho⟩ := dk_obj I e
    exact rn_dict_str z t ho (by omega) X.prog X.w _ _ ⟨.bl _, H, I, rfl, q⟩
/-- surely unlike, whatever stands within -/
def Off (K : PySem.W.Frag) (H : Hp) (x y : V) : Prop := TxDk H x y ∨ (∃ z a xs, x = .str z ∧ y = .ref a ∧ (SqL K H a xs ∨ SqT K H a xs)) ∨ (∃ z a xs, x = .ref a ∧ y = .str z ∧ (SqL K H a xs ∨ SqT K H a xs)) ∨
  (∃ a b xs ys, x = .ref a ∧ y = .ref b ∧ SqT K H a xs ∧ SqT K H b ys ∧ (xs = [] ∨ ys = []) ∧ xs.length ≠ ys.length) ∨ ∃ a b xs ys, x = .ref a ∧ y = .ref b ∧ SqL K H a xs ∧ SqL K H b ys ∧ xs.length ≠ ys.length
theorem op_eqOff {X : Cx} (hu : X.A.units + 64 < cLine) : OpR X (compareOp .Eq) (fun x y H Q => Off X.K H x y ∧ Q (.bl false) H) := by
  intro pins s σ H x y v u Q I rx ry h
  obtain ⟨h, q⟩ := h
  rcases h with h | ⟨z, a, xs, rfl, rfl, e⟩ | ⟨z, a, xs, rfl, rfl, e⟩ | ⟨a, b, xs, ys, rfl, rfl, e1, e2, em, hl⟩ | ⟨a, b, xs, ys, rfl, rfl, e1, e2, hl⟩
  · exact op_eqSD hu pins s σ H x y v u Q I rx ry ⟨h, q⟩
  · obtain ⟨t, rfl⟩ := rx
    cases ry
    rcases e with e | e
    · obtain ⟨its, r, pl, hz⟩ := I.list e
      exact RcAt.str_list z t pl.isList (by omega) X.prog X.w _ _ ⟨.bl _, H, I, rfl, q⟩
    · obtain ⟨its, r, pl, hz⟩ := I.tuple e
      exact RcAt.str_tuple z t pl (by omega) X.prog X.w _ _ ⟨.bl _, H, I, rfl, q⟩
  · obtain ⟨t, rfl⟩ := ry
    cases rx
    rcases e with e | e
    · obtain ⟨its, r, pl, hz⟩ := I.list e
      exact RcAt.list_str z t pl.isList (by omega) X.prog X.w _ _ ⟨.bl _, H, I, rfl, q⟩
    · obtain ⟨its, r, pl, hz⟩ := I.tuple e
      exact RcAt.tuple_str z t pl (by omega) X.prog X.w _ _ ⟨.bl _, H, I, rfl, q⟩
  · cases rx
    cases ry
    obtain ⟨its, r, pl, hz⟩ := I.tuple e1
    obtain ⟨its2, r2, pl2, hz2⟩ := I.tuple e2
    have l1 := r.length
    have l2 := r2.length
    have hm : min its.toArray.size its2.toArray.size = 0 := by
      rw [List.size_toArray, List.size_toArray]
      rcases em with rfl | rfl
      · simp at l1; omega
      · simp at l2; omega
    have hz : (its.toArray.size == its2.toArray.size) = false := by
      rw [List.size_toArray, List.size_toArray, beq_eq_false_iff_ne]
      omega
    have := RcAt.tuples (e := fun _ => true) (A := X.A) pl pl2 (by omega) (fun j h1 h2 => absurd (Nat.lt_min.mpr ⟨h1, h2⟩) (by omega))
    rw [hz, Bool.and_false] at this
    exact this X.prog X.w _ _ ⟨.bl _, H, I, rfl, q⟩
  · cases rx
    cases ry
    obtain ⟨its, r, pl, hz⟩ := I.list e1
    obtain ⟨its2, r2, pl2, hz2⟩ := I.list e2
    have l1 := r.length
    have l2 := r2.length
    exact RcAt.lists_lengths pl.isList pl2.isList (by rw [List.size_toArray, List.size_toArray, bne_iff_ne]; omega) (by omega) X.prog X.w _ _ ⟨.bl _, H, I, rfl, q⟩
theorem op_neOff {X : Cx} (hu : X.A.units + 64 < cLine) : OpR X (compareOp .NotEq) (fun x y H Q => Off X.K H x y ∧ Q (.bl true) H) := by
  intro pins s σ H x y v u Q I rx ry h
  obtain ⟨h, q⟩ := h
  rcases h with h | ⟨z, a, xs, rfl, rfl, e⟩ | ⟨z, a, xs, rfl, rfl, e⟩ | ⟨a, b, xs, ys, rfl, rfl, e1, e2, em, hl⟩ | ⟨a, b, xs, ys, rfl, rfl, e1, e2, hl⟩
  · exact op_neSD hu pins s σ H x y v u Q I rx ry ⟨h, q⟩
  · obtain ⟨t, rfl⟩ := rx
    cases ry
    rcases e with e | e
    · obtain ⟨its, r, pl, hz⟩ := I.list e
      exact RcNeAt.str_list z t pl.isList (by omega) X.prog X.w _ _ ⟨.bl _, H, I, rfl, q⟩
    · obtain ⟨its, r, pl, hz⟩ := I.tuple e
      exact RcNeAt.str_tuple z t pl (by omega) X.prog X.w _ _ ⟨.bl _, H, I, rfl, q⟩
  · obtain ⟨t, rfl⟩ := ry
    cases rx
    rcases e with e | e
    · obtain ⟨its, r, pl, hz⟩ := I.list e
      exact RcNeAt.list_str z t pl.isList (by omega) X.prog X.w _ _ ⟨.bl _, H, I, rfl, q⟩
    · obtain ⟨its, r, pl, hz⟩ := I.tuple e
      exact RcNeAt.tuple_str z t pl (by omega) X.prog X.w _ _ ⟨.bl _, H, I, rfl, q⟩
  · cases rx
    cases ry
    obtain ⟨its, r, pl, hz⟩ := I.tuple e1
    obtain ⟨its2, r2, pl2, hz2⟩ := I.tuple e2
    have l1 := r.length
    have l2 := r2.length
    have hm : min its.toArray.size its2.toArray.size = 0 := by
      rw [List.size_toArray, List.size_toArray]
      rcases em with rfl | rfl
      · simp at l1; omega
      · simp at l2; omega
    have hz : (its.toArray.size == its2.toArray.size) = false := by
      rw [List.size_toArray, List.size_toArray, beq_eq_false_iff_ne]
      omega
    have := RcNeAt.tuples (e := fun _ => true) (A := X.A) pl pl2 (by omega) (fun j h1 h2 => absurd (Nat.lt_min.mpr ⟨h1, h2⟩) (by omega))
    rw [hz, Bool.and_false, Bool.not_false] at this
    exact this X.prog X.w _ _ ⟨.bl _, H, I, rfl, q⟩
  · cases rx
    cases ry
    obtain ⟨its, r, pl, hz⟩ := I.list e1
    obtain ⟨its2, r2, pl2, hz2⟩ := I.list e2
    have l1 := r.length
    have l2 := r2.length
    exact RcNeAt.lists_lengths pl.isList pl2.isList (by rw [List.size_toArray, List.size_toArray, bne_iff_ne]; omega) (by omega) X.prog X.w _ _ ⟨.bl _, H, I, rfl, q⟩
theorem eq_str_dict {A : Around} {s : Shared} {l : Addr} {dd : Option Addr} {es : Array DictEntry} {n : Nat} {sl : Array (Option Value)} (b : Str) (u : Tok)
    (ho : s.heap.get? l = some { cls := .type "dict", dict := dd, data := .dict es n, slots := sl }) (hu : A.units < cLine) : EqAt A s (.str b u) (.ref l) false := fun prog w E Q h => by
  unfold eqBool
  refine wpAny_holding ?_
  refine wpAny_ite_split (fun hab => absurd (eq_of_beq hab) nofun) (fun _ => ?_)
  exact wpAny_bind (rc_str_dict b u ho hu prog w E _ (wpAny_truthy_bool h))
/-- a dict, a tuple, a list among texts: it is none of them -/
def DkIn (K : PySem.W.Frag) (H : Hp) (x y : V) : Prop := ∃ a b xs, x = .ref a ∧ ((∃ o kvs, H a = some (.frz o (.dK kvs))) ∨ ∃ zs, SqL K H a zs ∨ SqT K H a zs) ∧ y = .ref b ∧ SqL K H b xs ∧ ∀ v ∈ xs, ∃ z, v = V.str z
theorem eq_str_off {X : Cx} {pins : List (Addr × Obj)} {σ : L2.St} {H : Hp} {s : Shared} (I : Inv X pins σ H s) {a : Addr} (h : (∃ o kvs, H a = some (.frz o (.dK kvs))) ∨ ∃ zs, SqL X.K H a zs ∨ SqT X.K H a zs) {A : Around} (hu : A.units < cLine) (b : Str) (u : Tok) : EqAt A s (.str b u) (.ref a) false := by
  rcases h with ⟨o, kvs, e⟩ | ⟨zs, e | e⟩
  · obtain ⟨es, n, ho⟩ := dk_obj I e
    exact eq_str_dict b u ho hu
  · obtain ⟨its, r, pl, hz⟩ := I.list e
    exact EqAt.str_list b u pl.isList hu
  · obtain ⟨its, r, pl, hz⟩ := I.tuple e
    exact EqAt.str_tuple b u pl hu
theorem vals_strs : ∀ {xs : List V} {us : List Value}, Vals xs us → (∀ v ∈ xs, ∃ z, v = V.str z) → ∀ u ∈ us, ∃ z t, u = Value.str z t
  | _, _, .nil, _, u, hu => by cases hu
  | _, _, .cons r rs, h, u, hu => by
    rcases List.mem_cons.mp hu with rfl | hu
    · obtain ⟨z, rfl⟩ := h _ (List.mem_cons_self ..)
      obtain ⟨t, rfl⟩ := r
      exact ⟨z, t, rfl⟩
    · exact vals_strs rs (fun v hv => h v (List.mem_cons_of_mem _ hv)) u hu
theorem any_false (us : Array Value) : us.any (fun _ => false) = false := by simp
theorem op_inSD {X : Cx} (hu : X.A.units + 65 < cLine) : OpR X (compareOp .In) (fun x y H Q => DkIn X.K H x y ∧ Q (.bl false) H) := by
  intro pins s σ H x y v u Q I rx ry h
  obtain ⟨⟨a, b, xs, rfl, e, rfl, hs, hx⟩, q⟩ := h
  cases rx
  cases ry
  obtain ⟨its, rv, ⟨ol, m, hol, hc, _, hd⟩, _⟩ := I.list hs
  have hst := vals_strs rv hx
  refine in_listAt (fun _ => false) ⟨ol, hol, hc, m, hd⟩ (fun y hy => ?_) ?_
  · obtain ⟨z, t, rfl⟩ := hst y (by simpa using hy)
    exact eq_str_off I e (by have : X.A.in1.units = X.A.units + 1 := rfl; omega) z t
  · rw [any_false]
    exact ⟨.bl _, H, I, rfl, q⟩
theorem op_notInSD {X : Cx} (hu : X.A.units + 65 < cLine) : OpR X (compareOp .NotIn) (fun x y H Q => DkIn X.K H x y ∧ Q (.bl true) H) := by
  intro pins s σ H x y v u Q I rx ry h
  obtain ⟨⟨a, b, xs, rfl, e, rfl, hs, hx⟩, q⟩ := h
  cases rx
  cases ry
  obtain ⟨its, rv, ⟨ol, m, hol, hc, _, hd⟩, _⟩ := I.list hs
  have hst := vals_strs rv hx
  refine notIn_listAt (fun _ => false) ⟨ol, hol, hc, m, hd⟩ (fun y hy => ?_) ?_
  · obtain ⟨z, t, rfl⟩ := hst y (by simpa using hy)
    exact eq_str_off I e (by have : X.A.in1.units = X.A.units + 1 := rfl; omega) z t
  · rw [any_false]
    exact ⟨.bl _, H, I, rfl, q⟩
end DV

set_option maxHeartbeats 4000000
/-! Tuples made in the run, their objects known. -/
namespace DV
open PySem PySem.Spec PyProof.Rows L2
abbrev tupB (us : List Value) : Obj := { cls := .type "tuple", data := .seq us.toArray }
section
variable {X : Cx} {pins : List (Addr × Obj)} {σ : L2.St} {H : Hp} {s : Shared} {xs : List V} {us : List Value} {Q : VK}
/-- a tuple is laid behind all that stands -/
theorem lay_tupF (I : Inv X pins σ H s) (r : Vals xs us) (hz : xs.length ≤ sizeLine) (q : ∀ p (o : Obj), o.dict = none → H p = none → Q (.ref p) (upd H p (.frz o (.tup xs)))) : EP X pins σ Q (.ref s.heap.objs.size) { s with heap := s.heap.push (tupB us) } :=
  ⟨.ref s.heap.objs.size, _, I.laid (t' := s.toks) (fun b u e => Heap.get?_push_of_some _ e) (Nat.le_refl _) (tupF_ok hz r (Heap.get?_push_size _ rfl) rfl rfl), rfl, q _ (tupB us) rfl (I.hok.fresh (Nat.le_refl _))⟩
end
section
variable {X : Cx}
/-- divmod -/
theorem call_divmodF : CallR X (.builtin "divmod") (fun xs H Q => ∃ i j, xs = [.int i, .int j] ∧ CDiv i j ∧ ∀ p (o : Obj), o.dict = none → H p = none → Q (.ref p) (upd H p (.frz o (.tup [.int (i / j), .int (i % j)])))) := by
  intro pins s σ H xs us Q I r h
  obtain ⟨i, j, rfl, hij, q⟩ := h
  obtain ⟨a, b, rfl, ⟨t, rfl⟩, ⟨t', rfl⟩⟩ := vals2 r
  have j0 : 0 ≤ j := by have := hij.1; omega
  refine divmod_int (by have := hij.1; omega) ?_ (.inl (PyProof.noPylong_small (by have := hij.2; omega)))
  rw [Int.fdiv_eq_ediv_of_nonneg i j0, Int.fmod_eq_emod_of_nonneg i j0]
  exact lay_tupF (xs := [.int (i / j), .int (i % j)]) (us := [.int (i / j) s.toks, .int (i % j) (s.toks + 1)]) (s := { s with toks := s.toks + 2 }) (I.tok _) (.cons ⟨_, rfl⟩ (.cons ⟨_, rfl⟩ .nil)) (by show 2 ≤ sizeLine; decide) q
/-- tuple(x) -/
theorem call_tupleF : CallR X (.type "tuple") (fun xs H Q => ∃ p ys, xs = [.ref p] ∧ ((SqL X.K H p ys ∧ (ys.length ≤ sizeLine → ∀ l (o : Obj), o.dict = none → H l = none → Q (.ref l) (upd H l (.frz o (.tup ys))))) ∨ (SqT X.K H p ys ∧ Q (.ref p) H))) := by
  intro pins s σ H xs us Q I r h
  obtain ⟨p, ys, rfl, h⟩ := h
  rcases h with ⟨hl, q⟩ | ⟨ht, q⟩
  · obtain ⟨u, rfl, rx⟩ := vals1 r
    cases rx
    obtain ⟨its, rv, pl, hz⟩ := I.list hl
    refine call_tuple_list pl.isList (fun h' kp => ?_) (by rw [List.size_toArray, ← rv.length]; exact hz)
    exact lay_tupF (s := { s with heap := h' }) (I.kept (t' := s.toks) kp) rv hz (q hz)
  · exact call_tuple_of pins s σ H _ us Q I r ⟨p, ys, rfl, .inr ⟨ht, q⟩⟩
/-- t + u -/
theorem op_catS : OpR X (binaryOp .Add) (fun x y H Q => ∃ a b xs ys, x = V.ref a ∧ y = V.ref b ∧ SqT X.K H a xs ∧ SqT X.K H b ys ∧ xs.length + ys.length ≤ sizeLine ∧
    (xs = [] → Q (.ref b) H) ∧ (xs ≠ [] → ys = [] → Q (.ref a) H) ∧ (xs ≠ [] → ys ≠ [] → ∀ p (o : Obj), o.dict = none → H p = none → Q (.ref p) (upd H p (.frz o (.tup (xs ++ ys)))))) := by
  intro pins s σ H x y v u Q I rx ry h
  obtain ⟨a, b, xs, ys, rfl, rfl, ha, hb, hz, q0, q1, q2⟩ := h
  by_cases hx : xs = []
  · exact op_catA pins s σ H _ _ v u Q I rx ry ⟨a, b, xs, ys, rfl, rfl, ha, hb, hz, q0, q1, fun z => absurd hx z⟩
  cases rx
  cases ry
  obtain ⟨vs, r1, p1, _⟩ := I.tuple ha
  obtain ⟨ws, r2, p2, _⟩ := I.tuple hb
  refine HT.cat_tup p1 p2 (fun z => hx (r1.nil_iff.mp z)) (fun z => ⟨.ref a, H, I, rfl, q1 hx (r2.nil_iff.mp z)⟩) (fun z => ?_) (by rw [← r1.length, ← r2.length]; exact hz)
  exact lay_tupF I (r1.append r2) (by rw [List.length_append]; exact hz) (q2 hx fun e => z (r2.nil_iff.mpr e))
/-- t[lo:hi] -/
theorem sl_tupS : SlR X (fun x lo hi H Q => ∃ a xs, x = .ref a ∧ SqT X.K H a xs ∧
    (HT.sIx xs.length 0 lo = 0 ∧ HT.sIx xs.length xs.length hi = xs.length → Q (.ref a) H) ∧ (¬ (HT.sIx xs.length 0 lo = 0 ∧ HT.sIx xs.length xs.length hi = xs.length) → ∀ p (o : Obj), o.dict = none → H p = none → Q (.ref p) (upd H p (.frz o (.tup (cutV xs lo hi)))))) := by
  intro pins s σ H x v vl vu lo hi sl Q I rx hs pl pu h
  obtain ⟨a, xs, rfl, hx, q1, q2⟩ := h
  by_cases hw : HT.sIx xs.length 0 lo = 0 ∧ HT.sIx xs.length xs.length hi = xs.length
  · exact sl_tupA pins s σ H _ v vl vu lo hi sl Q I rx hs pl pu ⟨a, xs, rfl, hx, q1, fun z => absurd hw z⟩
  cases rx
  obtain ⟨its, r, ht, hz⟩ := I.tuple hx
  have hlen : its.toArray.size = xs.length := by rw [List.size_toArray]; exact r.length.symm
  refine ⟨"tuple", _, PyProof.Rows.slot_tuple_getitem.lookup, ht.typeIs, HT.getItem_tuple_cut ht hs pl pu (by rw [hlen]; exact hw) ?_ (by rw [hlen]; exact hz)⟩
  rw [hlen]
  exact lay_tupF I ((r.drop _).take _) (Nat.le_trans (cutV_length xs lo hi) hz) (q2 hw)
end
end DV

set_option maxHeartbeats 4000000
namespace DV
open PySem PySem.Spec PyProof.Rows L2
/-! Operators, built-ins, methods by values. -/
section
variable {X : Cx}
theorem dop_int {o : Value → Value → Sem Value} {gi : Int → Int → PyData} {gv : Int → Int → V} {C : Int → Int → Prop} [∀ i j, Decidable (C i j)] (h : OpR X o (rI C gv)) (hg : ∀ K H i j, Pp K H (gv i j) (gi i j)) {g : D → D → Sto → R D}
    (eg : ∀ d e S, g d e S = match d, e with
      | .py (.int i), .py (.int j) => if C i j then .ok (.py (gi i j)) S else .no
      | _, _ => .no) : DOp X o g := by
  refine ⟨_, h, fun x y d e H S ι E Q hS rx ry hw => ?_⟩
  rw [eg] at hw
  split at hw
  · split at hw
    · rename_i hc
      exact ⟨_, _, int_of rx, int_of ry, hc, hw _ _ _ (.refl hS) (.py (hg _ _ _ _))⟩
    · exact hw.elim
  · exact hw.elim
theorem dop_int0 {o : Value → Value → Sem Value} {gi : Int → Int → PyData} {gv : Int → Int → V} (h : OpR X o (rI0 gv)) (hg : ∀ K H i j, Pp K H (gv i j) (gi i j)) {g : D → D → Sto → R D}
    (eg : ∀ d e S, g d e S = match d, e with
      | .py (.int i), .py (.int j) => .ok (.py (gi i j)) S
      | _, _ => .no) : DOp X o g := by
  refine ⟨_, h, fun x y d e H S ι E Q hS rx ry hw => ?_⟩
  rw [eg] at hw
  split at hw
  · exact ⟨_, _, int_of rx, int_of ry, hw _ _ _ (.refl hS) (.py (hg _ _ _ _))⟩
  · exact hw.elim
theorem do_sub : DOp X (binaryOp .Sub) subD := dop_int0 op_sub (fun _ _ i j => .int (i - j)) fun d e S => by cases d with | obj _ => rfl | raw _ => rfl | py d => cases d <;> first | rfl | (cases e with | obj _ => rfl | raw _ => rfl | py e => cases e <;> rfl)
instance (i j : Int) : Decidable (CMul i j) := by unfold CMul; exact inferInstance
instance (i j : Int) : Decidable (CDiv i j) := by unfold CDiv; exact inferInstance
instance (i j : Int) : Decidable (CPow i j) := by unfold CPow; exact inferInstance
theorem do_mul : DOp X (binaryOp .Mult) mulD := dop_int op_mul (fun _ _ i j => .int (i * j)) fun d e S => by cases d with | obj _ => rfl | raw _ => rfl | py d => cases d <;> first | rfl | (cases e with | obj _ => rfl | raw _ => rfl | py e => cases e <;> rfl)
theorem do_fdiv : DOp X (binaryOp .FloorDiv) fdivD := dop_int op_fdiv (fun _ _ i j => .int (i / j)) fun d e S => by cases d with | obj _ => rfl | raw _ => rfl | py d => cases d <;> first | rfl | (cases e with | obj _ => rfl | raw _ => rfl | py e => cases e <;> rfl)
theorem do_mod : DOp X (binaryOp .Mod) modD := dop_int op_mod (fun _ _ i j => .int (i % j)) fun d e S => by cases d with | obj _ => rfl | raw _ => rfl | py d => cases d <;> first | rfl | (cases e with | obj _ => rfl | raw _ => rfl | py e => cases e <;> rfl)
theorem do_le : DOp X (compareOp .LtE) (cmpI fun i j => decide (i ≤ j)) := dop_int0 op_le (fun _ _ i j => .bl _) fun d e S => by cases d with | obj _ => rfl | raw _ => rfl | py d => cases d <;> first | rfl | (cases e with | obj _ => rfl | raw _ => rfl | py e => cases e <;> rfl)
theorem do_gt : DOp X (compareOp .Gt) (cmpI fun i j => decide (j < i)) := dop_int0 op_gt (fun _ _ i j => .bl _) fun d e S => by cases d with | obj _ => rfl | raw _ => rfl | py d => cases d <;> first | rfl | (cases e with | obj _ => rfl | raw _ => rfl | py e => cases e <;> rfl)
theorem do_ge : DOp X (compareOp .GtE) (cmpI fun i j => decide (j ≤ i)) := dop_int0 op_ge (fun _ _ i j => .bl _) fun d e S => by cases d with | obj _ => rfl | raw _ => rfl | py d => cases d <;> first | rfl | (cases e with | obj _ => rfl | raw _ => rfl | py e => cases e <;> rfl)
theorem du_neg : DUn X (unaryOp .USub) negD := ⟨_, un_neg, fun x d H S ι E Q hS rx hw => by
  unfold negD at hw
  split at hw
  · exact ⟨_, int_of rx, hw _ _ _ (.refl hS) (.py (.int _))⟩
  · exact hw.elim⟩
/-! ### lists and tuples put together -/
theorem op_catF : OpR X (binaryOp .Add) (fun x y H Q => ∃ l b xs zs, x = .ref l ∧ y = .ref b ∧ SqL X.K H l xs ∧ SqL X.K H b zs ∧ xs.length + zs.length ≤ sizeLine ∧ ∀ p o, H p = none → Q (.ref p) (upd H p (.frz o (.lst (xs ++ zs))))) := by
  intro pins s σ H x y v u Q I rx ry h
  obtain ⟨l, b, xs, zs, rfl, rfl, hl, hb, hz, q⟩ := h
  cases rx
  cases ry
  obtain ⟨its, r, ⟨⟨c1, d1, dt1, s1⟩, n1, e1, hc1, hd1, hs1⟩, _⟩ := I.list hl
  obtain ⟨its2, r2, ⟨⟨c2, d2, dt2, s2⟩, n2, e2, hc2, hd2, hs2⟩, _⟩ := I.list hb
  simp only at hc1 hd1 hs1 hc2 hd2 hs2
  subst hc1 hd1 hs1 hc2 hd2 hs2
  refine concat_meets ⟨_, e1, rfl⟩ ⟨_, e2, rfl⟩ noFill_list_add seq_list_add PySem.F.slot_list_add PySem.F.entry_list_add (PySem.F.args_list_add_2 _ _) (list_addW l b its.toArray its2.toArray n1 n2 none none s1 s2 (by rw [List.size_toArray, List.size_toArray, ← r.length, ← r2.length]; exact hz)) ⟨e1, e2, ?_⟩
  have ea : its.toArray ++ its2.toArray = (its ++ its2).toArray := by simp
  rw [ea]
  have I2 := I.lnew (t' := s.toks) (r.append r2) (by rw [List.length_append]; exact hz)
  obtain ⟨o, I3⟩ := I2.lock upd_same trivial
  rw [upd_upd] at I3
  exact ⟨.ref _, _, I3, rfl, q _ o I.fresh⟩
theorem do_add : DOp X (binaryOp .Add) addD := by
  refine ⟨_, ((op_add (X := X)).or (op_add_str (X := X))).or ((op_catF (X := X)).or (op_catS (X := X))), fun x y d e H S ι E Q hS rx ry hw => ?_⟩
  unfold addD at hw
  split at hw
  · exact .inl (.inl ⟨_, _, int_of rx, int_of ry, hw _ _ _ (.refl hS) (.py (.int _))⟩)
  · split at hw
    · rename_i hz
      exact .inl (.inr ⟨_, _, str_of rx, str_of ry, hz, hw _ _ _ (.refl hS) (.py (.str _))⟩)
    · exact hw.elim
  · split at hw
    · rename_i xs ys S hz
      cases rx with
      | py rx =>
        cases rx with
        | lst h1 z1 a1 =>
          cases ry with
          | py ry =>
            cases ry with
            | lst h2 z2 a2 =>
              refine .inr (.inl ⟨_, _, _, _, rfl, rfl, h1.sq, h2.sq, by rw [a1.length, a2.length]; exact hz, fun p o hp => hw _ _ _ (.new hS hp) (.py (.lst (.inl ⟨o, upd_same⟩) (by rw [List.length_append]; exact hz) ?_))⟩)
              exact (a1.append a2).keep (.new hp)
    · exact hw.elim
  · split at hw
    · rename_i xs ys S hz
      cases rx with
      | py rx =>
        cases rx with
        | tup h1 z1 a1 =>
          cases ry with
          | py ry =>
            cases ry with
            | tup h2 z2 a2 =>
              refine .inr (.inr ⟨_, _, _, _, rfl, rfl, h1.sq, h2.sq, by rw [a1.length, a2.length]; exact hz, fun e0 => ?_, fun _ e0 => ?_, fun _ _ p o ho hp => hw _ _ _ (.new hS hp) (.py (.tup (.new ho) (by rw [List.length_append]; exact hz) ?_))⟩)
              · subst e0
                cases a1
                exact hw _ _ _ (.refl hS) (.py (.tup h2 z2 a2))
              · subst e0
                cases a2
                rw [List.append_nil] at hw
                exact hw _ _ _ (.refl hS) (.py (.tup h1 z1 a1))
              · exact (a1.append a2).keep (.new hp)
    · exact hw.elim
  · exact hw.elim
/-! ### == -/
theorem flat_scal {K : PySem.W.Frag} {H : Hp} {x y : V} {d e : PyData} {k : Bool} (rx : Pp K H x d) (ry : Pp K H y e) (h : flatD d e = some k) : scal x y = true ∧ decide (x = y) = k := by
  cases rx <;> cases ry <;> simp [flatD] at h <;> subst h <;> simp [scal]
theorem txdk_of {K : PySem.W.Frag} {H : Hp} {x y : V} {d e : PyData} (rx : Pp K H x d) (ry : Pp K H y e) (h : dkTx d e = true) : TxDk H x y := by
  cases rx <;> cases ry <;> simp [dkTx] at h
  · rename_i z a o kvs ds e _ _
    exact .inl ⟨_, _, _, _, rfl, rfl, e⟩
  · rename_i a o kvs ds e _ _ z
    exact .inr ⟨_, _, _, _, rfl, rfl, e⟩
theorem off_of {K : PySem.W.Frag} {H : Hp} {x y : V} {d e : PyData} (rx : Pp K H x d) (ry : Pp K H y e) (h : offB d e = true) : Off K H x y := by
  cases rx <;> cases ry
  case str.dic => exact .inl (txdk_of (.str _) (.dic ‹_› ‹_› ‹_›) rfl)
  case dic.str => exact .inl (txdk_of (.dic ‹_› ‹_› ‹_›) (.str _) rfl)
  case str.lst => exact .inr (.inl ⟨_, _, _, rfl, rfl, .inl (FL.sq ‹_›)⟩)
  case str.tup => exact .inr (.inl ⟨_, _, _, rfl, rfl, .inr (FT.sq ‹_›)⟩)
  case lst.str => exact .inr (.inr (.inl ⟨_, _, _, rfl, rfl, .inl (FL.sq ‹_›)⟩))
  case tup.str => exact .inr (.inr (.inl ⟨_, _, _, rfl, rfl, .inr (FT.sq ‹_›)⟩))
  case lst.lst h1 _ a1 _ _ _ h2 _ a2 =>
    have l1 := a1.length
    have l2 := a2.length
    exact .inr (.inr (.inr (.inr ⟨_, _, _, _, rfl, rfl, h1.sq, h2.sq, by simpa [offB, l1, l2] using h⟩)))
  case tup.tup ds1 h1 _ a1 _ _ ds2 h2 _ a2 =>
    have l1 := a1.length
    have l2 := a2.length
    refine .inr (.inr (.inr (.inl ⟨_, _, _, _, rfl, rfl, h1.sq, h2.sq, ?_⟩)))
    cases a1 <;> cases a2 <;> simp [offB] at h ⊢
  all_goals simp [offB, dkTx] at h
theorem do_eq {k : Nat} {E : XK} (o : Okx k X E) : DOp X (compareOp .Eq) eqD := by
  refine ⟨_, (op_eq (X := X)).or ((op_eqD (X := X) o.room.units).or (op_eqOff (X := X) o.room.units)), fun x y d e H S ι E Q hS rx ry hw => ?_⟩
  cases rx with
  | obj _ => exact hw.elim
  | raw _ => exact hw.elim
  | py rx =>
    cases ry with
    | obj _ => exact hw.elim
    | raw _ => exact hw.elim
    | py ry =>
      unfold eqD eqB at hw
      simp only at hw
      split at hw
      · rename_i k hk
        split at hk
        · rename_i k' hf
          cases hk
          obtain ⟨h1, h2⟩ := flat_scal rx ry hf
          refine .inl ⟨h1, ?_⟩
          rw [h2]
          exact hw _ _ _ (.refl hS) (.py (.bl _))
        · split at hk
          · rename_i hs
            cases hk
            exact .inr (.inl ⟨_, _, rx.dp (noDict_of hs.1), ry.dp (noDict_of hs.2), hs.1, hs.2, hw _ _ _ (.refl hS) (.py (.bl _))⟩)
          · split at hk
            · rename_i hd
              cases hk
              exact .inr (.inr ⟨off_of rx ry hd, hw _ _ _ (.refl hS) (.py (.bl _))⟩)
            · cases hk
      · exact hw.elim
theorem do_ne {k : Nat} {E : XK} (o : Okx k X E) : DOp X (compareOp .NotEq) neD := by
  refine ⟨_, (op_ne (X := X)).or ((op_neD (X := X) o.room.units).or (op_neOff (X := X) o.room.units)), fun x y d e H S ι E Q hS rx ry hw => ?_⟩
  cases rx with
  | obj _ => exact hw.elim
  | raw _ => exact hw.elim
  | py rx =>
    cases ry with
    | obj _ => exact hw.elim
    | raw _ => exact hw.elim
    | py ry =>
      unfold neD eqB at hw
      simp only at hw
      split at hw
      · rename_i k hk
        split at hk
        · rename_i k' hf
          cases hk
          obtain ⟨h1, h2⟩ := flat_scal rx ry hf
          refine .inl ⟨h1, ?_⟩
          rw [h2]
          exact hw _ _ _ (.refl hS) (.py (.bl _))
        · split at hk
          · rename_i hs
            cases hk
            exact .inr (.inl ⟨_, _, rx.dp (noDict_of hs.1), ry.dp (noDict_of hs.2), hs.1, hs.2, hw _ _ _ (.refl hS) (.py (.bl _))⟩)
          · split at hk
            · rename_i hd
              cases hk
              exact .inr (.inr ⟨off_of rx ry hd, hw _ _ _ (.refl hS) (.py (.bl _))⟩)
            · cases hk
      · exact hw.elim
theorem non_iff {K : PySem.W.Frag} {H : Hp} {x : V} {d : PyData} (r : Pp K H x d) : decide (x = .non) = isNon d := by
  cases r <;> simp [isNon]
theorem do_is : DOp X (compareOp .Is) isND := by
  refine ⟨_, op_isN, fun x y d e H S ι E Q hS rx ry hw => ?_⟩
  unfold isND at hw
  split at hw
  · cases ry with
    | py ry =>
      cases rx with
      | py rx =>
        cases ry
        exact ⟨rfl, by rw [non_iff rx]; exact hw _ _ _ (.refl hS) (.py (.bl _))⟩
  · exact hw.elim
theorem do_isnot : DOp X (compareOp .IsNot) notND := by
  refine ⟨_, op_notN, fun x y d e H S ι E Q hS rx ry hw => ?_⟩
  unfold notND at hw
  split at hw
  · cases ry with
    | py ry =>
      cases rx with
      | py rx =>
        cases ry
        exact ⟨rfl, by rw [non_iff rx]; exact hw _ _ _ (.refl hS) (.py (.bl _))⟩
  · exact hw.elim
/-! ### built-ins -/
theorem dc_len : DC X (.builtin "len") lenD := by
  refine ⟨_, (call_len_str (X := X)).or (call_len_seq (X := X)), fun xs ds H S ι E Q hS r hw => ?_⟩
  unfold lenD at hw
  split at hw
  · split at hw
    · rename_i hz
      cases r with
      | cons r rs =>
        cases rs
        exact .inl ⟨_, by rw [str_of r], hz, hw _ _ _ (.refl hS) (.py (.int _))⟩
    · exact hw.elim
  · split at hw
    · rename_i ds' hds
      cases r with
      | cons r rs =>
        cases rs
        obtain ⟨a, vs, rfl, hq, rr⟩ := seq_of hS r hds
        refine .inr ⟨a, vs, rfl, hq.imp id fun z => z.1.sq, ?_⟩
        rw [rr.length]
        exact hw _ _ _ (.refl hS) (.py (.int _))
    · exact hw.elim
  · exact hw.elim
theorem dc_max2 {k : Nat} {E : XK} (o : Okx k X E) : DC X (.builtin "max") max2D := by
  refine ⟨_, call_max2 o.calm, fun xs ds H S ι E Q hS r hw => ?_⟩
  unfold max2D at hw
  split at hw
  · cases r with
    | cons r rs =>
      cases rs with
      | cons r2 rs =>
        cases rs
        exact ⟨_, _, by rw [int_of r, int_of r2], hw _ _ _ (.refl hS) (.py (.int _))⟩
  · exact hw.elim
theorem dc_min2 {k : Nat} {E : XK} (o : Okx k X E) : DC X (.builtin "min") min2D := by
  refine ⟨_, call_min2 o.calm, fun xs ds H S ι E Q hS r hw => ?_⟩
  unfold min2D at hw
  split at hw
  · cases r with
    | cons r rs =>
      cases rs with
      | cons r2 rs =>
        cases rs
        exact ⟨_, _, by rw [int_of r, int_of r2], hw _ _ _ (.refl hS) (.py (.int _))⟩
  · exact hw.elim
theorem dc_abs : DC X (.builtin "abs") absD := by
  refine ⟨_, call_abs, fun xs ds H S ι E Q hS r hw => ?_⟩
  unfold absD at hw
  split at hw
  · cases r with
    | cons r rs =>
      cases rs
      exact ⟨_, by rw [int_of r], hw _ _ _ (.refl hS) (.py (.int _))⟩
  · exact hw.elim
theorem dc_divmod : DC X (.builtin "divmod") divmodD := by
  refine ⟨_, call_divmodF, fun xs ds H S ι E Q hS r hw => ?_⟩
  unfold divmodD at hw
  split at hw
  · split at hw
    · rename_i hz
      cases r with
      | cons r rs =>
        cases rs with
        | cons r2 rs =>
          cases rs
          exact ⟨_, _, by rw [int_of r, int_of r2], hz, fun p o ho hp => hw _ _ _ (.new hS hp) (.py (.tup (.new ho) (by show 2 ≤ sizeLine; decide) (.cons (.int _) (.cons (.int _) .nil))))⟩
    · exact hw.elim
  · exact hw.elim
theorem dc_tuple : DC X (.type "tuple") tupleD := by
  refine ⟨_, call_tupleF, fun xs ds H S ι E Q hS r hw => ?_⟩
  unfold tupleD at hw
  split at hw
  · split at hw
    · rename_i ds' hds
      split at hw
      · rename_i ps hp
        cases r with
        | cons r rs =>
          cases rs
          obtain ⟨a, vs, rfl, hq, rr⟩ := seq_of hS r hds
          have al := RdAll.pys rr hp
          rcases hq with hq | ⟨hq, qs, e, hz⟩
          · exact ⟨a, vs, rfl, .inl ⟨hq, fun z l o ho hl => hw _ _ _ (.new hS hl) (.py (.tup (.new ho) (by rw [← al.length]; exact z) (al.keep (.new hl))))⟩⟩
          · subst e
            refine ⟨a, vs, rfl, .inr ⟨hq.sq, hw _ _ _ (.refl hS) (.py (.tup hq ?_ al))⟩⟩
            simp only [seqOf] at hds
            cases hds
            rw [pysOf_length hp, List.length_map]
            exact hz
      · exact hw.elim
    · exact hw.elim
  · exact hw.elim
/-- a built-in that makes a new list -/
def DCL (X : Cx) (o : Value) (g : List D → Sto → R (List D)) : Prop := ∃ r, CallR X o r ∧ ∀ xs ds H S ι E Q, StR X.K ι H S → RdAll X.K ι H xs ds → Wp X.K X.mg E ι H (relL X.K H) (g ds S) Q → r xs H Q
theorem signs_rd {K : PySem.W.Frag} {ι : List Addr} {H : Hp} (l : List Nat) : RdAll K ι H (l.map fun c => V.str ⟨#[c]⟩) (l.map fun c => D.py (.str ⟨#[c]⟩)) := by
  induction l with
  | nil => exact .nil
  | cons c l ih => exact .cons (.py (.str _)) ih
theorem paired_ix {α β : Type} {G : α → β → Prop} : ∀ {l₁ : List α} {l₂ : List β}, l₁.length = l₂.length → (∀ (i : Nat) x y, l₁[i]? = some x → l₂[i]? = some y → G x y) → Paired G l₁ l₂
  | [], [], _, _ => .nil
  | _ :: _, [], h, _ => by cases h
  | [], _ :: _, h, _ => by cases h
  | a :: l, b :: m, h, q => .cons (q 0 a b rfl rfl) (paired_ix (Nat.succ.inj h) fun i x y e1 e2 => q (i + 1) x y (by simpa using e1) (by simpa using e2))
theorem items_signs {x : Str} {acc : Array Value} (h : ItemsOf (SignAt x) acc x.cps.size) : Vals (x.cps.toList.map fun c => V.str ⟨#[c]⟩) acc.toList := by
  refine paired_ix (by rw [List.length_map, Array.length_toList, Array.length_toList, h.1]) fun i v u e1 e2 => ?_
  rw [Array.getElem?_toList] at e2
  obtain ⟨c, t, h1, h2⟩ := h.2 i u e2
  rw [List.getElem?_map, Array.getElem?_toList, h1] at e1
  cases e1
  exact ⟨t, h2⟩
theorem call_listB : CallR X (.type "list") (fun xs H Q => ∃ p ys, xs = [.ref p] ∧ (SqL X.K H p ys ∨ SqT X.K H p ys) ∧ (ys.length ≤ sizeLine → ∀ l, H l = none → Q (.ref l) (upd H l (.lst ys)))) := by
  intro pins s σ H xs us Q I r h
  obtain ⟨p, ys, rfl, h1, h2⟩ := h
  have z : ys.length ≤ sizeLine := by
    rcases h1 with h1 | h1
    · obtain ⟨_, _, _, z⟩ := I.list h1
      exact z
    · obtain ⟨_, _, _, z⟩ := I.tuple h1
      exact z
  exact call_list_of pins s σ H _ us Q I r ⟨p, ys, rfl, h1, h2 z⟩
theorem call_list_strD {k : Nat} {E : XK} (o : Okx k X E) : CallR X (.type "list") (fun xs H Q => ∃ x, xs = [.str x] ∧ x.length ≤ sizeLine ∧ ∀ l, H l = none → Q (.ref l) (upd H l (.lst (x.cps.toList.map fun c => V.str ⟨#[c]⟩)))) := by
  intro pins s σ H xs us Q I r h
  obtain ⟨x, rfl, hz, q⟩ := h
  obtain ⟨u, rfl, ru⟩ := vals1 r
  obtain ⟨t, rfl⟩ := ru
  refine call_list_str (I.ok.hd o.calm) x t (fun h' tk acc' c' hk hS hacc => ?_) hz
  refine ⟨.ref _, _, I.laid (t' := tk) hk (Nat.le_refl _) ?_, rfl, q _ I.fresh⟩
  refine ⟨by rw [List.length_map, Array.length_toList]; exact hz, acc'.toList, c', items_signs hacc, ?_⟩
  simpa using hS
theorem dcl_list {k : Nat} {E : XK} (o : Okx k X E) : DCL X (.type "list") listD := by
  refine ⟨_, (call_list_strD o).or (call_listB (X := X)), fun xs ds H S ι E Q hS r hw => ?_⟩
  unfold listD at hw
  split at hw
  · split at hw
    · rename_i hz
      cases r with
      | cons r rs =>
        cases rs
        refine .inl ⟨_, by rw [str_of r], hz, fun l hl => hw _ _ _ (.new hS hl) ⟨l, _, hl, rfl, upd_same, hS.notin hl, by rw [List.length_map, Array.length_toList]; exact hz, signs_rd _⟩⟩
    · exact hw.elim
  · split at hw
    · rename_i ds' hds
      cases r with
      | cons r rs =>
        cases rs
        obtain ⟨a, vs, rfl, hq, rr⟩ := seq_of hS r hds
        exact .inr ⟨a, vs, rfl, hq.imp id fun z => z.1.sq, fun z l hl => hw _ _ _ (.new hS hl) ⟨l, _, hl, rfl, upd_same, hS.notin hl, z, RdAll.mono (List.prefix_refl _) (.new hl) rr⟩⟩
    · exact hw.elim
  · exact hw.elim
/-! ### the text of a value -/
mutual
theorem deep_dp {K : PySem.W.Frag} {ι : List Addr} {H : Hp} {S : Sto} (hS : StR K ι H S) : ∀ (n : Nat) {v : V} {d : D} {p : PyData}, Rd K ι H v d → deep S n d = some p → p.hasDict = false → Dp K H v p
  | 0, _, _, _, _, h, _ => by cases h
  | n + 1, v, .py d, p, r, h, q => by
    cases r with
    | py r => cases h; exact r.dp q
  | n + 1, v, .obj m, p, r, h, q => by
    cases r with
    | obj e =>
      simp only [deep] at h
      split at h
      · rename_i ds hd
        rw [Option.map_eq_some_iff] at h
        obtain ⟨ps, h1, h2⟩ := h
        subst h2
        cases hS.at_ _ _ _ hd e with
        | lst ha rr => exact .lst (.of ha) (deep_all hS n rr h1 (by rw [PyData.hasDict.eq_5] at q; exact q))
      · cases h
theorem deep_all {K : PySem.W.Frag} {ι : List Addr} {H : Hp} {S : Sto} (hS : StR K ι H S) (n : Nat) : ∀ {vs : List V} {ds : List D} {ps : List PyData}, RdAll K ι H vs ds → ds.mapM (deep S n) = some ps → PyData.hasDictAll ps = false → DpAll K H vs ps
  | _, [], _, .nil, h, _ => by
    simp at h
    subst h
    exact .nil
  | _, d :: ds, ps, .cons r rs, h, q => by
    rw [List.mapM_cons] at h
    simp only [Option.bind_eq_bind, Option.bind_eq_some_iff, Option.pure_def, Option.some.injEq] at h
    obtain ⟨p, h1, qs, h2, rfl⟩ := h
    rw [PyData.hasDictAll.eq_2, Bool.or_eq_false_iff] at q
    exact .cons (deep_dp hS n r h1 q.1) (deep_all hS n rs h2 q.2)
end
theorem call_reprD {k : Nat} {E : XK} (o : Okx k X E) : CallR X (.builtin "repr") (fun xs H Q => ∃ x p, xs = [x] ∧ Dp X.K H x p ∧ p.showable = true ∧ p.hasDict = false ∧ p.depth ≤ 60 ∧ p.shown.length ≤ sizeLine ∧ Q (.str p.shown) H) := by
  intro pins s σ H xs us Q I r h
  obtain ⟨x, p, rfl, hd, h1, h2, h3, h4, q⟩ := h
  obtain ⟨u, rfl, ru⟩ := vals1 r
  have hu := o.room.un
  cases hd with
  | non =>
    cases ru
    exact PySem.P.repr_of_none ⟨.str _, H, I.tok _, ⟨_, rfl⟩, by simpa only [PyData.shown] using q⟩
  | bl b =>
    cases ru
    exact PySem.P.repr_of_bool ⟨.str _, H, I.tok _, ⟨_, rfl⟩, by simpa only [PyData.shown] using q⟩
  | int i =>
    obtain ⟨t, rfl⟩ := ru
    exact PySem.P.repr_of_int (by simpa [PyData.showable] using h1) ⟨.str _, H, I.tok _, ⟨_, rfl⟩, by simpa only [PyData.shown] using q⟩
  | str z =>
    obtain ⟨t, rfl⟩ := ru
    exact PySem.P.repr_of_str ⟨.str _, H, I.tok _, ⟨_, rfl⟩, by simpa only [PyData.shown] using q⟩ (by simpa only [PyData.shown] using h4)
  | lst hq al =>
    have ru' := ru
    cases ru
    obtain ⟨as, hr⟩ := Dp.reads I _ _ _ (.lst hq al) ru'
    exact repr_of_reads' hr h1 (fun z => by rw [h2] at z; cases z) o.gd (by omega) (fun _ _ e => e) (fun h' u tk hk => ⟨.str _, H, I.kept (t' := tk) hk, ⟨_, rfl⟩, q⟩) h4
  | tup hq al =>
    have ru' := ru
    cases ru
    obtain ⟨as, hr⟩ := Dp.reads I _ _ _ (.tup hq al) ru'
    exact repr_of_reads' hr h1 (fun z => by rw [h2] at z; cases z) o.gd (by omega) (fun _ _ e => e) (fun h' u tk hk => ⟨.str _, H, I.kept (t' := tk) hk, ⟨_, rfl⟩, q⟩) h4
theorem dc_repr {k : Nat} {E : XK} (o : Okx k X E) : DC X (.builtin "repr") reprD := by
  refine ⟨_, call_reprD o, fun xs ds H S ι E Q hS r hw => ?_⟩
  unfold reprD at hw
  split at hw
  · split at hw
    · rename_i p hp
      split at hw
      · rename_i hc
        cases r with
        | cons r rs =>
          cases rs
          exact ⟨_, p, rfl, deep_dp hS _ r hp hc.2.1, hc.1, hc.2.1, hc.2.2.1, hc.2.2.2, hw _ _ _ (.refl hS) (.py (.str _))⟩
      · exact hw.elim
    · exact hw.elim
  · exact hw.elim
/-! ### methods of lists -/
theorem dm_append : DM X "list" "list.append" appendD := by
  refine ⟨_, mt_append, fun x xs d ds H S ι E Q hS rx r hw => ?_⟩
  unfold appendD at hw
  split at hw
  · split at hw
    · rename_i ds' hds
      split at hw
      · rename_i hz
        cases rx with
        | obj e =>
          cases hS.at_ _ _ _ hds e with
          | lst ha rr =>
            cases r with
            | cons r rs =>
              cases rs
              refine ⟨_, _, _, rfl, rfl, ha, by rw [rr.length]; exact hz, hw _ _ _ (.wr e ha (hS.set e ha (Paired.app rr (.cons r .nil)))) (.py .non)⟩
      · exact hw.elim
    · exact hw.elim
  · exact hw.elim
theorem ix_of_nat {i : Int} {n : Nat} (h0 : 0 ≤ i) (h1 : i.toNat < n) : seqIndex? i n = some i.toNat := by
  unfold seqIndex?
  have a : ¬ i < 0 := by omega
  have b : i < (n : Int) := by omega
  simp [a, h0, b]
theorem paired_erase {α β : Type} {G : α → β → Prop} : ∀ {l₁ : List α} {l₂ : List β} (i : Nat), Paired G l₁ l₂ → Paired G (l₁.eraseIdx i) (l₂.eraseIdx i)
  | _, _, _, .nil => .nil
  | _, _, 0, .cons _ t => t
  | _, _, i + 1, .cons q t => .cons q (paired_erase i t)
theorem paired_last {α β : Type} {G : α → β → Prop} : ∀ {l₁ : List α} {l₂ : List β}, Paired G l₁ l₂ → Paired G l₁.dropLast l₂.dropLast
  | _, _, .nil => .nil
  | _, _, .cons _ .nil => .nil
  | _, _, .cons q (.cons r t) => .cons q (paired_last (.cons r t))
theorem dm_pop : DM X "list" "list.pop" popD := by
  refine ⟨_, MtR.or (mt_pop (X := X)) (mt_popAt (X := X)), fun x xs d ds H S ι E Q hS rx r hw => ?_⟩
  unfold popD at hw
  split at hw
  · split at hw
    · rename_i ds' hds
      split at hw
      · rename_i d' hd'
        cases rx with
        | obj e =>
          cases hS.at_ _ _ _ hds e with
          | lst ha rr =>
            cases r
            obtain ⟨v, hv, rv⟩ := Paired.getR rr hd'
            exact .inl ⟨_, _, v, rfl, rfl, ha, by rw [rr.length]; exact hv, hw _ _ _ (.wr e ha (hS.set e ha (paired_last rr))) (rv.mono (List.prefix_refl _) (.list ha))⟩
      · exact hw.elim
    · exact hw.elim
  · split at hw
    · rename_i ds' hds
      split at hw
      · rename_i hi
        split at hw
        · rename_i d' hd'
          cases rx with
          | obj e =>
            cases hS.at_ _ _ _ hds e with
            | lst ha rr =>
              cases r with
              | cons r rs =>
                cases rs
                obtain ⟨v, hv, rv⟩ := Paired.getR rr hd'
                have hlt := (List.getElem?_eq_some_iff.mp hv).1
                exact .inr ⟨_, _, _, _, v, rfl, by rw [int_of r], ha, by omega, by omega, ix_of_nat hi.1 hlt, hv, hw _ _ _ (.wr e ha (hS.set e ha (paired_erase _ rr))) (rv.mono (List.prefix_refl _) (.list ha))⟩
        · exact hw.elim
      · exact hw.elim
    · exact hw.elim
  · exact hw.elim
/-! ### calls that make new lists; extend -/
variable {E : XK} {k : Nat} {e : Expr} {f : Ex} {es : List Expr} {fs fl : Ax} {pos p : Pos} {x : Str}
theorem dl_callTy {T : String} {gg : List D → Sto → R (List D)} (hc : DCL X (.type T) gg) (hm : X.mg x = none) (hv : bootBuiltins x = some (.type T)) (ha : DA X E (e :: es) fs) (hg : Gl X x := by rfl) (hn : x ≠ "__name__" := by decide) (hdb : (x == ("__debug__" : Str)) = false := by decide)
    (he : starEach (e :: es) X.env = (false, eval e X.env) :: starEach es X.env := by rfl) (hpl : (backTo pos (starEach es X.env)).any (·.1) = false := by rfl) : DL X E (.Call (.Name x p) (e :: es) [] pos) (callL gg fs) := by
  obtain ⟨l, t, pt, q⟩ := ha
  obtain ⟨r, hr, qr⟩ := hc
  refine ⟨_, pe_callTy hr hg hm hv pt hn hdb he hpl, fun σ H σd S ι Q hE hS h => ?_⟩
  refine q σ H σd S ι _ hE hS (Wp.bind0 h fun ds S1 _ vs H1 ι1 p1 r1 h1 => ?_)
  refine qr _ _ _ _ _ E _ p1.sto r1 ?_
  cases hgg : gg ds S1 with
  | no => rw [hgg] at h1; exact h1.elim
  | ex c S2 => rw [hgg] at h1; exact (Wp.re (rel := relL X.K H1) (Q := Q) p1 (show Wp X.K X.mg E ι H (relL X.K H1) (R.ex c S2) Q from h1))
  | ok ys S2 =>
    rw [hgg] at h1
    intro v H2 ι2 p2 r2
    obtain ⟨a, vs2, h0, rest⟩ := r2
    refine h1 v H2 ι2 (p1.trans p2) ⟨a, vs2, ?_, rest⟩
    cases q0 : H a with
    | none => rfl
    | some u => exact absurd h0 (p1.dom a (by rw [q0]; simp))
theorem de_extend {o : Expr} {apos cpos : Pos} (ho : DE X E o f) (ha : DL X E e fl)
    (hbase : attributeBase o "extend" X.env (eval o X.env) = eval o X.env := by rfl)
    (hfew : ((backTo cpos (starEach [e] X.env)).all (fun x => !x.1) && (backToKw cpos (keywordEach [] X.env)).all (fun x => x.1.isSome)
      && decide ([e].length + ([] : List Keyword).length + (if ([] : List Keyword).isEmpty then 0 else 1) < 30)) = true := by rfl)
    (hline : (apos.endLine == cpos.line) = true := by rfl) (hs : starEach [e] X.env = (false, eval e X.env) :: starEach [] X.env := by rfl) (hplain : (backTo cpos (starEach [] X.env)).any (·.1) = false := by rfl) :
    DE X E (.Call (.Attribute o "extend" apos) [e] [] cpos) (extE f fl) := by
  obtain ⟨t, p, q⟩ := ho
  obtain ⟨u, pu, qu⟩ := ha
  refine ⟨_, pe_bm PySem.F.plainAttrs_list PySem.F.slot_list_extend PySem.F.type_list_extend (mt_extend (X := X)) p (pa_cons pu pa_nil hs) hbase hfew hline hs hplain, fun σ H σd S ι Q hE hS h => ?_⟩
  refine q σ H σd S ι _ hE hS (Wp.bind h fun d S1 _ v H1 ι1 p1 r1 h1 => ?_)
  cases d with
  | py d => exact h1.elim
  | raw d => exact h1.elim
  | obj n =>
    simp only at h1
    split at h1
    · rename_i ds0 hd0
      refine ⟨tyL p1.sto r1 (by simp only [lsOk, hd0]), ?_⟩
      refine qu σ H1 σd S1 ι1 _ (hE.mono p1.pre p1.keep) p1.sto (Wp.bind h1 fun d2 S2 _ v2 H2 ι2 p2 r2 h2 => ?_)
      split at h2
      · rename_i es' hes
        split at h2
        · rename_i hz
          cases r1.mono p2.pre p2.keep with
          | obj en =>
            cases p2.sto.at_ _ _ _ hes en with
            | lst ha rr =>
              obtain ⟨b, ws, h0, rfl, hb, hn, _, rb⟩ := r2
              exact ⟨_, b, _, ws, rfl, rfl, ha, hb, by rw [rr.length, rb.length]; exact hz, h2 _ _ _ (.wr en ha (p2.sto.set en ha (Paired.app rr rb))) (.py .non)⟩
        · exact h2.elim
      · exact h2.elim
    · exact h1.elim
end
end DV

set_option maxHeartbeats 4000000
namespace DV
open PySem PySem.Spec PyProof.Rows L2
/-! More operators: in, index, isinstance, all, any, sum, slices. -/
/-! ### what they do -/
def isFlat : PyData → Bool
  | .none => true
  | .bool _ => true
  | .int _ => true
  | .str _ => true
  | _ => false
/-- a dict, a tuple, a list -/
def isSq : PyData → Bool
  | .dict _ => true
  | .tuple _ => true
  | .list _ => true
  | _ => false
def isSt : PyData → Bool
  | .str _ => true
  | _ => false
def inB (d : PyData) (e : PyData) : Option Bool := match e with
  | .list ds => if SeqAt.shaped d = true ∧ SeqAt.shaped (.list ds) = true then some (ds.any fun z => PyData.eqv z d) else if isSq d = true ∧ ds.all isSt = true then some false else if isFlat d = true ∧ ds.all isFlat = true then some (ds.any fun z => PyData.eqv z d) else none
  | .tuple ds => if isFlat d = true ∧ ds.all isFlat = true then some (ds.any fun z => PyData.eqv z d) else none
  | .str y => (match d with
    | .str x => (match x.cps.toList with
      | [c] => some (decide (c ∈ y.cps.toList))
      | _ => none)
    | _ => none)
  | _ => none
def inS (S : Sto) (x y : D) : Option Bool := match deep S 8 x, deep S 8 y with
  | some d, some e => inB d e
  | _, _ => none
def inD (x y : D) (S : Sto) : R D := match inS S x y with
  | some k => .ok (.py (.bool k)) S
  | none => .no
def notInD (x y : D) (S : Sto) : R D := match inS S x y with
  | some k => .ok (.py (.bool (!k))) S
  | none => .no
/-- the first place of an item -/
def placeOf (ds : List PyData) (d : PyData) : Option Nat := ds.findIdx? fun z => PyData.eqv z d
def indexD : D → List D → Sto → R D
  | x, [y], S => (match deep S 8 x, deep S 8 y with
    | some (.list ds), some d => if SeqAt.shaped (.list ds) = true ∧ SeqAt.shaped d = true then (match placeOf ds d with
      | some j => .ok (.py (.int (j : Nat))) S
      | none => .no) else .no
    | _, _ => .no)
  | _, _, _ => .no
def tyN : PyData → String
  | .none => "NoneType"
  | .bool _ => "bool"
  | .int _ => "int"
  | .str _ => "str"
  | .list _ => "list"
  | .tuple _ => "tuple"
  | .dict _ => "dict"
/-- is a value of class a one of class b -/
def isB (a b : String) : Bool := a == b || (a == "bool" && b == "int")
def isiD (T : String) : D → Sto → R D
  | .py d, S => .ok (.py (.bool (isB (tyN d) T))) S
  | .obj n, S => match S[n]? with
    | some (.lst _) => .ok (.py (.bool (isB "list" T))) S
    | _ => .no
  | .raw _, _ => .no
def boolsOf : List PyData → Option (List Bool)
  | [] => some []
  | .bool b :: ds => (boolsOf ds).map (b :: ·)
  | _ => none
def intsOf : List PyData → Option (List Int)
  | [] => some []
  | .int b :: ds => (intsOf ds).map (b :: ·)
  | _ => none
def allD : List D → Sto → R D
  | [.py (.list ds)], S => (match boolsOf ds with
    | some bs => .ok (.py (.bool (bs.all id))) S
    | none => .no)
  | _, _ => .no
def anyD : List D → Sto → R D
  | [.py (.list ds)], S => (match boolsOf ds with
    | some bs => .ok (.py (.bool (bs.any id))) S
    | none => .no)
  | _, _ => .no
def sumD : List D → Sto → R D
  | [.py (.list ds)], S => (match intsOf ds with
    | some bs => .ok (.py (.int bs.sum)) S
    | none => .no)
  | _, _ => .no
/-! ### that they do it -/
variable {X : Cx}
theorem eqV_eqv {K : PySem.W.Frag} {H : Hp} {x y : V} {d e : PyData} (rx : Pp K H x d) (ry : Pp K H y e) (hd : isFlat d = true) (he : isFlat e = true) : eqV y x = PyData.eqv e d := by
  cases rx <;> cases ry <;> simp [isFlat] at hd he <;> simp [eqV, PyData.eqv]
theorem isFlat_V {K : PySem.W.Frag} {H : Hp} {x : V} {d : PyData} (rx : Pp K H x d) (hd : isFlat d = true) : flatV x = true := by
  cases rx <;> simp [isFlat] at hd <;> rfl
theorem isFlat_all {K : PySem.W.Frag} {H : Hp} {x : V} {d : PyData} (rx : Pp K H x d) (hd : isFlat d = true) : ∀ {ys : List V} {ds : List PyData}, PpAll K H ys ds → ds.all isFlat = true → ys.all flatV = true ∧ inV x ys = ds.any fun z => PyData.eqv z d
  | _, _, .nil, _ => ⟨rfl, rfl⟩
  | _, _, .cons h hs, e => by
    rw [List.all_cons, Bool.and_eq_true] at e
    obtain ⟨h1, h2⟩ := isFlat_all rx hd hs e.2
    refine ⟨by rw [List.all_cons, isFlat_V h e.1, h1]; rfl, ?_⟩
    unfold inV at h2 ⊢
    rw [List.any_cons, List.any_cons, h2, eqV_eqv rx h hd e.1]
theorem eqV_eqvD {K : PySem.W.Frag} {H : Hp} {x y : V} {d e : PyData} (rx : Pp K H x d) (ry : Dp K H y e) (hd : isFlat d = true) (he : isFlat e = true) : eqV y x = PyData.eqv e d ∧ flatV y = true := by
  cases rx <;> cases ry <;> simp [isFlat] at hd he <;> simp [eqV, PyData.eqv, flatV]
theorem isFlat_allD {K : PySem.W.Frag} {H : Hp} {x : V} {d : PyData} (rx : Pp K H x d) (hd : isFlat d = true) : ∀ {ys : List V} {ds : List PyData}, DpAll K H ys ds → ds.all isFlat = true → ys.all flatV = true ∧ inV x ys = ds.any fun z => PyData.eqv z d
  | _, _, .nil, _ => ⟨rfl, rfl⟩
  | _, _, .cons h hs, e => by
    rw [List.all_cons, Bool.and_eq_true] at e
    obtain ⟨h1, h2⟩ := isFlat_allD rx hd hs e.2
    obtain ⟨h3, h4⟩ := eqV_eqvD rx h hd e.1
    refine ⟨by rw [List.all_cons, h4, h1]; rfl, ?_⟩
    unfold inV at h2 ⊢
    rw [List.any_cons, List.any_cons, h2, h3]
theorem flat_noDict : ∀ {ds : List PyData}, ds.all isFlat = true → PyData.hasDictAll ds = false
  | [], _ => PyData.hasDictAll.eq_1
  | d :: ds, h => by
    rw [List.all_cons, Bool.and_eq_true] at h
    rw [PyData.hasDictAll.eq_2, flat_noDict h.2]
    cases d <;> simp [isFlat] at h <;> simp [PyData.hasDict]
theorem Room.units65 {k : Nat} {A : Around} (h : Room k A) : A.units + 65 < cLine := by have := h.un; omega
theorem deep_py {K : PySem.W.Frag} {ι : List Addr} {H : Hp} {S : Sto} {x : V} {d : D} {p : PyData} (rx : Rd K ι H x d) (h : deep S 8 d = some p) : Pp K H x p ∨ ∃ ds, p = .list ds := by
  cases rx with
  | py rx =>
    have e := Option.some.inj h
    subst e
    exact .inl rx
  | raw a => cases h
  | obj e0 =>
    simp only [deep] at h
    split at h
    · rename_i es _
      cases hm : es.mapM (deep S 7) with
      | none => rw [hm] at h; cases h
      | some z => rw [hm] at h; cases h; exact .inr ⟨_, rfl⟩
    · cases h
theorem st_noDict : ∀ {ds : List PyData}, ds.all isSt = true → PyData.hasDictAll ds = false
  | [], _ => PyData.hasDictAll.eq_1
  | d :: ds, h => by
    rw [List.all_cons, Bool.and_eq_true] at h
    rw [PyData.hasDictAll.eq_2, st_noDict h.2]
    cases d <;> simp [isSt] at h
    simp [PyData.hasDict]
theorem st_all {K : PySem.W.Frag} {H : Hp} : ∀ {vs : List V} {ds : List PyData}, DpAll K H vs ds → ds.all isSt = true → ∀ v ∈ vs, ∃ z, v = V.str z
  | _, _, .nil, _, v, hv => by cases hv
  | _, _, .cons r rs, h, v, hv => by
    rw [List.all_cons, Bool.and_eq_true] at h
    rcases List.mem_cons.mp hv with rfl | hv
    · cases r <;> simp [isSt] at h
      exact ⟨_, rfl⟩
    · exact st_all rs h.2 v hv
theorem in_key {K : PySem.W.Frag} {ι : List Addr} {H : Hp} {S : Sto} {x y : V} {d e : D} {k : Bool} (hS : StR K ι H S) (rx : Rd K ι H x d) (ry : Rd K ι H y e) (h : inS S d e = some k) :
    (∃ p q, Dp K H x p ∧ Dp K H y (.list q) ∧ SeqAt.shaped p = true ∧ SeqAt.shaped (.list q) = true ∧ k = (q.any fun z => PyData.eqv z p)) ∨
    (∃ p xs, y = .ref p ∧ (SqL K H p xs ∨ SqT K H p xs) ∧ flatV x = true ∧ xs.all flatV = true ∧ k = inV x xs) ∨
    (∃ (c : Nat) (z : Str), x = .str ⟨#[c]⟩ ∧ y = .str z ∧ k = decide (c ∈ z.cps.toList)) ∨ (DkIn K H x y ∧ k = false) := by
  unfold inS at h
  split at h
  · rename_i p q hp hq
    cases q with
    | list ds =>
      simp only [inB] at h
      split at h
      · rename_i hs
        cases h
        have dx := deep_dp hS _ rx hp (noDict_of hs.1)
        have dy := deep_dp hS _ ry hq (noDict_of hs.2)
        exact .inl ⟨_, _, dx, dy, hs.1, hs.2, rfl⟩
      · split at h
        · rename_i hs
          cases h
          have dy := deep_dp hS _ ry hq (by rw [PyData.hasDict.eq_5]; exact st_noDict hs.2)
          have ax : ∃ a, x = V.ref a ∧ ((∃ o kvs, H a = some (.frz o (.dK kvs))) ∨ ∃ zs, SqL K H a zs ∨ SqT K H a zs) := by
            cases rx with
            | raw a => cases hp
            | obj e0 =>
              simp only [deep] at hp
              split at hp
              · rename_i es he
                cases hS.at_ _ _ _ he e0 with
                | lst ha rr => exact ⟨_, rfl, .inr ⟨_, .inl (.of ha)⟩⟩
              · cases hp
            | py rx =>
              have e := Option.some.inj hp
              subst e
              cases rx with
              | dic e _ _ => exact ⟨_, rfl, .inl ⟨_, _, e⟩⟩
              | lst e _ _ => exact ⟨_, rfl, .inr ⟨_, .inl e.sq⟩⟩
              | tup e _ _ => exact ⟨_, rfl, .inr ⟨_, .inr e.sq⟩⟩
              | _ => simp [isSq] at hs
          obtain ⟨a, rfl, ax⟩ := ax
          cases dy with
          | lst hL al => exact .inr (.inr (.inr ⟨⟨_, _, _, rfl, ax, rfl, hL, st_all al hs.2⟩, rfl⟩))
        · split at h
          · rename_i hs
            cases h
            have dy := deep_dp hS _ ry hq (by rw [PyData.hasDict.eq_5]; exact flat_noDict hs.2)
            have rx := (deep_py rx hp).resolve_right (by rintro ⟨ws, rfl⟩; simp [isFlat] at hs)
            cases dy with
            | lst hL al =>
              obtain ⟨z1, z2⟩ := isFlat_allD rx hs.1 al hs.2
              exact .inr (.inl ⟨_, _, rfl, .inl hL, isFlat_V rx hs.1, z1, z2.symm⟩)
          · cases h
    | tuple ds =>
      simp only [inB] at h
      split at h
      · rename_i hs
        cases h
        have ry := (deep_py ry hq).resolve_right (by rintro ⟨ws, e⟩; cases e)
        cases ry with
        | tup hT hz al =>
          have rx := (deep_py rx hp).resolve_right (by rintro ⟨ws, rfl⟩; simp [isFlat] at hs)
          obtain ⟨z1, z2⟩ := isFlat_all rx hs.1 al hs.2
          exact .inr (.inl ⟨_, _, rfl, .inr hT.sq, isFlat_V rx hs.1, z1, z2.symm⟩)
      · cases h
    | str y' =>
      cases p with
      | str x' =>
        simp only [inB] at h
        split at h
        · rename_i c hc
          cases h
          have rx := (deep_py rx hp).resolve_right (by rintro ⟨ws, e⟩; cases e)
          have ry := (deep_py ry hq).resolve_right (by rintro ⟨ws, e⟩; cases e)
          cases rx
          cases ry
          refine .inr (.inr (.inl ⟨c, y', ?_, rfl, rfl⟩))
          obtain ⟨a⟩ := x'
          obtain ⟨l⟩ := a
          have : l = [c] := hc
          subst this
          rfl
        · cases h
      | _ => cases h
    | _ => cases h
  · cases h
theorem do_in {k : Nat} {E : XK} (o : Okx k X E) : DOp X (compareOp .In) inD := by
  refine ⟨_, (op_inD (X := X) (Room.units65 o.room)).or ((op_in_seq (X := X)).or ((op_in_sign (X := X)).or (op_inSD (X := X) (Room.units65 o.room)))), fun x y d e H S ι E Q hS rx ry hw => ?_⟩
  unfold inD at hw
  split at hw
  · rename_i k hk
    have hq := hw _ _ _ (.refl hS) (.py (.bl k))
    rcases in_key hS rx ry hk with ⟨p, q, a, b, c, d, rfl⟩ | ⟨p, xs, a, b, c, d, rfl⟩ | ⟨c, z, a, b, rfl⟩ | ⟨a, rfl⟩
    · exact .inl ⟨p, q, a, b, c, d, hq⟩
    · exact .inr (.inl ⟨p, xs, a, b, c, d, hq⟩)
    · exact .inr (.inr (.inl ⟨c, z, a, b, hq⟩))
    · exact .inr (.inr (.inr ⟨a, hq⟩))
  · exact hw.elim
theorem do_notin {k : Nat} {E : XK} (o : Okx k X E) : DOp X (compareOp .NotIn) notInD := by
  refine ⟨_, (op_notInD (X := X) (Room.units65 o.room)).or ((op_notIn_seq (X := X)).or ((op_notIn_sign (X := X)).or (op_notInSD (X := X) (Room.units65 o.room)))), fun x y d e H S ι E Q hS rx ry hw => ?_⟩
  unfold notInD at hw
  split at hw
  · rename_i k hk
    have hq := hw _ _ _ (.refl hS) (.py (.bl (!k)))
    rcases in_key hS rx ry hk with ⟨p, q, a, b, c, d, rfl⟩ | ⟨p, xs, a, b, c, d, rfl⟩ | ⟨c, z, a, b, rfl⟩ | ⟨a, rfl⟩
    · exact .inl ⟨p, q, a, b, c, d, hq⟩
    · exact .inr (.inl ⟨p, xs, a, b, c, d, hq⟩)
    · exact .inr (.inr (.inl ⟨c, z, a, b, hq⟩))
    · exact .inr (.inr (.inr ⟨a, hq⟩))
  · exact hw.elim
/-! ### isinstance -/
theorem ty_pp {K : PySem.W.Frag} {H : Hp} {x : V} {d : PyData} (r : Pp K H x d) : TyX K H x (.type (tyN d)) := by
  cases r with
  | non => exact .base .non
  | bl b => exact .base (.bl b)
  | int i => exact .base (.int i)
  | str x => exact .base (.str x)
  | lst h _ _ =>
    rcases h with ⟨o, h⟩ | ⟨o, its, n, h1, h2, _⟩
    · exact .base (.frz h)
    · exact .kList h1 h2
  | tup h _ _ =>
    rcases h with ⟨o, h, _⟩ | ⟨o, its, n, h1, h2, _⟩
    · exact .fTuple h
    · exact .kTuple h1 h2
  | dic h _ _ => exact .fDict h
theorem kit_base (K : PySem.W.Frag) (d : PyData) (T : String) (hT : T ∈ ["int", "bool", "str", "tuple", "list", "dict"]) : PySem.W.kitOne K (.type (tyN d)) (.type T) = some (isB (tyN d) T) := by
  simp only [List.mem_cons, List.not_mem_nil, or_false] at hT
  rcases hT with rfl | rfl | rfl | rfl | rfl | rfl <;> cases d <;> rfl
section
variable {E : XK} {e : Expr} {f : Ex} {pos p p2 : Pos}
theorem de_isi {T : String} (hm : X.mg "isinstance" = none) (hm2 : X.mg (Str.ofString T) = none) (ha : DE X E e f) (hT : T ∈ ["int", "bool", "str", "tuple", "list", "dict"] := by decide) (hg : Gl X "isinstance" := by rfl) (hg2 : Gl X (Str.ofString T) := by rfl) (hb : bootBuiltins (Str.ofString T) = some (.type T) := by rfl)
    (hnn : Str.ofString T ≠ "__name__" := by decide) (hdb : (Str.ofString T == ("__debug__" : Str)) = false := by decide)
    (he : starEach [e, .Name (Str.ofString T) p2] X.env = (false, eval e X.env) :: starEach [.Name (Str.ofString T) p2] X.env := by rfl) (he2 : starEach [.Name (Str.ofString T) p2] X.env = (false, eval (.Name (Str.ofString T) p2) X.env) :: starEach [] X.env := by rfl) (hpl : (backTo pos (starEach [.Name (Str.ofString T) p2] X.env)).any (·.1) = false := by rfl) :
    DE X E (.Call (.Name "isinstance" p) [e, .Name (Str.ofString T) p2] [] pos) (op1 (isiD T) f) := by
  obtain ⟨t, pt, q⟩ := ha
  refine ⟨_, pe_callB call_isi hg hm rfl (pa_cons pt (pa_cons (pe_bltn (v := .ty T) hg2 hm2 hb rfl hnn hdb) pa_nil he2) he) (by decide) (by decide) he hpl, fun σ H σd S ι Q hE hS h => ?_⟩
  refine q σ H σd S ι _ hE hS (Wp.bind0 h fun d S1 e1 v H1 ι1 p1 r1 h1 => ?_)
  show rIsi X.K [v, .ty T] H1 Q
  unfold isiD at h1
  split at h1
  · rename_i d'
    cases r1 with
    | py r1 => exact ⟨v, .ty T, _, _, _, rfl, .ty T, ty_pp r1, kit_base X.K d' T hT, h1 _ _ _ p1 (.py (.bl _))⟩
  · split at h1
    · rename_i n S es hes
      cases r1 with
      | obj ea =>
        cases p1.sto.at_ _ _ _ hes ea with
        | lst hl _ => exact ⟨_, .ty T, _, _, _, rfl, .ty T, .base (.lst hl), kit_base X.K (.list []) T hT, h1 _ _ _ p1 (.py (.bl _))⟩
    · exact h1.elim
  · exact h1.elim
end
/-! ### all, any, sum -/
theorem bools_V {K : PySem.W.Frag} {H : Hp} : ∀ {xs : List V} {ds : List PyData} {bs : List Bool}, PpAll K H xs ds → boolsOf ds = some bs → xs = bs.map V.bl
  | _, _, bs, .nil, h => by cases h; rfl
  | _, _, bs, @PpAll.cons _ _ v vs d ds r rs, h => by
    cases r with
    | bl b =>
      have h : Option.map (b :: ·) (boolsOf ds) = some bs := h
      cases hb : boolsOf ds with
      | none => rw [hb] at h; cases h
      | some bs' =>
        rw [hb] at h
        cases h
        rw [bools_V rs hb]
        rfl
    | _ => exact absurd h (by simp [boolsOf])
theorem ints_V {K : PySem.W.Frag} {H : Hp} : ∀ {xs : List V} {ds : List PyData} {bs : List Int}, PpAll K H xs ds → intsOf ds = some bs → xs = bs.map V.int
  | _, _, bs, .nil, h => by cases h; rfl
  | _, _, bs, @PpAll.cons _ _ v vs d ds r rs, h => by
    cases r with
    | int b =>
      have h : Option.map (b :: ·) (intsOf ds) = some bs := h
      cases hb : intsOf ds with
      | none => rw [hb] at h; cases h
      | some bs' =>
        rw [hb] at h
        cases h
        rw [ints_V rs hb]
        rfl
    | _ => exact absurd h (by simp [intsOf])
theorem dc_all {k : Nat} {E : XK} (o : Okx k X E) : DC X (.builtin "all") allD := by
  refine ⟨_, cr_all o.calm, fun xs ds H S ι E Q hS r hw => ?_⟩
  unfold allD at hw
  split at hw
  · split at hw
    · rename_i bs hbs
      cases r with
      | cons r rs =>
        cases rs
        cases r with
        | py r =>
          cases r with
          | lst h hz al => exact ⟨_, bs, rfl, bools_V al hbs ▸ h.sq, hw _ _ _ (.refl hS) (.py (.bl _))⟩
    · exact hw.elim
  · exact hw.elim
theorem dc_any {k : Nat} {E : XK} (o : Okx k X E) : DC X (.builtin "any") anyD := by
  refine ⟨_, cr_any o.calm, fun xs ds H S ι E Q hS r hw => ?_⟩
  unfold anyD at hw
  split at hw
  · split at hw
    · rename_i bs hbs
      cases r with
      | cons r rs =>
        cases rs
        cases r with
        | py r =>
          cases r with
          | lst h hz al => exact ⟨_, bs, rfl, bools_V al hbs ▸ h.sq, hw _ _ _ (.refl hS) (.py (.bl _))⟩
    · exact hw.elim
  · exact hw.elim
/-! ### the module's constants -/
theorem de_gint {E : XK} {x : Str} {i : Int} {t : Tok} {pos : Pos} (hm : X.mg x = some (.int i t)) (hg : Gl X x := by rfl) (hdb : (x == ("__debug__" : Str)) = false := by decide) : DE X E (.Name x pos) (cE (.int i)) :=
  ⟨_, pe_glob (v := .int i) hg hm ⟨t, rfl⟩ hdb, fun σ H σd S ι Q hE hS h => h _ _ _ (.refl hS) (.py (.int i))⟩
theorem de_gstr {E : XK} {x : Str} {i : Str} {t : Tok} {pos : Pos} (hm : X.mg x = some (.str i t)) (hg : Gl X x := by rfl) (hdb : (x == ("__debug__" : Str)) = false := by decide) : DE X E (.Name x pos) (cE (.str i)) :=
  ⟨_, pe_glob (v := .str i) hg hm ⟨t, rfl⟩ hdb, fun σ H σd S ι Q hE hS h => h _ _ _ (.refl hS) (.py (.str i))⟩
end DV

set_option maxHeartbeats 4000000
namespace DV
open PySem PySem.Spec PyProof.Rows L2
/-! An error of the program's own whose base is an error of the program's own upon ValueError. -/
def allStr (es : Array DictEntry) : Bool := es.toList.all fun e => match e.key with
  | .str _ _ => true
  | _ => false
/-- a class's own dict has text keys and no __init__ -/
theorem nsOk_of {K : PySem.W.Frag} {N : Addr} {c : Value} {dd : Option Addr} {es : Array DictEntry} {ep : Nat} {sl : Array (Option Value)} (h : K.lookup N = some ⟨c, dd, .dict es ep, sl⟩) (ha : allStr es = true) : PySem.W.nsOkIn K N = true := by
  unfold PySem.W.nsOkIn
  rw [h]
  show (es.all _) = true
  rw [← Array.all_toList]
  exact ha
theorem exc_two {K : PySem.W.Frag} {C B N M : Addr} {cd cb : ClassData} {d1 d2 d3 d4 : Option Addr} {sl sb sn sm : Array (Option Value)} {c3 c4 : Value} {es em : Array DictEntry} {ep eq : Nat} {bm : List Value} {id : String} {a1 a2 a3 a4 a6 : Option Value}
    (h1 : K.lookup C = some ⟨.type "type", d1, .cls cd, sl⟩) (q1 : cd.mro = .ref C :: .ref B :: bm) (q2 : sl.toList = [a1, a2, a3, a4, some (.builtin id), a6]) (q3 : cd.hasDel = false) (q4 : cd.ns = N)
    (h2 : K.lookup N = some ⟨c3, d3, .dict es ep, sn⟩) (q5 : allStr es = true) (n1 : PySem.W.nsIn K N "__init__" = some none)
    (h3 : K.lookup B = some ⟨.type "type", d2, .cls cb, sb⟩) (q6 : cb.ns = M) (h4 : K.lookup M = some ⟨c4, d4, .dict em eq, sm⟩) (q7 : allStr em = true) (n2 : PySem.W.nsIn K M "__init__" = some none) (hb : PySem.W.tailIn K bm bm = true) : PySem.W.excIn K C bm id = true := by
  unfold PySem.W.excIn
  rw [h1]
  simp only [q1, q2, q3, q4]
  rw [nsOk_of h2 q5, n1, PySem.W.tailIn.eq_2, h3]
  simp only [q6]
  rw [nsOk_of h4 q7, n2, hb]
  simp
end DV

set_option maxHeartbeats 4000000
namespace DV
open PySem PySem.Spec PyProof.Rows L2
/-! Still more operators: slices, list(range(..)), sorted, join, tuples compared. -/
variable {X : Cx} {E : XK}
/-! ### slices -/
abbrev Px := En → Sto → R (Option Int)
def noP : Px := fun _ S => .ok none S
def someP (e : Ex) : Px := fun σ S => (e σ S).bind fun d S1 => match d with
  | .py (.int i) => .ok (some i) S1
  | _ => .no
def cutP {α : Type} (xs : List α) (lo hi : Option Int) : List α := (xs.drop (HT.sIx xs.length 0 lo)).take (HT.sIx xs.length xs.length hi - HT.sIx xs.length 0 lo)
/-- of tuples and texts -/
def sliceV (x : D) (lo hi : Option Int) (S : Sto) : R D := match x with
  | .py (.tuple ds) => .ok (.py (.tuple (cutP ds lo hi))) S
  | .py (.str z) => if z.length ≤ sizeLine then .ok (.py (.str (cutS z lo hi))) S else .no
  | _ => .no
def sliceE (a : Ex) (lo hi : Px) : Ex := fun σ S => (a σ S).bind fun x S1 => (lo σ S1).bind fun l S2 => (hi σ S2).bind fun h S3 => sliceV x l h S3
/-- of lists: a new list -/
def sliceL (a : Ex) (lo hi : Px) : Ax := fun σ S => (a σ S).bind fun x S1 => (lo σ S1).bind fun l S2 => (hi σ S2).bind fun h S3 => match seqOf S3 x with
  | some ds => (match x with
    | .py (.tuple _) => .no
    | _ => if ds.length ≤ sizeLine then .ok (cutP ds l h) S3 else .no)
  | none => .no
abbrev relP : List Addr → Hp → Option Int → Option Int → Prop := fun _ _ a b => a = b
def DP (X : Cx) (E : XK) (e : Option Expr) (f : Px) : Prop := ∃ t, PO X e t ∧ ∀ σ H σd S ι Q, EnR X.K ι H σ σd → StR X.K ι H S → Wp X.K X.mg E ι H relP (f σd S) Q → t σ H Q
theorem dp_none : DP X E none noP := ⟨_, po_none, fun σ H σd S ι Q hE hS h => h _ _ _ (.refl hS) rfl⟩
theorem dp_some {e : Expr} {f : Ex} (he : DE X E e f) : DP X E (some e) (someP f) := by
  obtain ⟨t, p, q⟩ := he
  refine ⟨_, po_some p, fun σ H σd S ι Q hE hS h => ?_⟩
  refine q σ H σd S ι _ hE hS (Wp.bind0 h fun d S1 _ v H1 ι1 p1 r1 h1 => ?_)
  split at h1
  · exact ⟨_, int_of r1, h1 _ _ _ p1 rfl⟩
  · exact h1.elim
theorem PpAll.drop {K : PySem.W.Frag} {H : Hp} : ∀ {vs : List V} {ds : List PyData} (n : Nat), PpAll K H vs ds → PpAll K H (vs.drop n) (ds.drop n)
  | _, _, 0, h => h
  | _, _, _ + 1, .nil => .nil
  | _, _, n + 1, .cons _ hs => PpAll.drop n hs
theorem PpAll.take {K : PySem.W.Frag} {H : Hp} : ∀ {vs : List V} {ds : List PyData} (n : Nat), PpAll K H vs ds → PpAll K H (vs.take n) (ds.take n)
  | _, _, 0, _ => .nil
  | _, _, _ + 1, .nil => .nil
  | _, _, n + 1, .cons h hs => .cons h (PpAll.take n hs)
theorem RdAll.drop {K : PySem.W.Frag} {ι : List Addr} {H : Hp} : ∀ {vs : List V} {ds : List D} (n : Nat), RdAll K ι H vs ds → RdAll K ι H (vs.drop n) (ds.drop n)
  | _, _, 0, h => h
  | _, _, _ + 1, .nil => .nil
  | _, _, n + 1, .cons _ hs => RdAll.drop n hs
theorem RdAll.take {K : PySem.W.Frag} {ι : List Addr} {H : Hp} : ∀ {vs : List V} {ds : List D} (n : Nat), RdAll K ι H vs ds → RdAll K ι H (vs.take n) (ds.take n)
  | _, _, 0, _ => .nil
  | _, _, _ + 1, .nil => .nil
  | _, _, n + 1, .cons h hs => .cons h (RdAll.take n hs)
theorem cut_len {α : Type} (xs : List α) (lo hi : Option Int) : (cutP xs lo hi).length ≤ xs.length := by
  unfold cutP
  rw [List.length_take, List.length_drop]
  omega
theorem cut_pp {K : PySem.W.Frag} {H : Hp} {vs : List V} {ds : List PyData} (h : PpAll K H vs ds) (lo hi : Option Int) : PpAll K H (cutV vs lo hi) (cutP ds lo hi) := by
  unfold cutV cutP
  rw [h.length]
  exact (h.drop _).take _
theorem cut_all {α : Type} (xs : List α) (lo hi : Option Int) (h : HT.sIx xs.length 0 lo = 0 ∧ HT.sIx xs.length xs.length hi = xs.length) : cutP xs lo hi = xs := by
  unfold cutP
  rw [h.1, h.2]
  simp
section
variable {e : Expr} {lo hi : Option Expr} {f : Ex} {fl fh : Px} {pos p2 : Pos}
theorem de_slice (he : DE X E e f) (hl : DP X E lo fl) (hh : DP X E hi fh) : DE X E (.Subscript e (.Slice lo hi none p2) pos) (sliceE f fl fh) := by
  obtain ⟨t, p, q⟩ := he
  obtain ⟨tl, pl, ql⟩ := hl
  obtain ⟨th, ph, qh⟩ := hh
  refine ⟨_, pe_slice ((sl_tupS (X := X)).or sl_str) p pl ph, fun σ H σd S ι Q hE hS h => ?_⟩
  refine q σ H σd S ι _ hE hS (Wp.bind h fun x S1 _ v H1 ι1 p1 r1 h1 => ?_)
  refine ql σ H1 σd S1 ι1 _ (hE.mono p1.pre p1.keep) p1.sto (Wp.bind h1 fun l S2 _ l' H2 ι2 p2 rl h2 => ?_)
  refine qh σ H2 σd S2 ι2 _ ((hE.mono p1.pre p1.keep).mono p2.pre p2.keep) p2.sto (Wp.bind h2 fun u S3 _ u' H3 ι3 p3 ru h3 => ?_)
  cases rl
  cases ru
  have r3 := (r1.mono p2.pre p2.keep).mono p3.pre p3.keep
  unfold sliceV at h3
  split at h3
  · rename_i ds _
    cases r3 with
    | py r3 =>
      cases r3 with
      | tup hT hz al =>
        have hc := cut_pp al l u
        have hcl := cut_len ds l u
        refine .inl ⟨_, _, rfl, hT.sq, fun ha => h3 _ _ _ (.refl p3.sto) (.py ?_), fun _ p o ho hp => h3 _ _ _ (.new p3.sto hp) (.py (.tup (.new ho) (Nat.le_trans hcl hz) (hc.keep (.new hp))))⟩
        rw [al.length] at ha
        rw [cut_all ds l u ha]
        exact .tup hT hz al
  · split at h3
    · rename_i hz
      exact .inr ⟨_, str_of r3, hz, h3 _ _ _ (.refl p3.sto) (.py (.str _))⟩
    · exact h3.elim
  · exact h3.elim
end
/-! ### list(range(..)) -/
section
variable {a b : Expr} {f g : Ex} {pos p pos2 p2 : Pos}
end
/-! ### sorted -/
theorem dints_V {K : PySem.W.Frag} {H : Hp} : ∀ {xs : List V} {ds : List PyData} {bs : List Int}, DpAll K H xs ds → intsOf ds = some bs → xs = bs.map V.int
  | _, _, bs, .nil, h => by cases h; rfl
  | _, _, bs, @DpAll.cons _ _ v vs d ds r rs, h => by
    cases r with
    | int b =>
      have h : Option.map (b :: ·) (intsOf ds) = some bs := h
      cases hb : intsOf ds with
      | none => rw [hb] at h; cases h
      | some bs' =>
        rw [hb] at h
        cases h
        rw [dints_V rs hb]
        rfl
    | _ => exact absurd h (by simp [intsOf])
theorem ints_noDict : ∀ {ds : List PyData} {bs : List Int}, intsOf ds = some bs → PyData.hasDictAll ds = false
  | [], _, _ => PyData.hasDictAll.eq_1
  | d :: ds, bs, h => by
    cases d with
    | int b =>
      have h : Option.map (b :: ·) (intsOf ds) = some bs := h
      cases hb : intsOf ds with
      | none => rw [hb] at h; cases h
      | some bs' =>
        rw [PyData.hasDictAll.eq_2, ints_noDict hb]
        simp [PyData.hasDict]
    | _ => exact absurd h (by simp [intsOf])
/-! ### join -/
def strsOf : List PyData → Option (List Str)
  | [] => some []
  | .str b :: ds => (strsOf ds).map (b :: ·)
  | _ => none
def joinD : D → List D → Sto → R D
  | .py (.str a), [.py (.list ds)], S => (match strsOf ds with
    | some ys => if (ys.map (·.length)).sum + ys.length * a.length ≤ 16777216 then .ok (.py (.str (Txt.join a ys))) S else .no
    | none => .no)
  | .py (.str a), [.py (.tuple ds)], S => (match strsOf ds with
    | some ys => if (ys.map (·.length)).sum + ys.length * a.length ≤ 16777216 then .ok (.py (.str (Txt.join a ys))) S else .no
    | none => .no)
  | _, _, _ => .no
theorem strs_V {K : PySem.W.Frag} {H : Hp} : ∀ {xs : List V} {ds : List PyData} {bs : List Str}, PpAll K H xs ds → strsOf ds = some bs → xs = bs.map V.str
  | _, _, bs, .nil, h => by cases h; rfl
  | _, _, bs, @PpAll.cons _ _ v vs d ds r rs, h => by
    cases r with
    | str b =>
      have h : Option.map (b :: ·) (strsOf ds) = some bs := h
      cases hb : strsOf ds with
      | none => rw [hb] at h; cases h
      | some bs' =>
        rw [hb] at h
        cases h
        rw [strs_V rs hb]
        rfl
    | _ => exact absurd h (by simp [strsOf])
theorem dm_join : DM X "str" "str.join" joinD := by
  refine ⟨_, mt_join (X := X), fun x xs d ds H S ι E Q hS rx r hw => ?_⟩
  unfold joinD at hw
  split at hw
  · split at hw
    · rename_i ys hys
      split at hw
      · rename_i hz
        cases r with
        | cons r rs =>
          cases rs
          cases r with
          | py r =>
            cases r with
            | lst h hz2 al => exact ⟨_, _, ys, str_of rx, rfl, .inl (strs_V al hys ▸ h.sq), hz, hw _ _ _ (.refl hS) (.py (.str _))⟩
      · exact hw.elim
    · exact hw.elim
  · split at hw
    · rename_i ys hys
      split at hw
      · rename_i hz
        cases r with
        | cons r rs =>
          cases rs
          cases r with
          | py r =>
            cases r with
            | tup h hz2 al => exact ⟨_, _, ys, str_of rx, rfl, .inr (strs_V al hys ▸ h.sq), hz, hw _ _ _ (.refl hS) (.py (.str _))⟩
      · exact hw.elim
    · exact hw.elim
  · exact hw.elim
/-! ### < of whole numbers and of tuples of them -/
def ltD : D → D → Sto → R D
  | .py (.int i), .py (.int j), S => .ok (.py (.bool (decide (i < j)))) S
  | .py (.tuple a), .py (.tuple b), S => (match intsOf a, intsOf b with
    | some ns, some ms => .ok (.py (.bool (HT.lexLt ns ms))) S
    | _, _ => .no)
  | _, _, _ => .no
theorem do_ltX {k : Nat} (o : Okx k X E) : DOp X (compareOp .Lt) ltD := by
  refine ⟨_, (op_lt (X := X)).or (op_ltT (X := X) (by have := o.room.units; omega)), fun x y d e H S ι E Q hS rx ry hw => ?_⟩
  unfold ltD at hw
  split at hw
  · exact .inl ⟨_, _, int_of rx, int_of ry, hw _ _ _ (.refl hS) (.py (.bl _))⟩
  · split at hw
    · rename_i ns ms h1 h2
      cases rx with
      | py rx =>
        cases ry with
        | py ry =>
          cases rx with
          | tup hx hz al =>
            cases ry with
            | tup hy hz2 bl => exact .inr ⟨_, _, ns, ms, rfl, rfl, ints_V al h1 ▸ hx.sq, ints_V bl h2 ▸ hy.sq, hw _ _ _ (.refl hS) (.py (.bl _))⟩
    · exact hw.elim
  · exact hw.elim
/-! ### max and min of a list of whole numbers -/
end DV

set_option maxHeartbeats 4000000
namespace DV
open PySem PySem.Spec PyProof.Rows L2
/-! Methods of texts that make new lists; insert. -/
variable {X : Cx} {E : XK}
def methSL (g : D → List D → Sto → R (List D)) (o : Ex) (a : Ax) : Ax := fun σ S => (o σ S).bind fun x S1 => match x with
  | .py (.str _) => (a σ S1).bind fun ds S2 => g x ds S2
  | _ => .no
section
variable {o e : Expr} {es : List Expr} {f : Ex} {fs : Ax} {name : Str} {id : String} {apos cpos : Pos} {gg : D → List D → Sto → R (List D)}
end
end DV

set_option maxHeartbeats 4000000
namespace PySem
open Sem (wp)
section
variable {prog : Program} {w : World} {A : Around} {R : Result → Shared → Prop} {I : Addr} {fp wr : List Addr} {n : Nat} {P : Nat → Value → Prop} {St : Nat → Heap → Prop}
def preLists (lst : Nat → List Value) : Nat → List Value
  | 0 => []
  | n + 1 => preLists lst n ++ lst n
def TotL (h0 : Heap) (lst : Nat → List Value) (t0 : Addr) (i : Nat) (h : Heap) (t : Addr) : Prop :=
  (i = 0 ∧ t = t0) ∨ (h0.get? t = none ∧ h.get? t = some { cls := .type "list", data := .seq (preLists lst i).toArray })
theorem TotL.isList {h0 h : Heap} {lst : Nat → List Value} {t0 t : Addr} {i : Nat} (x : TotL h0 lst t0 i h t) (h1 : h.IsList t0 #[]) : h.IsList t (preLists lst i).toArray := by
  rcases x with ⟨rfl, rfl⟩ | ⟨_, e⟩
  · exact h1
  · exact ⟨_, e, rfl, _, rfl⟩
theorem TotL.kept {h0 h h' : Heap} {lst : Nat → List Value} {t0 t : Addr} {i : Nat} (x : TotL h0 lst t0 i h t) (k : ∀ o, h.get? t = some o → h'.get? t = some o) : TotL h0 lst t0 i h' t := by
  rcases x with ⟨rfl, rfl⟩ | ⟨e0, e⟩
  · exact .inl ⟨rfl, rfl⟩
  · exact .inr ⟨e0, k _ e⟩
end
section
variable {prog : Program} {w : World} {A : Around} {E : Value → Shared → Prop} {s : Shared}
end
end PySem
namespace DV
open PySem PySem.Spec PyProof.Rows L2
variable {X : Cx} {E : XK}
/-- sum(lists, []) -/
def listsOf : List PyData → Option (List (List PyData))
  | [] => some []
  | .list l :: ds => (listsOf ds).map (l :: ·)
  | _ => none
def sumL (f : Ex) : Ax := fun σ S => (f σ S).bind fun d S1 => match d with
  | .py (.list ds) => (match listsOf ds with
    | some Ls => if Ls.flatten.length ≤ sizeLine then .ok (Ls.flatten.map .py) S1 else .no
    | none => .no)
  | _ => .no
end DV

set_option maxHeartbeats 4000000
namespace DV
open PySem PySem.Spec PyProof.Rows L2
/-! A list turned about; insert. -/
variable {X : Cx} {E : XK}
section
variable {e : Expr} {f : Ex} {k : Nat} {pos p1 p2 p3 : Pos}
end
end DV

set_option maxHeartbeats 4000000
namespace DV
open PySem PySem.Spec PyProof.Rows L2
/-! is True; int of a truth; in of a tuple of tuples; not in range. -/
variable {X : Cx} {E : XK}
def notBD : D → D → Sto → R D
  | .py (.bool a), .py (.bool b), S => .ok (.py (.bool (!decide (a = b)))) S
  | _, _, _ => .no
theorem bl_of {K : PySem.W.Frag} {ι : List Addr} {H : Hp} {v : V} {b : Bool} (r : DV.Rd K ι H v (.py (.bool b))) : v = .bl b := by
  cases r with
  | py r => cases r; rfl
theorem do_notB : DOp X (compareOp .IsNot) notBD := by
  refine ⟨_, op_notBl (X := X), fun x y d e H S ι E Q hS rx ry hw => ?_⟩
  unfold notBD at hw
  split at hw
  · exact ⟨_, _, bl_of rx, bl_of ry, hw _ _ _ (.refl hS) (.py (.bl _))⟩
  · exact hw.elim
/-! ### in of a tuple, deep -/
/-! ### not in range -/
section
variable {a : Expr} {f : Ex} {j : Int} {kk : Nat} {p p1 pos pos2 : Pos}
end
end DV

set_option maxHeartbeats 4000000
namespace L2
open PySem PySem.Spec PyProof.Rows
end L2
namespace DV
open PySem PySem.Spec PyProof.Rows L2
variable {X : Cx} {E : XK}
section
variable {a : Expr} {f : Ex} {k1 k2 : Nat} {p p1 p2 p3 p4 pos : Pos}
end
end DV

set_option maxHeartbeats 4000000
namespace DV
open PySem PySem.Spec PyProof.Rows L2
/-! Dicts that are never changed: dict(pairs), d[k]. -/
variable {X : Cx} {E : XK}
def keyOf : PyData → Option Key
  | .int i => some (.inl i)
  | .str x => some (.inr x)
  | _ => none
@[simp] theorem keyOf_keyP (k : Key) : keyOf (keyP k) = some k := by cases k <;> rfl
theorem key_V {K : PySem.W.Frag} {H : Hp} {v : V} {d : PyData} {k : Key} (r : Pp K H v d) (h : keyOf d = some k) : v = kV k := by
  cases r <;> simp [keyOf] at h <;> subst h <;> rfl
def pairsOf : List PyData → Option (List (Key × PyData))
  | [] => some []
  | .tuple [k, v] :: ds => (match keyOf k, pairsOf ds with
    | some k, some r => some ((k, v) :: r)
    | _, _ => none)
  | _ => none
def dictF (f : Ex) : Ex := fun σ S => (f σ S).bind fun d S1 => match d with
  | .py (.list ds) => (match pairsOf ds with
    | some kv => if (kv.map Prod.fst).Nodup then .ok (.py (.dict (kv.map fun p => (keyP p.1, p.2)))) S1 else .no
    | none => .no)
  | _ => .no
theorem pairs_V {K : PySem.W.Frag} {H : Hp} : ∀ {xs : List V} {ds : List PyData} {kv : List (Key × PyData)}, PpAll K H xs ds → pairsOf ds = some kv →
    ∃ (ps : List Addr) (kvs : List (Key × V)), xs = ps.map V.ref ∧ Paired (fun p kv => SqT K H p [kV kv.1, kv.2]) ps kvs ∧ kvs.map Prod.fst = kv.map Prod.fst ∧ PpAll K H (kvs.map Prod.snd) (kv.map Prod.snd)
  | _, _, kv, .nil, h => by
    cases h
    exact ⟨[], [], rfl, .nil, rfl, .nil⟩
  | _, _, kv, @PpAll.cons _ _ v vs d ds r rs, h => by
    unfold pairsOf at h
    split at h
    · rename_i e
      exact absurd e (by simp)
    · rename_i k w ds' e
      cases e
      split at h
      · rename_i κ q hk hq
        cases h
        obtain ⟨ps, kvs, e1, e2, e3, e4⟩ := pairs_V rs hq
        cases r with
        | tup hT hz al =>
          cases al with
          | cons r1 al =>
            cases al with
            | cons r2 al =>
              cases al
              rw [key_V r1 hk] at hT
              exact ⟨_ :: ps, (κ, _) :: kvs, by rw [List.map_cons, e1], .cons hT.sq e2, by rw [List.map_cons, List.map_cons, e3], .cons r2 e4⟩
      · cases h
    · cases h
theorem putK_new {kvs : List (Key × V)} {k : Key} {v : V} (h : k ∉ kvs.map Prod.fst) : putK kvs k v = kvs ++ [(k, v)] := by
  unfold putK
  rw [if_neg]
  intro e
  obtain ⟨p, hp, e2⟩ := List.any_eq_true.mp e
  exact h (List.mem_map.mpr ⟨p, hp, of_decide_eq_true e2⟩)
theorem merge_new : ∀ (more acc : List (Key × V)), ((acc ++ more).map Prod.fst).Nodup → mergeK acc more = acc ++ more
  | [], acc, _ => by simp [mergeK]
  | (k, v) :: more, acc, h => by
    have e : mergeK acc ((k, v) :: more) = mergeK (putK acc k v) more := rfl
    have hk : k ∉ acc.map Prod.fst := by
      rw [List.map_append, List.nodup_append] at h
      intro hm
      exact h.2.2 k hm k (by simp) rfl
    rw [e, putK_new hk, merge_new more _ (by simpa using h)]
    simp
def tFzD (t : TE) : TE := fun σ H Q => t σ H fun v H1 => ∃ a kvs, v = .ref a ∧ H1 a = some (.dK kvs) ∧ ∀ o, Q v (upd H1 a (.frz o (.dK kvs)))
theorem pe_frzD {e : Expr} {t : TE} (p : PE X e t) : PE X e (tFzD t) := by
  refine ⟨fun pins s σ H Q I h => thn (p.run pins s σ H _ I h) fun u s1 ⟨v, H1, I1, r, a, xs, ev, ha, q⟩ => ?_⟩
  obtain ⟨o, I2⟩ := I1.lock ha trivial
  exact ⟨v, _, I2, r, q o⟩
theorem zip_keys {kvs : List (Key × V)} {kv : List (Key × PyData)} (h : kvs.map Prod.fst = kv.map Prod.fst) : (kvs.map fun p => keyP p.1).zip (kv.map Prod.snd) = kv.map fun p => (keyP p.1, p.2) := by
  have e : (kvs.map fun p => keyP p.1) = kv.map fun p => keyP p.1 := by
    have := congrArg (List.map keyP) h
    simpa [Function.comp_def] using this
  rw [e]
  clear e h
  induction kv with
  | nil => rfl
  | cons p kv ih => simp [ih]
section
variable {e i : Expr} {f g : Ex} {p pos : Pos}
def dlook : List (PyData × PyData) → Key → Option PyData
  | [], _ => none
  | (p, d) :: r, k => if keyOf p = some k then some d else dlook r k
def dgetF (a b : Ex) : Ex := fun σ S => (a σ S).bind fun x S1 => (b σ S1).bind fun y S2 => match x, y with
  | .py (.dict kvs), .py k => (match keyOf k with
    | some k => (match dlook kvs k with
      | some d => .ok (.py d) S2
      | none => .no)
    | none => .no)
  | _, _ => .no
theorem look_V {K : PySem.W.Frag} {H : Hp} {k : Key} {d : PyData} : ∀ {kvs : List (Key × V)} {ds : List PyData}, PpAll K H (kvs.map Prod.snd) ds → dlook ((kvs.map fun kv => keyP kv.1).zip ds) k = some d → ∃ v, valV kvs k = some v ∧ Pp K H v d
  | [], _, .nil, h => by cases h
  | (κ, v) :: kvs, _, .cons r rs, h => by
    simp only [List.map_cons, List.zip_cons_cons, dlook, keyOf_keyP] at h
    by_cases e : κ = k
    · subst e
      rw [if_pos rfl] at h
      cases h
      exact ⟨v, valV_pos rfl, r⟩
    · rw [if_neg (fun z => e (Option.some.inj z))] at h
      obtain ⟨w, h1, h2⟩ := look_V rs h
      exact ⟨w, by rw [valV_neg e]; exact h1, h2⟩
theorem de_dget {k : Nat} (o : Okx k X E) (ha : DE X E e f) (hb : DE X E i g) (hs : NoSl i := by intro _ _; rfl) : DE X E (.Subscript e i pos) (dgetF f g) := by
  obtain ⟨t, p, q⟩ := ha
  obtain ⟨u, pu, qu⟩ := hb
  refine ⟨_, pe_dget (by have := o.room.un; omega) p pu hs, fun σ H σd S ι Q hE hS h => ?_⟩
  refine q σ H σd S ι _ hE hS (Wp.bind0 h fun x S1 _ v H1 ι1 p1 r1 h1 => ?_)
  refine qu σ H1 σd S1 ι1 _ (hE.mono p1.pre p1.keep) p1.sto (Wp.bind0 (Wp.re p1 h1) fun y S2 _ v2 H2 ι2 p2 r2 h2 => ?_)
  split at h2
  · split at h2
    · rename_i κ hk
      split at h2
      · rename_i d hd
        cases r2 with
        | py r2 =>
          cases r1 with
          | py r1 =>
            have hv := key_V r2 hk
            generalize he' : PyData.dict _ = z at r1
            cases r1 with
            | @dic a ob kvs ds hH hl al =>
              cases he'
              obtain ⟨w, h3, h4⟩ := look_V al hd
              exact ⟨a, w, rfl, .inl ⟨kvs, κ, .inr ⟨ob, p2.keep.frzs _ _ _ hH⟩, hv, h3.symm⟩, h2 _ _ _ p2 (.py (h4.keep p2.keep))⟩
            | _ => cases he'
      · exact h2.elim
    · exact h2.elim
  · exact h2.elim
end
end DV

set_option maxHeartbeats 4000000
namespace DV
open PySem PySem.Spec PyProof.Rows L2
/-! insert; == of lists that may be changed; count of whole numbers and truths. -/
variable {X : Cx} {E : XK}
end DV

set_option maxHeartbeats 4000000
namespace DV
open PySem PySem.Spec PyProof.Rows L2
/-! < of data that are alike, place by place, nested. -/
section
variable {X : Cx} {E : XK}
def ltOk (d e : PyData) : Prop := PySem.W.alike d e = true ∧ isNon d = false ∧ d.hasDict = false ∧ e.hasDict = false ∧ d.depth ≤ 60
instance (d e : PyData) : Decidable (ltOk d e) := by unfold ltOk; infer_instance
end
end DV

set_option maxHeartbeats 4000000
namespace DV
open PySem PySem.Spec PyProof.Rows L2
/-! A def that is called upon an error that is handled: what it tells by the error's class. -/
section
variable {X : Cx}
end
/-! ### isinstance of the error that is handled -/
/-- the name in slot i holds the thing at a: the answer is b -/
def isaE (a i : Nat) (b : Bool) : Ex := fun σ S => match σ[i]? with
  | some (some (.raw a')) => if a' = a then .ok (.py (.bool b)) S else .no
  | _ => .no
section
variable {X : Cx} {E : XK} {a D : Addr} {oe : Obj} {pos p p1 p2 : Pos} {x y : Str}
end
/-! ### such a def's promise -/
section
variable {P : Program} {w : World} {K : PySem.W.Frag} {mg : Str → Option Value} {base : Heap}
end
end DV

set_option maxHeartbeats 4000000
namespace DV
open PySem PySem.Spec PyProof.Rows L2
/-! A lambda without parameters, handed to a def that calls it and tells what its value shows, or a word of its error. -/
/-- the table of a def that makes lambdas stands in the store -/
def tabIn (P : Nat) (q : Str) (S : Sto) : Prop := ∃ i : Nat, S[i]? = some (.tab P q)
/-! ### the lambda's body -/
section
variable {X : Cx} {E : XK} {k : Nat}
end
/-! ### the lambda is made -/
/-- what the heap knows behind a lambda's making: as much as ahead, or its code object, newly told by the table at P -/
def MadeL (H H1 : Hp) (P c' : Addr) (q : Str) : Prop := H1 = H ∨ ∃ ps more, H P = some (.tbl ps) ∧ H c' = none ∧ H1 = upd (upd H P (.tbl (ps ++ more))) c' (LamX.CodeO c' q)
theorem MadeL.at_ {H H1 : Hp} {P c' : Addr} {q : Str} (m : MadeL H H1 P c' q) {b : Addr} {o : HO} (e : H b = some o) : H1 b = some o ∨ (b = P ∧ ∃ ps, H1 b = some (.tbl ps)) := by
  rcases m with rfl | ⟨ps, more, h1, h2, rfl⟩
  · exact .inl e
  · have ne : b ≠ c' := ne_of_none e h2
    rw [upd_ne ne]
    by_cases hb : b = P
    · subst hb
      exact .inr ⟨rfl, _, upd_same⟩
    · rw [upd_ne hb]
      exact .inl e
section
variable {X : Cx} {pins : List (Addr × Obj)} {σ : L2.St} {H : Hp} {s : Shared}
end
/-- what was told of the heap is told behind it -/
theorem MadeL.keep {H H1 : Hp} {P c' : Addr} {q : Str} (m : MadeL H H1 P c' q) (tb : LamX.TabS H P q) : Keep H H1 := by
  obtain ⟨ps, hP, _, _⟩ := tb
  refine ⟨fun b xs e => ?_, fun b o u e => ?_⟩
  · rcases m.at_ e with z | ⟨rfl, _⟩
    · exact z
    · rw [hP] at e
      cases e
  · rcases m.at_ e with z | ⟨rfl, _⟩
    · exact z
    · rw [hP] at e
      cases e
theorem MadeL.post {K : PySem.W.Frag} {ι : List Addr} {S : Sto} {H H1 : Hp} {P c' : Addr} {q : Str} (m : MadeL H H1 P c' q) (hS : StR K ι H S) (h0 : tabIn P q S) (tb1 : LamX.TabS H1 P q) : Post K ι H ι H1 S := by
  obtain ⟨i0, h0⟩ := h0
  have tb := hS.tb i0 P q h0
  have kp := m.keep tb
  obtain ⟨ps, hP, _, _⟩ := tb
  have lst : ∀ (b : Addr) (vs : MO), H b = some vs.ho → H1 b = some vs.ho := fun b vs e => by
    rcases m.at_ e with z | ⟨rfl, _⟩
    · exact z
    · rw [hP] at e
      cases vs <;> cases e
  have dom : ∀ b, H b ≠ none → H1 b ≠ none := fun b e => by
    obtain ⟨o, e⟩ := Option.ne_none_iff_exists'.mp e
    rcases m.at_ e with z | ⟨_, _, z⟩
    · rw [z]
      simp
    · rw [z]
      simp
  refine ⟨List.prefix_refl _, kp, ⟨hS.len, hS.nd, fun n a e => dom a (hS.there n a e), fun n o a e1 e2 => (hS.at_ n o a e1 e2).mono (List.prefix_refl _) kp (lst a), fun n P' q' e => ?_⟩, fun b vs n e => ⟨lst b (.lst vs) e, n⟩, dom⟩
  by_cases hn : n = i0
  · subst hn
    rw [h0] at e
    cases e
    exact tb1
  have ad : ∀ (m P0 : Nat) (q0 : Str), S[m]? = some (.tab P0 q0) → ι[m]? = some P0 := fun m P0 q0 e => by
    have hm : m < ι.length := by rw [hS.len]; exact (List.getElem?_eq_some_iff.mp e).1
    have e1 := List.getElem?_eq_getElem hm
    have z := hS.at_ m _ _ e e1
    generalize ι[m] = a at z e1
    cases z
    exact e1
  have ne : P' ≠ P := fun z => hn (nodup_at hS.nd (ad n P' q' e) (z ▸ ad i0 P q h0))
  obtain ⟨ps, h1, h2, h3⟩ := hS.tb n P' q' e
  have to : ∀ (b : Addr) (o : HO), H b = some o → b ≠ P → H1 b = some o := fun b o e hb => by
    rcases m.at_ e with z | ⟨z, _⟩
    · exact z
    · exact absurd z hb
  refine ⟨ps, to _ _ h1 ne, h2, fun pos cv hc => ?_⟩
  obtain ⟨c, e1, e2⟩ := h3 pos cv hc
  refine ⟨c, e1, to _ _ e2 fun z => ?_⟩
  rw [z, hP] at e2
  exact LamX.codeO_ne _ (Option.some.inj e2).symm
/-! ### the def that calls it -/
section
variable {X : Cx} {E : XK} {k kw : Nat}
end
end DV

set_option maxHeartbeats 4000000
namespace DV
open PySem PySem.Spec PyProof.Rows L2
/-! The end of a law whose def makes lambdas: its table of code objects is number 0 of the store. -/
section
variable {P : Program} {w : World} {K : PySem.W.Frag} {mg : Str → Option Value} {base : Heap}
end
end DV

set_option maxHeartbeats 4000000
namespace L2
open PySem PySem.Spec PyProof.Rows
theorem dv_list_mul (l : Addr) (items : Array Value) (n : Nat) (dd : Option Addr) (sl : Array (Option Value)) (x : Int) (u : Tok) (c0 : ¬(!Builtin.List.listFitsIndex x) = true) (c1 : ¬items.size * x.toNat > (2 ^ 63 - 1) / 8) (c2 : ¬Builtin.List.listTooLong (items.size * x.toNat) = true) :
    Meets (Builtin.«list.__mul__» ⟨[.ref l, .int x u], []⟩) (fun _ R s => s.heap.get? l = some { cls := .type "list", dict := dd, data := .seq items n, slots := sl } ∧
      R (.ok (.ret (Value.ref s.heap.objs.size))) { s with heap := s.heap.push { cls := Value.type "list", data := Data.seq (List.foldl (fun x1 x2 => x1 ++ x2) #[] (List.replicate (if items.isEmpty = true then 0 else x.toNat) items)) }, toks := s.toks }) :=
  .of_wp fun prog w A R s h => by
    obtain ⟨hp, g, d, tk, os⟩ := s
    obtain ⟨hl, h⟩ := h
    wp_walk using wpAny_loadPart' hl
    refine wpAny_ite_false (decide_eq_false (Nat.not_lt.mpr (AutoListH.joined_fits c2))) ?_
    wp_walk using wpAny_loadPart' hl
    exact ⟨_, rfl, h⟩
theorem dv_int_rmul_list (a : Int) (t : Tok) (l : Addr) (items : Array Value) (n : Nat) (dd : Option Addr) (sl : Array (Option Value)) :
    Meets (Builtin.«int.__rmul__» ⟨[.int a t, .ref l], []⟩) (fun _ R s => s.heap.get? l = some { cls := .type "list", dict := dd, data := .seq items n, slots := sl } ∧ R (.ok (.ret Value.notImplemented)) s) :=
  .of_wp fun prog w A R s h => by
    obtain ⟨hp, g, d, tk, os⟩ := s
    obtain ⟨hl, h⟩ := h
    wp_walk using wpAny_loadPart' hl
    exact ⟨_, rfl, h⟩
section
variable {X : Cx}
theorem op_repF : OpR X (binaryOp .Mult) (fun x y H Q => ∃ l k xs, x = V.ref l ∧ y = V.int k ∧ SqL X.K H l xs ∧ -1000 ≤ k ∧ k ≤ 1000 ∧ xs.length ≤ 1000 ∧ ∀ p, H p = none → Q (.ref p) (upd H p (.lst (List.replicate k.toNat xs).flatten))) := by
  intro pins s σ H x y v u Q I rx ry h
  obtain ⟨l, k, xs, rfl, rfl, hl, k0, k1, hz, q⟩ := h
  cases rx
  obtain ⟨t, rfl⟩ := ry
  obtain ⟨us, ru, ⟨⟨c1, d1, t1, s1⟩, m, e1, e2, e3, e4⟩, _⟩ := I.list hl
  simp only at e2 e3 e4
  subst e2 e3 e4
  have le := ru.length
  have small : us.toArray.size * k.toNat ≤ 1000000 := by
    rw [List.size_toArray, ← le]
    exact Nat.mul_le_mul hz (by omega : k.toNat ≤ 1000)
  have sl : (sizeLine : Nat) = 16777216 := sizeLine_eq
  have cap : ¬ us.toArray.size * k.toNat > (2 ^ 63 - 1) / 8 := by omega
  have fit : ¬ (!Builtin.List.listFitsIndex k) = true := by
    rw [fitsIndex_both (by omega) (by omega)]
    exact Bool.false_ne_true
  have long : ¬ Builtin.List.listTooLong (us.toArray.size * k.toNat) = true := by
    rw [notLongL (by omega)]
    exact Bool.false_ne_true
  have new : List.foldl (fun x1 x2 => x1 ++ x2) #[] (List.replicate (if us.toArray.isEmpty = true then 0 else k.toNat) us.toArray) = (List.replicate k.toNat us).flatten.toArray := by
    have step : ∀ m : Nat, List.foldl (fun x1 x2 => x1 ++ x2) #[] (List.replicate m us.toArray) = (List.replicate m us).flatten.toArray := fun m => by
      have z := foldl_rep us m []
      rw [List.nil_append] at z
      exact z
    rw [step]
    cases us with
    | nil => simp
    | cons a r => rw [if_neg (by simp)]
  refine wpAny_binaryOp_repeat_ref (T := "list") (U := "int") (by decide) ⟨_, e1, rfl⟩ (fun s' => typeIs_int s' k t) noFill_list_mul PySem.F.fills_int_mul PySem.F.slot_int_rmul repeat_list PySem.F.slot_int_index.lookup
    (call_meets PySem.F.slot_int_rmul (typeIs_int s k t) PySem.F.entry_int_rmul (PySem.F.args_int_rmul_2 _ _) (dv_int_rmul_list k t l us.toArray m none s1)
      ⟨e1, rfl, ⟨_, e1, rfl⟩, call_meets PySem.F.slot_list_mul ⟨_, e1, rfl⟩ PySem.F.entry_list_mul (PySem.F.args_list_mul_2 _ _) (dv_list_mul l us.toArray m none s1 k t fit cap long) ⟨e1, ?_⟩⟩)
  rw [new]
  refine ⟨.ref _, _, I.lnew (t' := s.toks) (ru.rep k.toNat) ?_, rfl, q _ I.fresh⟩
  rw [PyProof.Rows.lm_len_rep_flat, Nat.mul_comm, le]
  have : us.length * k.toNat ≤ 1000000 := by simpa using small
  omega
end
end L2
namespace DV
open PySem PySem.Spec PyProof.Rows L2
section
variable {X : Cx} {E : XK} {a b e : Expr} {f g : Ex} {pos p1 p2 p3 : Pos}
/-- a text turned about -/
def revS (a : Ex) : Ex := fun σ S => (a σ S).bind fun x S1 => match x with
  | .py (.str z) => if z.length ≤ sizeLine then .ok (.py (.str ⟨z.cps.toList.reverse.toArray⟩)) S1 else .no
  | _ => .no
/-- the items of a list -/
def lstOf (S : Sto) : D → Option (List D)
  | .py (.list ds) => some (ds.map .py)
  | .obj n => match S[n]? with
    | some (.lst ds) => some ds
    | _ => none
  | _ => none
theorem lst_of {K : PySem.W.Frag} {ι : List Addr} {H : Hp} {S : Sto} {v : V} {d : D} {ds : List D} (hS : StR K ι H S) (r : Rd K ι H v d) (h : lstOf S d = some ds) : ∃ a vs, v = .ref a ∧ SqL K H a vs ∧ RdAll K ι H vs ds := by
  cases r with
  | py r =>
    cases r with
    | lst hf hz hs =>
      cases h
      exact ⟨_, _, rfl, hf.sq, .of_pys hs⟩
    | _ => cases h
  | raw a => cases h
  | obj e =>
    rename_i n a
    simp only [lstOf] at h
    split at h
    · rename_i ds' he
      cases h
      cases hS.at_ _ _ _ he e with
      | lst ha rr => exact ⟨a, _, rfl, .of ha, rr⟩
    · cases h
/-- a new list: two lists put together -/
def catL (a b : Ex) : Ax := fun σ S => (a σ S).bind fun x S1 => (b σ S1).bind fun y S2 => match lstOf S2 x, lstOf S2 y with
  | some xs, some ys => if xs.length + ys.length ≤ sizeLine then .ok (xs ++ ys) S2 else .no
  | _, _ => .no
/-- a new list: a list so many times -/
def repL (a b : Ex) : Ax := fun σ S => (a σ S).bind fun x S1 => (b σ S1).bind fun y S2 => match lstOf S2 x, y with
  | some xs, .py (.int k) => if -1000 ≤ k ∧ k ≤ 1000 ∧ xs.length ≤ 1000 then .ok (List.replicate k.toNat xs).flatten S2 else .no
  | _, _ => .no
theorem rd_rep {K : PySem.W.Frag} {ι : List Addr} {H : Hp} {vs : List V} {ds : List D} (h : RdAll K ι H vs ds) : ∀ n : Nat, RdAll K ι H (List.replicate n vs).flatten (List.replicate n ds).flatten
  | 0 => .nil
  | n + 1 => by
    rw [List.replicate_succ, List.replicate_succ, List.flatten_cons, List.flatten_cons]
    exact Paired.app h (rd_rep h n)
theorem dl_rep (ha : DE X E a f) (hb : DE X E b g) : DL X E (.BinOp a .Mult b pos) (repL f g) := by
  obtain ⟨t, p, q⟩ := ha
  obtain ⟨u, pu, qu⟩ := hb
  refine ⟨_, pe_op (op_repF (X := X)) p pu, fun σ H σd S ι Q hE hS h => ?_⟩
  refine q σ H σd S ι _ hE hS (Wp.bind0 h fun d S1 _ v H1 ι1 p1 r1 h1 => ?_)
  refine qu σ H1 σd S1 ι1 _ (hE.mono p1.pre p1.keep) p1.sto ?_
  cases hg : g σd S1 with
  | no => rw [hg] at h1; exact h1.elim
  | ex c S2 => rw [hg] at h1; exact Wp.re (rel := relL X.K H) (Q := Q) p1 (show Wp X.K X.mg E ι H (relL X.K H) (R.ex c S2) Q from h1)
  | ok e S2 =>
    rw [hg, bind_ok] at h1
    intro w H2 ι2 p2 r2
    split at h1
    · rename_i xs k hx
      split at h1
      · rename_i hz
        obtain ⟨l, vs, rfl, hl, al⟩ := lst_of p2.sto (r1.mono p2.pre p2.keep) hx
        have hz' : vs.length ≤ 1000 := by rw [al.length]; exact hz.2.2
        refine ⟨l, k, vs, rfl, int_of r2, hl, hz.1, hz.2.1, hz', fun o no => ?_⟩
        have pp := p1.trans p2
        have sz : (List.replicate k.toNat vs).flatten.length ≤ sizeLine := by
          have := sizeLine_eq
          have h2 : k.toNat * vs.length ≤ 1000 * 1000 := Nat.mul_le_mul (by omega) hz'
          rw [PyProof.Rows.lm_len_rep_flat]
          omega
        refine h1 _ _ _ (pp.trans (.new p2.sto no)) ⟨o, _, ?_, rfl, upd_same, p2.sto.notin no, sz, RdAll.mono (List.prefix_refl _) (.new no) (rd_rep al _)⟩
        cases q0 : H o with
        | none => rfl
        | some u => exact absurd no (pp.dom o (by rw [q0]; simp))
      · exact h1.elim
    · exact h1.elim
@[simp] theorem isaE_raw {a : Nat} {b : Bool} {r : En} {S : Sto} : isaE a 0 b (some (.raw a) :: r) S = .ok (.py (.bool b)) S := by simp [isaE]
end
end DV

set_option maxHeartbeats 4000000
namespace DV
open PySem
/-! Lists of truths, counted and gone through. -/
end DV

set_option maxHeartbeats 4000000
namespace DV
open PySem PySem.Spec PyProof.Rows L2
/-! The text of a thing in which there are dicts. -/
mutual
inductive Dd (K : PySem.W.Frag) (H : Hp) : V → PyData → Prop
  | non : Dd K H .non .none
  | bl (b : Bool) : Dd K H (.bl b) (.bool b)
  | int (i : Int) : Dd K H (.int i) (.int i)
  | str (x : Str) : Dd K H (.str x) (.str x)
  | lst {a : Addr} {xs : List V} {ds : List PyData} : SqL K H a xs → DdAll K H xs ds → Dd K H (.ref a) (.list ds)
  | tup {a : Addr} {xs : List V} {ds : List PyData} : SqT K H a xs → DdAll K H xs ds → Dd K H (.ref a) (.tuple ds)
  | dic {a : Addr} {o : Obj} {kvs : List (Key × V)} {ds : List PyData} : H a = some (.frz o (.dK kvs)) → DdAll K H (kvs.map Prod.snd) ds → Dd K H (.ref a) (.dict ((kvs.map fun kv => keyP kv.1).zip ds))
inductive DdAll (K : PySem.W.Frag) (H : Hp) : List V → List PyData → Prop
  | nil : DdAll K H [] []
  | cons {v : V} {vs : List V} {d : PyData} {ds : List PyData} : Dd K H v d → DdAll K H vs ds → DdAll K H (v :: vs) (d :: ds)
end
section
variable {K : PySem.W.Frag} {H : Hp}
mutual
theorem Pp.dd : ∀ {v : V} {d : PyData}, Pp K H v d → Dd K H v d
  | _, _, .non => .non
  | _, _, .bl b => .bl b
  | _, _, .int i => .int i
  | _, _, .str x => .str x
  | _, _, .lst h _ hs => .lst h.sq (PpAll.dd hs)
  | _, _, .tup h _ hs => .tup h.sq (PpAll.dd hs)
  | _, _, .dic h _ hs => .dic h (PpAll.dd hs)
theorem PpAll.dd : ∀ {vs : List V} {ds : List PyData}, PpAll K H vs ds → DdAll K H vs ds
  | _, _, .nil => .nil
  | _, _, .cons h hs => .cons (Pp.dd h) (PpAll.dd hs)
end
mutual
theorem deep_dd {ι : List Addr} {S : Sto} (hS : StR K ι H S) : ∀ (n : Nat) {v : V} {d : D} {p : PyData}, Rd K ι H v d → deep S n d = some p → Dd K H v p
  | 0, _, _, _, _, h => by cases h
  | n + 1, v, .py d, p, r, h => by
    cases r with
    | py r => cases h; exact r.dd
  | n + 1, v, .raw m, p, r, h => by cases h
  | n + 1, v, .obj m, p, r, h => by
    cases r with
    | obj e =>
      simp only [deep] at h
      split at h
      · rename_i ds hd
        rw [Option.map_eq_some_iff] at h
        obtain ⟨ps, h1, h2⟩ := h
        subst h2
        cases hS.at_ _ _ _ hd e with
        | lst ha rr => exact .lst (.of ha) (deep_ddall hS n rr h1)
      · cases h
theorem deep_ddall {ι : List Addr} {S : Sto} (hS : StR K ι H S) (n : Nat) : ∀ {vs : List V} {ds : List D} {ps : List PyData}, RdAll K ι H vs ds → ds.mapM (deep S n) = some ps → DdAll K H vs ps
  | _, [], _, .nil, h => by
    simp at h
    subst h
    exact .nil
  | _, d :: ds, ps, .cons r rs, h => by
    rw [List.mapM_cons] at h
    simp only [Option.bind_eq_bind, Option.bind_eq_some_iff, Option.pure_def, Option.some.injEq] at h
    obtain ⟨p, h1, qs, h2, rfl⟩ := h
    exact .cons (deep_dd hS n r h1) (deep_ddall hS n rs h2)
end
end
section
variable {X : Cx} {pins : List (Addr × Obj)} {σ : L2.St} {H : Hp} {s : Shared}
theorem keys_show {P : Program} {w : World} {h : Heap} : ∀ {es : List DictEntry} {vs : List (Key × Value)} {kvs : List (Key × V)}, Pairs (mixKind P w) es vs → KV kvs vs →
    Vals (kvs.map Prod.snd) (es.map (·.val)) ∧ (∃ as, ReadsAll h (es.map (·.key)) (kvs.map fun kv => keyP kv.1) as) ∧
    (PyData.showableAll (kvs.map fun kv => keyP kv.1) = true → (∀ t ∈ PyData.shownAll (kvs.map fun kv => keyP kv.1), t.length ≤ sizeLine) → ∀ d, ReprAllK P w [] h d (es.map (·.key)) (PyData.shownAll (kvs.map fun kv => keyP kv.1)))
  | _, _, _, .nil, .nil => ⟨.nil, ⟨_, .nil⟩, fun _ _ d => by
    show ReprAllK P w [] h d [] (PyData.shownAll [])
    rw [PyData.shownAll.eq_1]
    exact .nil⟩
  | _, _, _, .cons hk hv hs, .cons r rs => by
    obtain ⟨h1, ⟨as, h2⟩, h3⟩ := keys_show hs rs
    obtain ⟨e1, e2⟩ := r
    rename_i e kv es vs p kvs
    refine ⟨.cons (by show RelV p.2 e.val; rw [hv]; exact e2) h1, ?_⟩
    rw [← e1, mixKind_is] at hk
    rcases keyIs_shape hk with ⟨i, t, hp, he⟩ | ⟨x, t, hp, he⟩
    · obtain ⟨p1, p2⟩ := p
      replace hp : p1 = _ := hp
      subst hp
      refine ⟨⟨_, .cons (by show Reads h e.key (.int i) _; rw [he]; exact .int i t) h2⟩, fun q1 q2 d => ?_⟩
      rw [List.map_cons, PyData.showableAll.eq_2] at q1
      obtain ⟨q3, q4⟩ := Bool.and_eq_true_iff.mp q1
      have q5 : ∀ t ∈ PyData.shownAll (kvs.map fun kv => keyP kv.1), t.length ≤ sizeLine := fun t ht => q2 t (by rw [List.map_cons, PyData.shownAll.eq_2]; exact List.mem_cons_of_mem _ ht)
      rw [List.map_cons, List.map_cons, PyData.shownAll.eq_2]
      refine .cons ?_ (h3 q4 q5 d)
      rw [he]
      simp only [keyP, PyData.shown]
      exact .of_is (ReprIs.int t (by simpa [keyP, PyData.showable] using q3)) _ _ _
    · obtain ⟨p1, p2⟩ := p
      replace hp : p1 = _ := hp
      subst hp
      refine ⟨⟨_, .cons (by show Reads h e.key (.str x) _; rw [he]; exact .str x t) h2⟩, fun q1 q2 d => ?_⟩
      rw [List.map_cons, PyData.showableAll.eq_2] at q1
      obtain ⟨q3, q4⟩ := Bool.and_eq_true_iff.mp q1
      have q5 : ∀ t ∈ PyData.shownAll (kvs.map fun kv => keyP kv.1), t.length ≤ sizeLine := fun t ht => q2 t (by rw [List.map_cons, PyData.shownAll.eq_2]; exact List.mem_cons_of_mem _ ht)
      have q6 := q2 (keyP (.inr x)).shown (by rw [List.map_cons, PyData.shownAll.eq_2]; exact List.mem_cons_self ..)
      rw [List.map_cons, List.map_cons, PyData.shownAll.eq_2]
      refine .cons ?_ (h3 q4 q5 d)
      rw [he]
      simp only [keyP, PyData.shown] at q6 ⊢
      exact .of_is (ReprIs.str x t q6) _ _ _
theorem zip_fst {α β : Type} {as : List α} {bs : List β} (h : as.length = bs.length) : (as.zip bs).map (·.1) = as := List.map_fst_zip (by omega)
theorem zip_snd {α β : Type} {as : List α} {bs : List β} (h : as.length = bs.length) : (as.zip bs).map (·.2) = bs := List.map_snd_zip (by omega)
theorem DdAll.length {K : PySem.W.Frag} {H : Hp} : ∀ {vs : List V} {ds : List PyData}, DdAll K H vs ds → vs.length = ds.length
  | _, _, .nil => rfl
  | _, _, .cons _ hs => by rw [List.length_cons, List.length_cons, DdAll.length hs]
mutual
theorem Dd.ok (I : Inv X pins σ H s) : ∀ {v : V} {d : PyData} {u : Value}, Dd X.K H v d → RelV v u → (∃ as, Reads s.heap u d as) ∧
    (d.showable = true → d.shown.length ≤ sizeLine → ∃ bs, ReadAtMost s.heap d.depth bs ∧ ReprK X.prog X.w bs s.heap d.depth u d.shown)
  | _, _, _, .non, r => by
    cases r
    exact ⟨⟨_, .none⟩, fun _ _ => ⟨[], (fun _ h => nomatch h), by simp only [PyData.shown]; exact .of_is ReprIs.none _ _ _⟩⟩
  | _, _, _, .bl b, r => by
    cases r
    exact ⟨⟨_, .bool b⟩, fun _ _ => ⟨[], (fun _ h => nomatch h), by simp only [PyData.shown]; exact .of_is (ReprIs.bool b) _ _ _⟩⟩
  | _, _, _, .int i, r => by
    obtain ⟨t, rfl⟩ := r
    exact ⟨⟨_, .int i t⟩, fun hs _ => ⟨[], (fun _ h => nomatch h), by simp only [PyData.shown]; exact .of_is (ReprIs.int t (by simpa [PyData.showable] using hs)) _ _ _⟩⟩
  | _, _, _, .str x, r => by
    obtain ⟨t, rfl⟩ := r
    exact ⟨⟨_, .str x t⟩, fun _ hz => ⟨[], (fun _ h => nomatch h), by simp only [PyData.shown]; exact .of_is (ReprIs.str x t (by simpa only [PyData.shown] using hz)) _ _ _⟩⟩
  | _, _, _, .lst (a := a) (ds := ds) hs ha, r => by
    cases r
    obtain ⟨its, rv, ⟨o, n, ho, hc, _, hd⟩, _⟩ := I.list hs
    obtain ⟨⟨as, hr⟩, hK⟩ := DdAll.ok I ha rv
    have r : Reads s.heap (.ref a) (.list ds) _ := .list ho hc hd hr
    refine ⟨⟨_, r⟩, fun hs hz => ?_⟩
    have hz' : (listText (PyData.shownAll ds)).length ≤ sizeLine := by simpa only [PyData.shown] using hz
    obtain ⟨bs, hb, hk⟩ := hK (by simpa [PyData.showable] using hs) (fun t ht => Nat.le_trans (listText_mem_le ht) hz')
    have hna : a ∉ bs := not_mem_of_deeper r (by simp only [PyData.depth]; omega) hb
    refine ⟨a :: bs, ReadAtMost.cons r (by simp only [PyData.depth]; omega) hb, ?_⟩
    simp only [PyData.depth, PyData.shown]
    cases its with
    | nil =>
      cases ha with
      | nil =>
        simp only [PyData.shownAll, listText_nil]
        exact ReprK.listEmpty ho hc hd
      | cons => cases rv
    | cons x l => exact ReprK.list ho hc hd hna (by simpa using hk.length_eq) (fun i y e => hk.item i y (by simpa using e))
  | _, _, _, .tup (a := a) (ds := ds) hs ha, r => by
    cases r
    obtain ⟨its, rv, ⟨o, ho, hc, n, hd⟩, _⟩ := I.tuple hs
    obtain ⟨⟨as, hr⟩, hK⟩ := DdAll.ok I ha rv
    have r : Reads s.heap (.ref a) (.tuple ds) _ := .tuple ho hc hd hr
    refine ⟨⟨_, r⟩, fun hs hz => ?_⟩
    have hz' : (tupleText (PyData.shownAll ds)).length ≤ sizeLine := by simpa only [PyData.shown] using hz
    obtain ⟨bs, hb, hk⟩ := hK (by simpa [PyData.showable] using hs) (fun t ht => Nat.le_trans (tupleText_mem_le ht) hz')
    have hna : a ∉ bs := not_mem_of_deeper r (by simp only [PyData.depth]; omega) hb
    refine ⟨a :: bs, ReadAtMost.cons r (by simp only [PyData.depth]; omega) hb, ?_⟩
    simp only [PyData.depth, PyData.shown]
    exact ReprK.tuple ho hc hd hna hk
  | _, _, _, .dic (a := a) (o := o) (kvs := kvs) (ds := ds) he ha, r => by
    cases r
    obtain ⟨_, hsys, vs, rel, ⟨o, es, ep, ho, hc, hd, _, hp, _⟩⟩ := dk_rd I.hok (.inr ⟨o, he⟩)
    obtain ⟨rv, ⟨as, hrk⟩, hkk⟩ := keys_show (h := s.heap) hp rel
    obtain ⟨⟨bs, hr⟩, hK⟩ := DdAll.ok I ha rv
    have hl : (kvs.map fun kv => keyP kv.1).length = ds.length := by rw [List.length_map, ← ha.length, List.length_map]
    generalize hD : (kvs.map fun kv => keyP kv.1).zip ds = D
    have e1 : D.map (·.1) = kvs.map fun kv => keyP kv.1 := by rw [← hD]; exact zip_fst hl
    have e2 : D.map (·.2) = ds := by rw [← hD]; exact zip_snd hl
    rw [← e1] at hrk hkk
    rw [← e2] at hr hK
    have r : Reads s.heap (.ref a) (.dict D) _ := .dict ho hc.1 hd hrk hr
    refine ⟨⟨_, r⟩, fun hs hz => ?_⟩
    have hz' : (dictText (PyData.shownKv D)).length ≤ sizeLine := by simpa only [PyData.shown] using hz
    obtain ⟨hs1, hs2⟩ := PyData.showableKv_split D (by simpa [PyData.showable] using hs)
    have k1 := hkk hs1 (fun t ht => let ⟨p, hp, hl⟩ := PyData.shownKv_key_le D t ht; Nat.le_trans hl (Nat.le_trans (dictText_mem_le hp) hz')) (PyData.depthKv D)
    obtain ⟨b2, hb2, k2⟩ := hK hs2 (fun t ht => let ⟨p, hp, hl⟩ := PyData.shownKv_val_le D t ht; Nat.le_trans hl (Nat.le_trans (dictText_mem_le hp) hz'))
    have hb : ReadAtMost s.heap (PyData.depthKv D) b2 := hb2.mono (PyData.depthAll_vals_le D)
    have hna : a ∉ b2 := not_mem_of_deeper r (by simp only [PyData.depth]; omega) hb
    refine ⟨a :: b2, ReadAtMost.cons r (by simp only [PyData.depth]; omega) hb, ?_⟩
    simp only [PyData.depth, PyData.shown, PyData.shownKv_eq]
    exact ReprK.dict ho hc.1 hd hsys hna (ReprEntriesK.of_two es.toList _ _ (k1.more_le (as := []) (as' := b2) (fun b hb => absurd hb List.not_mem_nil) (Nat.le_refl _)) (k2.more_le (fun b hb => hb) (PyData.depthAll_vals_le D)))
theorem DdAll.ok (I : Inv X pins σ H s) : ∀ {vs : List V} {ds : List PyData} {us : List Value}, DdAll X.K H vs ds → Vals vs us → (∃ as, ReadsAll s.heap us ds as) ∧
    (PyData.showableAll ds = true → (∀ t ∈ PyData.shownAll ds, t.length ≤ sizeLine) → ∃ bs, ReadAtMost s.heap (PyData.depthAll ds) bs ∧ ReprAllK X.prog X.w bs s.heap (PyData.depthAll ds) us (PyData.shownAll ds))
  | _, _, _, .nil, r => by
    cases r
    exact ⟨⟨_, .nil⟩, fun _ _ => ⟨[], (fun _ h => nomatch h), by simp only [PyData.shownAll]; exact .nil⟩⟩
  | _, _, _, .cons (d := d) (ds := ds) h hs, r => by
    cases r with
    | cons r1 r2 =>
      obtain ⟨⟨as, q1⟩, k1⟩ := Dd.ok I h r1
      obtain ⟨⟨bs, q2⟩, k2⟩ := DdAll.ok I hs r2
      refine ⟨⟨_, .cons q1 q2⟩, fun hs hz => ?_⟩
      have hs' : d.showable = true ∧ PyData.showableAll ds = true := by simpa [PyData.showableAll] using hs
      obtain ⟨b1, hb1, k1⟩ := k1 hs'.1 (hz _ (by simp only [PyData.shownAll]; exact List.mem_cons_self ..))
      obtain ⟨b2, hb2, k2⟩ := k2 hs'.2 (fun t ht => hz t (by simp only [PyData.shownAll]; exact List.mem_cons_of_mem _ ht))
      refine ⟨b1 ++ b2, ?_, ?_⟩
      · simp only [PyData.depthAll]
        exact (hb1.mono (Nat.le_max_left _ _)).append (hb2.mono (Nat.le_max_right _ _))
      · simp only [PyData.depthAll, PyData.shownAll]
        exact .cons ((k1.more fun b hb => List.mem_append_left _ hb).level_le (Nat.le_max_left _ _)) (k2.more_le (fun b hb => List.mem_append_right _ hb) (Nat.le_max_right _ _))
end
def reprX : List D → Sto → R D
  | [d], S => (match deep S 8 d with
    | some p => if p.showable = true ∧ p.depth ≤ 60 ∧ p.shown.length ≤ sizeLine then .ok (.py (.str p.shown)) S else .no
    | none => .no)
  | _, _ => .no
end
end DV

set_option maxHeartbeats 4000000
namespace DV
open PySem PySem.Spec PyProof.Rows L2
/-! Texts in order. -/
variable {X : Cx}
end DV

set_option maxHeartbeats 4000000
namespace DV
open PySem PySem.Spec PyProof.Rows L2
/-! str(int), tuple[::-1], len(set(ints)). -/
/-! ### a tuple turned about -/
section
variable {prog : Program} {w : World} {A : Around} {E : Value → Shared → Prop} {s : Shared}
end
section
variable {X : Cx} {E : XK} {a b e : Expr} {f g : Ex} {k : Nat} {pos p p1 p2 p3 q : Pos}
def revTE (a : Ex) : Ex := fun σ S => (a σ S).bind fun x S1 => match x with
  | .py (.tuple ds) => .ok (.py (.tuple ds.reverse)) S1
  | _ => .no
/-! ### str(int) -/
/-! ### len(set(ints)) -/
/-! ### pairs of ints in order -/
def leTD : D → D → Sto → R D
  | .py (.tuple [.int a, .int b]), .py (.tuple [.int c, .int d]), S => .ok (.py (.bool (if a = c then decide (b ≤ d) else decide (a ≤ c)))) S
  | _, _, _ => .no
theorem do_leT {kk : Nat} (o : Okx kk X E) : DOp X (compareOp .LtE) leTD := by
  refine ⟨_, op_leT (X := X) (by have := o.room.units; omega), fun x y d e H S ι E Q hS rx ry hw => ?_⟩
  unfold leTD at hw
  split at hw
  · rename_i a b c d
    cases rx with
    | py rx =>
      cases ry with
      | py ry =>
        cases rx with
        | tup hx hz al =>
          cases ry with
          | tup hy hz2 bl =>
            refine ⟨_, _, [a, b], [c, d], rfl, rfl, ints_V al rfl ▸ hx.sq, ints_V bl rfl ▸ hy.sq, ?_⟩
            have e : Ob.lexAt (fun j => decide ([a, b].getD j 0 = [c, d].getD j 0)) (fun j => decide ([a, b].getD j 0 ≤ [c, d].getD j 0)) (decide ([a, b].length ≤ [c, d].length)) 0 (min [a, b].length [c, d].length) = if a = c then decide (b ≤ d) else decide (a ≤ c) := by
              show (if decide (a = c) = true then (if decide (b = d) = true then true else decide (b ≤ d)) else decide (a ≤ c)) = _
              by_cases h1 : a = c
              · rw [if_pos (decide_eq_true h1), if_pos h1]
                by_cases h2 : b = d
                · rw [if_pos (decide_eq_true h2)]
                  exact (decide_eq_true (by omega)).symm
                · rw [if_neg (by simpa using h2)]
              · rw [if_neg (by simpa using h1), if_neg h1]
            rw [e]
            exact hw _ _ _ (.refl hS) (.py (.bl _))
  · exact hw.elim
/-! ### a part of a tuple, of a list -/
def sliceAV (x : D) (lo hi : Option Int) (S : Sto) : R D := match x with
  | .py (.tuple ds) => .ok (.py (.tuple (cutP ds lo hi))) S
  | .py (.list ds) => .ok (.py (.list (cutP ds lo hi))) S
  | _ => .no
def sliceA (a : Ex) (lo hi : Px) : Ex := fun σ S => (a σ S).bind fun x S1 => (lo σ S1).bind fun l S2 => (hi σ S2).bind fun h S3 => sliceAV x l h S3
end
end DV

set_option maxHeartbeats 2000000
namespace DV
open PySem PySem.Spec PyProof.Rows L2
/-! some list, or another where it is empty -/
section
variable {X : Cx} {E : XK} {a b : Expr} {f g : Ex} {rest : List Expr} {pos : Pos}
end
end DV

set_option maxHeartbeats 4000000
namespace DV
open PySem PySem.Spec PyProof.Rows L2
open Sem (wp)
/-! (a, b, ..) = a list by value -/
section
variable {prog : Program} {w : World} {A : Around} {E : Value → Shared → Prop} {s : Shared}
end
section
variable {X : Cx} {E : XK} {pos : Pos}
end
end DV

set_option maxHeartbeats 4000000
namespace DV
open PySem PySem.Spec PyProof.Rows L2
/-! len(set(texts)) with repetitions; len(set(tuples of ints)). -/
def stepS (acc : List Str) (v : Str) : List Str := if acc.any (· == v) then acc else acc ++ [v]
def dedS (xs : List Str) : List Str := xs.foldl stepS []
def metS (xs : List Str) (i : Nat) : List Str := dedS (xs.take i)
theorem metS_succ {xs : List Str} {i : Nat} (h : i < xs.length) : metS xs (i + 1) = stepS (metS xs i) (xs.getD i Str.empty) := by
  unfold metS dedS
  rw [List.take_succ_eq_append_getElem h, List.foldl_append]
  simp [List.getD_eq_getElem?_getD, h]
theorem metS_all (xs : List Str) : metS xs xs.length = dedS xs := by unfold metS; rw [List.take_length]
theorem stepS_any (σ : List Str) (v k : Str) : (stepS σ v).any (· == k) = (σ.any (· == k) || decide (k = v)) := by
  unfold stepS
  by_cases h : σ.any (· == v) = true
  · rw [if_pos h]
    by_cases e : k = v
    · subst e; rw [h]; simp
    · simp [e]
  · rw [if_neg h, List.any_append]
    by_cases e : k = v
    · subst e; simp
    · have hb : (v == k) = false := by simpa [beq_iff_eq] using (fun h' : v = k => e h'.symm)
      simp [hb, e]
theorem stepS_length (σ : List Str) (v : Str) : (stepS σ v).length = if σ.any (· == v) then σ.length else σ.length + 1 := by
  unfold stepS; split <;> simp
theorem foldS_le : ∀ (xs acc : List Str), (xs.foldl stepS acc).length ≤ acc.length + xs.length
  | [], acc => by simp
  | x :: xs, acc => by
    have h := foldS_le xs (stepS acc x)
    have h2 := stepS_length acc x
    rw [List.foldl_cons]
    split at h2 <;> simp <;> omega
theorem dedS_le (xs : List Str) : (dedS xs).length ≤ xs.length := by simpa [dedS] using foldS_le xs []
theorem metS_le (xs : List Str) (i : Nat) : (metS xs i).length ≤ i := Nat.le_trans (dedS_le _) (by rw [List.length_take]; exact Nat.min_le_left _ _)
section
variable {prog : Program} {w : World} {A : Around} {R : Result → Shared → Prop} {I : Addr} {fp wr : List Addr} {G : Array GenState → Array GenState → Prop} {n : Nat} {P : Nat → Value → Prop} {St : Nat → Shared → Prop}
theorem set_loop_texts (W : WalksS prog w A.in1 I fp wr G n P St) (S : Addr) (hSf : S ∉ fp) (xs : List Str) (hsz : xs.length = n) (hb : n + 1 < scanBound)
    (hval : ∀ i v, P i v → ∃ t, v = .str (xs.getD i Str.empty) t) :
    ∀ (k i : Nat) (s : Shared), n - i = k → i ≤ n → St i s →
      s.heap.SetOf (PySem.strKind prog w) S (fun k' => (metS xs i).any (· == k')) (metS xs i).length →
      (∀ s', Moved (S :: wr) G s s' → s'.heap.SetOf (PySem.strKind prog w) S (fun k' => (metS xs n).any (· == k')) (metS xs n).length → R (.ok (.ret .none)) s') →
      codeAny (model prog w) A (.builtin "set.update.loop" ⟨[.ref S, .ref I], []⟩) R s := by
  have hSw : S ∉ wr := fun h => hSf (W.sub _ h)
  have hsub : ∀ b ∈ wr, b ∈ S :: wr := fun b hb => List.mem_cons_of_mem _ hb
  intro k
  induction k with
  | zero =>
    intro i s hk hi hst hS hR
    obtain rfl : i = n := by omega
    refine codeAny_builtin PyProof.Rows.F.entry_set_update_loop ?_
    rw [Around.under_plainId PyProof.Rows.F.plain_set_update_loop _]
    show wpAny _ A.in1 (pyNext (.ref I) >>= _) _ _ s
    refine wpAny_bind (W.done s _ _ hst fun s' hm => ?_)
    show wpAny _ A.in1 (ret Value.none) _ _ s'
    obtain ⟨o, es, ep, t, ho, rest⟩ := hS
    exact wpAny_pure (hR s' (hm.mono hsub) ⟨o, es, ep, t, hm.heap S _ hSw ho, rest⟩)
  | succ k ih =>
    intro i s hk hi hst hS hR
    have hlt : i < n := by omega
    refine codeAny_builtin PyProof.Rows.F.entry_set_update_loop ?_
    rw [Around.under_plainId PyProof.Rows.F.plain_set_update_loop _]
    show wpAny _ A.in1 (pyNext (.ref I) >>= _) _ _ s
    refine wpAny_bind (W.item i s _ _ hlt hst fun v s' hP hst' hm => ?_)
    obtain ⟨t, rfl⟩ := hval i v hP
    obtain ⟨o, es, ep, tb, ho, rest⟩ := hS
    have hS' : s'.heap.SetOf (PySem.strKind prog w) S (fun k' => (metS xs i).any (· == k')) (metS xs i).length := ⟨o, es, ep, tb, hm.heap S _ hSw ho, rest⟩
    have hroom : (metS xs i).length + 1 < scanBound := by have := metS_le xs i; omega
    show wpAny _ A.in1 (holding [Value.str (xs.getD i Str.empty) t] (setAdd S (.str (xs.getD i Str.empty) t)) >>= _) _ _ s'
    refine wpAny_bind (wpAny_holding ?_)
    unfold setAdd
    refine wpAny_holding ?_
    refine wpAny_bind ((PySem.strKind prog w).pyHash (k := xs.getD i Str.empty) (strKind_is _ _ _ _) ?_)
    refine wpAny_setAddHashed_of (knd := PySem.strKind prog w) (s := { s' with toks := s'.toks + 1 }) (strKind_is _ _ _ _) rfl hS' hroom fun h' hsb hS2 => ?_
    have hl : i < xs.length := by omega
    have hSi : h'.SetOf (PySem.strKind prog w) S (fun k' => (metS xs (i + 1)).any (· == k')) (metS xs (i + 1)).length :=
      SetOf_congr hS2 (fun k' => by rw [metS_succ hl, stepS_any]) (by rw [metS_succ hl, stepS_length])
    refine wpAny_pure ⟨plainId_quiet PyProof.Rows.F.plain_set_update_loop _, ih (i + 1) _ (by omega) hlt (W.frame _ s' _ _ hst' (Nat.le_succ _) fun b hb o e => ?_) hSi fun s'' hm'' hS'' => ?_⟩
    · rw [hsb.2 b (fun h : b = S => hSf (by rw [← h]; exact hb))]; exact e
    · refine hR s'' (Moved.trans W.gtrans ((hm.mono hsub).then_heap (Nat.le_succ _) fun b o hb e => ?_) hm'') hS''
      rw [hsb.2 b (fun h : b = S => hb (by rw [h]; exact List.mem_cons_self))]; exact e
end
section
variable {prog : Program} {w : World} {A : Around} {E : Value → Shared → Prop} {s : Shared}
open PySem.F in
theorem call_set_texts {l : Addr} {items : Array Value} {xs : List Str} {Q : Value → Shared → Prop}
    (hh : A.handled = none) (hl : s.heap.IsList l items) (hi : PyProof.Rows.StrsAre items.toList xs) (hb : items.size + 1 < scanBound)
    (h : ∀ (h' : Heap) (tk : Nat), h'.SetOf (PySem.strKind prog w) s.heap.objs.size (fun k' => (metS xs items.size).any (· == k')) (metS xs items.size).length →
      (∀ b o, b < s.heap.objs.size → s.heap.get? b = some o → h'.get? b = some o) → Q (.ref s.heap.objs.size) { s with heap := h', toks := tk }) :
    wpAny (model prog w) A (call (.type "set") [.ref l]) Q E s := by
  obtain ⟨c, tl, hmro⟩ := PySem.F.called_set.mro
  have hmade := PySem.F.called_set.made
  have hsub := PySem.F.called_set.sub
  refine wpAny_call (codeAny_of_tree ?_)
  show wpAny _ _ (callAny (.type "set") _) _ _ _
  refine wpAny_pure ⟨Code.quiet_builtin _ (by decide +kernel), codeAny_builtin PySem.F.entry_type_call ?_⟩
  rw [Around.under_plain (weight_type_call_type "set" [.ref l] []) rfl]
  have h1 := PySem.F.called_set.notType
  have h2 := PySem.F.called_set.canCreate
  have hct := PySem.F.typeCall_set_1 (.ref l)
  repeat (any_goals (first | assumption | wp_step))
  refine codeAny_mono (code_set_new_1 (.ref l) (E := E) (Q₁ := fun obj s₁ => ∃ led : Bool, obj = .ref s.heap.objs.size ∧ s₁ = { s with heap := s.heap.push { cls := .type "set", dict := none, data := .set #[] 0 (.fresh 0 0 led) } }) fun led => ⟨led, rfl, rfl⟩) fun r s₁ hr => ?_
  match r, hr with
  | .error e, hr => exact hr
  | .ok .next, hr => exact hr.elim
  | .ok .brk, hr => exact hr.elim
  | .ok .cont, hr => exact hr.elim
  | .ok (.ret obj), hr =>
    obtain ⟨led, rfl, rfl⟩ := hr
    have hS : (s.heap.push { cls := .type "set", dict := none, data := .set #[] 0 (.fresh 0 0 led) }).get? s.heap.objs.size = some { cls := .type "set", dict := none, data := .set #[] 0 (.fresh 0 0 led) } := Heap.get?_push_size _ rfl
    have hT : Shared.TypeIs { s with heap := s.heap.push { cls := .type "set", dict := none, data := .set #[] 0 (.fresh 0 0 led) } } (.ref s.heap.objs.size) "set" := ⟨_, hS, rfl⟩
    have hli := PySem.F.called_set.init.lookup
    have hbi := PySem.F.called_set.init.bind (.ref s.heap.objs.size)
    repeat (any_goals (first | assumption | wp_step))
    refine codeAny_mono (codeAny_call_builtin (R := wants (fun r s₂ => r = .none ∧ ∃ h' tk, s₂ = { s with heap := h', toks := tk } ∧
        h'.SetOf (PySem.strKind prog w) s.heap.objs.size (fun k' => (metS xs items.size).any (· == k')) (metS xs items.size).length ∧
        (∀ b o, b < s.heap.objs.size → s.heap.get? b = some o → h'.get? b = some o)) E) PySem.F.called_set.init.plain PySem.F.entry_set_init (check_set_init_1 hT ?_)) fun r₂ s₂ hr₂ => ?_
    · obtain ⟨ol, hol, hcl, nl, hdl⟩ := hl
      obtain ⟨ocls, odict, odata, oslots⟩ := ol
      simp only at hcl hdl
      subst hcl; subst hdl
      have hol' : (s.heap.push { cls := .type "set", dict := none, data := .set #[] 0 (.fresh 0 0 led) }).get? l = some { cls := .type "list", dict := odict, data := .seq items nl, slots := oslots } := Heap.get?_push_of_some _ hol
      have hsls := PySem.F.sub_list_set
      have hslf := PySem.F.sub_list_frozenset
      have hne : (Value.type "list" == Value.type "dict") = false := by decide
      have hl1 : (s.heap.push { cls := .type "set", dict := none, data := .set #[] 0 (.fresh 0 0 led) }).IsList l items := ⟨_, hol', rfl, nl, rfl⟩
      unfold Builtin.«set.__init__» noKeywords Builtin.Frozenset.updateFrom
      generalize hPI : pyIter = PI
      wp_walk
      subst hPI
      refine wpAny_pyIter_list hl1 ?_
      refine wpAny_bind (wpAny_runValue ?_)
      have hlS : l < s.heap.objs.size := Heap.lt_size hol
      have hh3 : A.in1.in1.in1.handled = none := by simp [hh]
      have hneI : l ≠ (s.heap.push { cls := .type "set", dict := none, data := .set #[] 0 (.fresh 0 0 led) }).objs.size := by
        rw [Heap.size_push]; exact Nat.ne_of_lt (Nat.lt_succ_of_lt hlS)
      have hSf : s.heap.objs.size ∉ [(s.heap.push { cls := .type "set", dict := none, data := .set #[] 0 (.fresh 0 0 led) }).objs.size, l] := by
        rw [Heap.size_push]; simp only [List.mem_cons, List.mem_singleton, List.not_mem_nil, or_false, not_or]
        exact ⟨Nat.ne_of_lt (Nat.lt_succ_self _), Nat.ne_of_gt hlS⟩
      have hsz : xs.length = items.size := by rw [← StrsAre.len_eq hi, Array.length_toList]
      have hval : ∀ (i : Nat) (v : Value), items[i]? = some v → ∃ t, v = .str (xs.getD i Str.empty) t := fun i v hv => SS.strs_at hi i v (by rw [Array.getElem?_toList]; exact hv)
      refine set_loop_texts ((Walks.list hh3 _ l hneI items).toS) s.heap.objs.size
        hSf xs hsz hb hval (items.size - 0) 0 _ (by omega) (Nat.zero_le _)
        ⟨⟨_, Heap.get?_push_size _ rfl, rfl, rfl⟩, (hl1.push _)⟩ ?hS0 ?hR
      case hS0 =>
        have hget : ((s.heap.push { cls := .type "set", dict := none, data := .set #[] 0 (.fresh 0 0 led) }).push { cls := .type "list_iterator", data := .fields #[.ref l, .int 0 0] }).get? s.heap.objs.size
            = some { cls := .type "set", dict := none, data := .set #[] 0 (.fresh 0 0 led) } := Heap.get?_push_of_some _ hS
        exact PyProof.Rows.SetOf_congr ((PyProof.Rows.setObjOf_fresh (knd := PySem.strKind prog w) led).setOf hget (by unfold scanBound; omega)) (fun _ => by simp [metS, dedS]) (by simp [metS, dedS])
      case hR =>
        intro s' hm hS'
        obtain ⟨h', g', d', tk', os'⟩ := s'
        have eg : g' = s.gens := hm.gens
        have ed : d' = s.drawn := hm.drawn
        have eo : os' = s.os := hm.os
        subst eg; subst ed; subst eo
        show wpAny _ _ _ _ _ _
        refine wpAny_pure ?_
        show wpAny _ _ (ret Value.none) _ _ _
        refine wpAny_pure ⟨rfl, h', tk', rfl, hS', fun b o hb e => ?_⟩
        have hb1 : b ≠ s.heap.objs.size := Nat.ne_of_lt hb
        have hb2 : b ≠ (s.heap.push { cls := .type "set", dict := none, data := .set #[] 0 (.fresh 0 0 led) }).objs.size := by
          rw [Heap.size_push]; exact Nat.ne_of_lt (Nat.lt_succ_of_lt hb)
        exact hm.heap b o (by simp only [List.mem_cons, List.mem_singleton, List.not_mem_nil, or_false, not_or]; exact ⟨hb1, hb2⟩) (Heap.get?_push_of_some _ (Heap.get?_push_of_some _ e))
    · match r₂, hr₂ with
      | .error e, hr₂ => exact hr₂
      | .ok .next, hr₂ => exact hr₂.elim
      | .ok .brk, hr₂ => exact hr₂.elim
      | .ok .cont, hr₂ => exact hr₂.elim
      | .ok (.ret r), hr₂ =>
        obtain ⟨rfl, h', tk, rfl, hS', hk'⟩ := hr₂
        repeat (any_goals (first | assumption | wp_step))
        exact h _ _ hS' hk'
end
def textsOf : List PyData → Option (List Str)
  | [] => some []
  | .str b :: ds => (textsOf ds).map (b :: ·)
  | _ :: _ => none
def tupsOf : List PyData → Option (List (List Int))
  | [] => some []
  | .tuple b :: ds => (intsOf b).bind fun x => (tupsOf ds).map (x :: ·)
  | _ :: _ => none
theorem dtexts_V {K : PySem.W.Frag} {H : Hp} : ∀ {xs : List V} {ds : List PyData} {bs : List Str}, DpAll K H xs ds → textsOf ds = some bs → xs = bs.map V.str
  | _, _, bs, .nil, h => by
    cases h
    rfl
  | _, d :: ds, bs, .cons r rs, h => by
    cases r with
    | str x =>
      have h : Option.map (x :: ·) (textsOf ds) = some bs := h
      cases hb : textsOf ds with
      | none =>
        rw [hb] at h
        cases h
      | some cs =>
        rw [hb] at h
        cases h
        rw [dtexts_V rs hb]
        rfl
    | _ => exact absurd h (by simp [textsOf])
theorem texts_noDict : ∀ {ds : List PyData} {bs : List Str}, textsOf ds = some bs → PyData.hasDictAll ds = false
  | [], _, _ => rfl
  | d :: ds, bs, h => by
    cases d with
    | str x =>
      have h : Option.map (x :: ·) (textsOf ds) = some bs := h
      cases hb : textsOf ds with
      | none =>
        rw [hb] at h
        cases h
      | some cs => exact (texts_noDict hb : PyData.hasDictAll ds = false)
    | _ => exact absurd h (by simp [textsOf])
theorem tups_noDict : ∀ {ds : List PyData} {bs : List (List Int)}, tupsOf ds = some bs → PyData.hasDictAll ds = false
  | [], _, _ => rfl
  | d :: ds, bs, h => by
    cases d with
    | tuple b =>
      have h : ((intsOf b).bind fun x => (tupsOf ds).map (x :: ·)) = some bs := h
      cases hi : intsOf b with
      | none =>
        rw [hi] at h
        cases h
      | some x =>
        rw [hi] at h
        have h : Option.map (x :: ·) (tupsOf ds) = some bs := h
        cases hb : tupsOf ds with
        | none =>
          rw [hb] at h
          cases h
        | some cs =>
          have e1 : PyData.hasDict (.tuple b) = PyData.hasDictAll b := by simp [PyData.hasDict]
          have e2 : PyData.hasDictAll (.tuple b :: ds) = (PyData.hasDict (.tuple b) || PyData.hasDictAll ds) := by simp [PyData.hasDictAll]
          rw [e2, e1, ints_noDict hi, tups_noDict hb]
          rfl
    | _ => exact absurd h (by simp [tupsOf])
theorem dtups_V {K : PySem.W.Frag} {H : Hp} : ∀ {xs : List V} {ds : List PyData} {bs : List (List Int)}, DpAll K H xs ds → tupsOf ds = some bs →
    ∃ ks : List (Addr × List Int), xs = ks.map (fun p => V.ref p.1) ∧ (∀ p ∈ ks, SqT K H p.1 (p.2.map V.int)) ∧ ks.map Prod.snd = bs
  | _, _, bs, .nil, h => by
    cases h
    exact ⟨[], rfl, fun p hp => (by cases hp), rfl⟩
  | _, d :: ds, bs, .cons r rs, h => by
    cases r with
    | @tup a xs b hx al =>
      have h : ((intsOf b).bind fun x => (tupsOf ds).map (x :: ·)) = some bs := h
      cases hi : intsOf b with
      | none =>
        rw [hi] at h
        cases h
      | some x =>
        rw [hi] at h
        have h : Option.map (x :: ·) (tupsOf ds) = some bs := h
        cases hb : tupsOf ds with
        | none =>
          rw [hb] at h
          cases h
        | some cs =>
          rw [hb] at h
          cases h
          obtain ⟨ks, e1, e2, e3⟩ := dtups_V rs hb
          have ex := dints_V al hi
          subst ex
          refine ⟨(a, x) :: ks, by rw [e1]; rfl, fun p hp => ?_, by rw [← e3]; rfl⟩
          rcases List.mem_cons.mp hp with rfl | hp
          · exact hx
          · exact e2 p hp
    | _ => exact absurd h (by simp [tupsOf])
/-- each thing once, as first met -/
def stepT (acc : List (List Int)) (v : List Int) : List (List Int) := if v ∈ acc then acc else acc ++ [v]
def dedT (xs : List (List Int)) : List (List Int) := xs.foldl stepT []
theorem foldT_mem : ∀ (xs acc : List (List Int)) (v : List Int), v ∈ xs.foldl stepT acc ↔ v ∈ acc ∨ v ∈ xs
  | [], acc, v => by simp
  | x :: xs, acc, v => by
    rw [List.foldl_cons, foldT_mem xs]
    unfold stepT
    split
    · rename_i h
      constructor
      · rintro (q | q)
        · exact .inl q
        · exact .inr (List.mem_cons_of_mem _ q)
      · rintro (q | q)
        · exact .inl q
        · rcases List.mem_cons.mp q with rfl | q
          · exact .inl h
          · exact .inr q
    · simp [or_assoc]
theorem mem_dedT (xs : List (List Int)) (v : List Int) : v ∈ dedT xs ↔ v ∈ xs := by simp [dedT, foldT_mem]
theorem foldT_nodup : ∀ (xs acc : List (List Int)), acc.Nodup → (xs.foldl stepT acc).Nodup
  | [], acc, h => h
  | x :: xs, acc, h => by
    rw [List.foldl_cons]
    refine foldT_nodup xs _ ?_
    unfold stepT
    split
    · exact h
    · rename_i q
      exact List.nodup_append.mpr ⟨h, by simp, fun a ha b hb e => by
        rw [List.mem_singleton.mp hb] at e
        exact q (e ▸ ha)⟩
theorem nodup_dedT (xs : List (List Int)) : (dedT xs).Nodup := foldT_nodup xs [] List.nodup_nil
theorem len_dedT {xs ys : List (List Int)} (hn : ys.Nodup) (h1 : ∀ v ∈ ys, v ∈ xs) (h2 : ∀ v ∈ xs, v ∈ ys) : ys.length = (dedT xs).length :=
  Nat.le_antisymm (hn.length_le_of_subset fun v hv => (mem_dedT _ _).mpr (h1 v hv)) ((nodup_dedT xs).length_le_of_subset fun v hv => h2 v ((mem_dedT _ _).mp hv))
section
variable {X : Cx} {E : XK} {a : Expr} {f : Ex} {p p2 q pos : Pos}
def tLenSetS (K : PySem.W.Frag) (ta : TE) : TE := fun σ H Q => ta σ H fun x H1 => ∃ l : Addr, x = V.ref l ∧
  ((∃ ns : List Str, SqL K H1 l (ns.map V.str) ∧ ns.length ≤ 4000 ∧ Q (.int (dedS ns).length) H1) ∨
   ∃ ks : List (Addr × List Int), SqL K H1 l (ks.map fun p => V.ref p.1) ∧ (∀ p ∈ ks, SqT K H1 p.1 (p.2.map V.int)) ∧ ks.length < 64 ∧ Q (.int (dedT (ks.map Prod.snd)).length) H1)
theorem pe_lenSetS {k : Nat} {ta : TE} (hr : Room k X.A) (hc : X.calm = true) (hm : X.mg "len" = none) (hm2 : X.mg "set" = none) (ha : PE X a ta) (hg : Gl X "len" := by rfl) (hg2 : Gl X "set" := by rfl)
    (na : starEach [a] X.env = (false, eval a X.env) :: starEach [] X.env := by rfl) : PE X (.Call (.Name "len" p) [.Call (.Name "set" p2) [a] [] q] [] pos) (tLenSetS X.K ta) := by
  refine ⟨fun pins s σ H Q I h => ?_⟩
  refine Call_ (ld_blt I hg hm PySem.boot_len ?_)
  refine PyProof.Rows.callWith_builtin1 (PyProof.Rows.args_cons ?_ rfl) rfl rfl
  refine Call_ (ld_blt I hg2 hm2 PyProof.Rows.boot_set ?_)
  refine PyProof.Rows.callWith_type1 (PyProof.Rows.args_cons (thn (ha.run pins s σ H _ I h) fun v s1 ⟨x, H1, I1, r1, q1⟩ => PyProof.Rows.args_nil ?_) na) na rfl
  obtain ⟨l, rfl, q1⟩ := q1
  cases r1
  have sl : (sizeLine : Nat) = 16777216 := sizeLine_eq
  rcases q1 with ⟨ns, hq, h1, q1⟩ | ⟨ks, hq, hk, h1, q1⟩
  · obtain ⟨its, r, pl, hz⟩ := I1.list hq
    have hl : its.toArray.size = ns.length := by rw [List.size_toArray, ← r.length, List.length_map]
    refine call_set_texts (I1.ok.hd hc) pl.isList (xs := ns) (by simpa using strsAre_of r) (by unfold scanBound; omega) fun h' tk hS hk => ?_
    rw [hl, metS_all] at hS
    have hle := dedS_le ns
    refine PyProof.Rows.args_nil ?_
    obtain ⟨o, es, ep, t, ho, hex, hd, _, _, _, hf, hn⟩ := hS
    have I2 : Inv X pins σ H1 { s1 with heap := h', toks := tk } := I1.kept fun b o e => hk b o (Heap.lt_size e) e
    refine call_len_set ho hex hd hf (by rw [hn] <;> omega) ⟨.int (dedS ns).length, H1, I2.tok _, ⟨_, by rw [hn]⟩, q1⟩
  · obtain ⟨its, r, pl, hz⟩ := I1.list hq
    refine call_set_tups (P := X.prog) (w := X.w) ks (I1.ok.hd hc) pl.isList (by simpa using refs_of_vals r) (fun p hp => I1.isT (hk p hp)) h1 (by have := hr.units; omega) fun h' tk L es ep t R g kp => ?_
    refine PyProof.Rows.args_nil ?_
    have I2 : Inv X pins σ H1 { s1 with heap := h', toks := tk } := I1.kept kp
    have e : L.length = (dedT (ks.map Prod.snd)).length := by
      rw [← len_dedT (ys := L.map (·.2)) R.nd (fun v hv => ?_) (fun v hv => ?_), List.length_map]
      · obtain ⟨p, hp, rfl⟩ := List.mem_map.mp hv
        exact List.mem_map.mpr ⟨p, List.mem_of_mem_take (g.sub p hp), rfl⟩
      · obtain ⟨p, hp, rfl⟩ := List.mem_map.mp hv
        exact g.all p (by rw [List.take_length]; exact hp)
    have hsz : es.size = (dedT (ks.map Prod.snd)).length := (R.size (s := { s1 with heap := h', toks := tk })).trans e
    obtain ⟨o, ho, hex, hd⟩ := R.ob
    refine call_len_set ho hex hd (R.fits (s := { s1 with heap := h', toks := tk })) ?_ ⟨.int (dedT (ks.map Prod.snd)).length, H1, I2.tok _, ⟨_, by rw [hsz]⟩, q1⟩
    have := R.few
    rw [R.size (s := { s1 with heap := h', toks := tk })]
    omega
def lenSetX (d : D) (S : Sto) : R D := match deep S 8 d with
  | some (.list ds) => (match textsOf ds with
    | some ns => if ns.length ≤ 4000 then .ok (.py (.int ((dedS ns).length : Nat))) S else .no
    | none => (match tupsOf ds with
      | some ns => if ns.length < 64 then .ok (.py (.int ((dedT ns).length : Nat))) S else .no
      | none => .no))
  | _ => .no
theorem de_lensetX {kk : Nat} (o : Okx kk X E) (hm : X.mg "len" = none) (hm2 : X.mg "set" = none) (ha : DE X E a f) (hg : Gl X "len" := by rfl) (hg2 : Gl X "set" := by rfl)
    (na : starEach [a] X.env = (false, eval a X.env) :: starEach [] X.env := by rfl) : DE X E (.Call (.Name "len" p) [.Call (.Name "set" p2) [a] [] q] [] pos) (op1 lenSetX f) := by
  obtain ⟨t, pt, qt⟩ := ha
  refine ⟨_, pe_lenSetS o.room o.calm hm hm2 pt hg hg2 na, fun σ H σd S ι Q hE hS h => ?_⟩
  refine qt σ H σd S ι _ hE hS (Wp.bind h fun d S1 _ v H1 ι1 p1 r1 h1 => ?_)
  unfold lenSetX at h1
  split at h1
  · rename_i ds hd
    split at h1
    · rename_i ns hns
      split at h1
      · rename_i hz
        have dx := deep_dp p1.sto _ r1 hd (by rw [PyData.hasDict.eq_5]; exact texts_noDict hns)
        cases dx with
        | lst hL al => exact ⟨_, rfl, .inl ⟨ns, dtexts_V al hns ▸ hL, hz, h1 _ _ _ (.refl p1.sto) (.py (.int _))⟩⟩
      · exact h1.elim
    · split at h1
      · rename_i ns hns
        split at h1
        · rename_i hz
          have dx := deep_dp p1.sto _ r1 hd (by rw [PyData.hasDict.eq_5]; exact tups_noDict hns)
          cases dx with
          | lst hL al =>
            obtain ⟨ks, e1, e2, e3⟩ := dtups_V al hns
            subst e1
            subst e3
            exact ⟨_, rfl, .inr ⟨ks, hL, e2, by rwa [List.length_map] at hz, h1 _ _ _ (.refl p1.sto) (.py (.int _))⟩⟩
        · exact h1.elim
      · exact h1.elim
  · exact h1.elim
end
end DV

set_option maxHeartbeats 4000000
namespace DV
open PySem PySem.Spec PyProof.Rows L2
/-! [f, g, ..][i](..): a def out of a written list, called. -/
inductive Pk (X : Cx) (k n : Nat) : List Expr → List Addr → List (List D → Sto → R D) → Prop
  | nil : Pk X k n [] [] []
  | cons {x : Str} {p : Pos} {f : Addr} {fd : FuncData} {ps : List Str} {F : List D → Sto → R D} {j : Nat} {es : List Expr} {as : List Addr} {Fs : List (List D → Sto → R D)} :
      FnD X.prog X.w X.K X.mg X.base j f fd ps F → At X.K X.mg x f fd ps → j ≤ k → ps.length = n → Gl X x → (x == ("__debug__" : Str)) = false → Pk X k n es as Fs → Pk X k n (.Name x p :: es) (f :: as) (F :: Fs)
section
variable {X : Cx} {E : XK} {k n : Nat}
theorem Pk.pa {es : List Expr} {as : List Addr} {Fs : List (List D → Sto → R D)} (h : Pk X k n es as Fs) : PA X es (fun σ H Q => Q (as.map V.ref) H) := by
  induction h with
  | nil => exact ⟨fun pos pins s σ H Q I h => pa_nil.run pos pins s σ H Q I h⟩
  | cons hF at_ hj hn hg hd _ ih => exact ⟨fun pos pins s σ H Q I h => (pa_cons (pe_glob (v := .ref _) hg at_.g rfl hd) ih (by rfl)).run pos pins s σ H Q I h⟩
theorem Pk.len {es : List Expr} {as : List Addr} {Fs : List (List D → Sto → R D)} (h : Pk X k n es as Fs) : as.length = es.length := by
  induction h with
  | nil => rfl
  | cons _ _ _ _ _ _ _ ih => simp [ih]
def Callable (X : Cx) (k n : Nat) (f : Addr) (F : List D → Sto → R D) : Prop := ∃ (fd : FuncData) (ps : List Str) (j : Nat), FnD X.prog X.w X.K X.mg X.base j f fd ps F ∧ PySem.W.keepIn X.K (.ref f) = true ∧ Binds X.K fd ps [] ∧ j ≤ k ∧ ps.length = n
theorem Pk.get {es : List Expr} {as : List Addr} {Fs : List (List D → Sto → R D)} (h : Pk X k n es as Fs) : ∀ (i : Nat) (F : List D → Sto → R D), Fs[i]? = some F → ∃ f, as[i]? = some f ∧ Callable X k n f F := by
  induction h with
  | nil => intro i F h; simp at h
  | cons hF at_ hj hn hg hd _ ih =>
    intro i G h
    cases i with
    | zero =>
      cases h
      exact ⟨_, rfl, _, _, _, hF, at_.kp, at_.b, hj, hn⟩
    | succ i => exact ih i G (by simpa using h)
end
end DV

set_option maxHeartbeats 4000000
namespace DV
open PySem PySem.Spec PyProof.Rows L2
/-! sum of a tuple; min and max of lists and tuples by value whose items are alike (numbers, texts, tuples of these). -/
section
variable {prog : Program} {w : World} {A : Around} {E : Value → Shared → Prop} {s : Shared}
end
section
variable {X : Cx}
end
end DV

set_option maxHeartbeats 4000000
namespace DV
open PySem PySem.Spec PyProof.Rows L2
/-! A lambda with one parameter: its body's context, its call. -/
structure LamP (x : Str) (sc scope : Scope) : Prop where
  kind : scope.kind = .function
  co : scope.isCoroutine = false
  gen : scope.isGenerator = false
  par : scope.names.lookup x = some .local
  cel : ∀ y ∈ scope.names, y.2 ≠ .cell
  loc : ∀ y ∈ scope.names, y.2 = .local → y.1 = x
  free : ∀ y ∈ scope.names, y.2 = .free → sc.names.lookup y.1 = some .cell ∨ sc.names.lookup y.1 = some .free
  no : scope.names.lookup Str.empty = none
  ne : x ≠ Str.empty
theorem LamP.has {X : Cx} {x : Str} {scope : Scope} (L : LamP x X.env.scope scope) (ok : X.Ok) : ∀ y ∈ scope.names, y.2 = .free → ∃ c, X.env.cells.lookup y.1 = some c := fun y hy e => by
  rcases L.free y hy e with k | k
  · exact ok.has _ (.inl k)
  · exact ok.has _ (.inr k)
section
variable {X : Cx} {pins : List (Addr × Obj)} {σ : L2.St} {H HZ : Hp} {s s1 : Shared}
end
end DV

set_option maxHeartbeats 4000000
namespace DV
open PySem PySem.Spec PyProof.Rows L2
/-! sorted(xs, key=lambda x: ..) -/
section
variable {P : Program} {w : World} {H H' : Hp} {h h' : Heap}
end
section
variable {X : Cx} {pins : List (Addr × Obj)} {σ : L2.St} {H : Hp} {s : Shared}
end
/-! ### the sort -/
section
variable {prog : Program} {w : World} {A : Around} {E : Value → Shared → Prop} {s : Shared} {a kS : Addr} {e e1 : Nat} {vs : List Value} {keys : Array Value} {R : PySem.Fin → Shared → Prop}
end
end DV

set_option maxHeartbeats 4000000
namespace DV
open PySem PySem.Spec PyProof.Rows L2
/-! The walk of sorted(xs, key=lambda x: ..). -/
section
variable {X : Cx} {pins : List (Addr × Obj)} {σ : L2.St} {H : Hp} {s : Shared}
/-- what stands while the keys are made -/
structure MidK (X : Cx) (s : Shared) (H : Hp) (ι : List Addr) (kS a : Addr) (e1 : Nat) (kA : Array Value) (e : Nat) (Hi : Hp) (ιi : List Addr) (Si : Sto) (vks : List V) (kz : List PyData) (s' : Shared) : Prop where
  os : s'.os = s.os
  bare : AllBare s'.gens
  un : Un (frs X.stack) [] H Hi s.heap s'.heap
  hok : HOk X.prog X.w Hi s'.heap
  post : Post X.K ι H ιi Hi Si
  hk : s'.heap.get? kS = some (seqObj "list" kA e)
  ha : s'.heap.get? a = some (seqObj "list" #[] e1)
  nk : Hi kS = none
  na : Hi a = none
  vals : Vals vks kA.toList
  pp : PpAll X.K Hi vks kz
end
end DV

set_option maxHeartbeats 4000000
namespace DV
open PySem PySem.Spec PyProof.Rows L2
/-! len(set(a tuple of whole numbers)) -/
section
variable {X : Cx} {E : XK} {a b e : Expr} {f g : Ex} {k : Nat} {pos p p1 p2 p3 q : Pos}
end
end DV

set_option maxHeartbeats 4000000
namespace DV
open PySem PySem.Spec PyProof.Rows L2
/-! dicts with tuple keys that are changed: {}, d[a, b] = v, (a, b) in d -/
section
variable {K : PySem.W.Frag} {ι ι' : List Addr} {H H' : Hp} {S S' : Sto}
theorem KeepA.dt {H : Hp} {p : Addr} {kvs : List (List Key × V)} {o : HO} (h : H p = some (.dT kvs)) : KeepA H (upd H p o) := by
  have ne : ∀ (b : Addr) (u : HO), H b = some u → (∀ kvs, u ≠ .dT kvs) → upd H p o b = some u := fun b u e n => by
    rw [upd_ne (fun z => by subst z; rw [h] at e; cases e; exact n kvs rfl)]
    exact e
  exact ⟨⟨fun b xs e => ne b _ e (fun _ z => by cases z), fun b o u e => ne b _ e (fun _ z => by cases z)⟩, fun P q ⟨ps, h1, h2, h3⟩ => ⟨ps, ne _ _ h1 (fun _ z => by cases z), h2, fun pos cv hc => by
    obtain ⟨c, e1, e2⟩ := h3 pos cv hc
    exact ⟨c, e1, ne _ _ e2 (fun _ z => by unfold LamX.CodeO at z; cases z)⟩⟩⟩
end
section
variable {X : Cx} {E : XK} {v x : Ex} {k : Ax} {ve xe : Expr} {ks : List Expr} {x1 : Nat} {pos pos' tpos : Pos}
end
end DV

set_option maxHeartbeats 4000000
/-! t.index(x), dict(t) of tuples made in the run. -/
namespace DV
open PySem PySem.Spec PyProof.Rows L2
section
variable {X : Cx} {E : XK} {pins : List (Addr × Obj)} {σ : L2.St} {H : Hp} {s : Shared}
theorem FT.at_ {a : Addr} {xs : List V} (I : Inv X pins σ H s) (h : FT X.K H a xs) : ∃ o its n, s.heap.get? a = some o ∧ o.cls = .type "tuple" ∧ o.dict = none ∧ o.data = .seq its n ∧ its.size ≤ sizeLine ∧ Vals xs its.toList := by
  rcases h with ⟨o, h, d⟩ | ⟨o, its, n, h1, h2, h3, h4, h5, h6⟩
  · obtain ⟨e, hz, us, r, o2, e2, hc, n, hd⟩ := I.hok a _ h
    cases e.symm.trans e2
    exact ⟨o, us.toArray, n, e, hc, d, hd, by rw [List.size_toArray, ← r.length]; exact hz, by simpa using r⟩
  · exact ⟨o, its, n, I.kIn a o h1, h2, h3, h4, h5, h6⟩
variable {o e : Expr} {es : List Expr} {to : TE} {t : TA} {name : Str} {apos cpos pos p : Pos} {id : String} {r : V → List V → Hp → VK → Prop} {f : Ex} {fs : Ax}
theorem pe_tm (slot : Slot "tuple" name id) (hty : typeOf (.builtin id) = pure (.type "method_descriptor")) (hm : MtR X id r) (ho : PE X o to) (ha : PA X (e :: es) t)
    (hbase : attributeBase o name X.env (eval o X.env) = eval o X.env := by rfl)
    (hfew : ((backTo cpos (starEach (e :: es) X.env)).all (fun x => !x.1) && (backToKw cpos (keywordEach [] X.env)).all (fun x => x.1.isSome)
      && decide ((e :: es).length + ([] : List Keyword).length + (if ([] : List Keyword).isEmpty then 0 else 1) < 30)) = true := by rfl)
    (hline : (apos.endLine == cpos.line) = true := by rfl) (hs : starEach (e :: es) X.env = (false, eval e X.env) :: starEach es X.env := by rfl) (hplain : (backTo cpos (starEach es X.env)).any (·.1) = false := by rfl) :
    PE X (.Call (.Attribute o name apos) (e :: es) [] cpos) (fun σ H Q => to σ H fun x H1 => (∃ a xs, x = .ref a ∧ FT X.K H1 a xs) ∧ t σ H1 fun xs H2 => r x xs H2 Q) := by
  refine ⟨fun pins s σ H Q I h => ?_⟩
  refine wpAny_Call_method_late hbase hfew hline rfl (thn (ho.run pins s σ H _ I h) fun v s1 ⟨x, H1, I1, r1, ⟨a, xs, ex, hF⟩, q1⟩ => ?_)
  subst ex
  cases r1
  obtain ⟨ob, _, _, e1, e2, e3, _⟩ := hF.at_ I1
  refine ⟨"tuple", id, PySem.F.plainAttrs_tuple, slot, hty, ⟨ob, e1, e2⟩, fun b z => by cases z; exact ⟨ob, e1, e3⟩, ?_⟩
  have hA := ha.run cpos pins s1 σ H1 _ I1 q1
  rw [hs] at hA ⊢
  refine Calls.callWith_builtin (by show (false || (backTo cpos (starEach es X.env)).any (·.1)) = false; rw [hplain] <;> rfl) (Calls.evalArgs_plain ?_)
  exact thn hA fun us s2 ⟨vs, H2, I2, r2, q2⟩ => hm pins s2 σ H2 (.ref a) vs (.ref a) us Q I2 rfl r2 q2
def methT (g : D → List D → Sto → R D) (o : Ex) (a : Ax) : Ex := fun σ S => (o σ S).bind fun x S1 => match x with
  | .py (.tuple _) => (a σ S1).bind fun ds S2 => g x ds S2
  | _ => .no
def indexTD : D → List D → Sto → R D
  | .py (.tuple ds), [.py (.str z)], S => (match strsOf ds with
    | some ys => (match ys.findIdx? (fun y => decide (y = z)) with
      | some j => .ok (.py (.int (j : Nat))) S
      | none => .no)
    | none => .no)
  | _, _, _ => .no
/-- t.index(x), texts in a tuple -/
theorem de_indexT (ho : DE X E o f) (ha : DA X E [e] fs)
    (hbase : attributeBase o "index" X.env (eval o X.env) = eval o X.env := by rfl)
    (hfew : ((backTo cpos (starEach [e] X.env)).all (fun x => !x.1) && (backToKw cpos (keywordEach [] X.env)).all (fun x => x.1.isSome)
      && decide ([e].length + ([] : List Keyword).length + (if ([] : List Keyword).isEmpty then 0 else 1) < 30)) = true := by rfl)
    (hline : (apos.endLine == cpos.line) = true := by rfl) (hs : starEach [e] X.env = (false, eval e X.env) :: starEach [] X.env := by rfl) (hplain : (backTo cpos (starEach [] X.env)).any (·.1) = false := by rfl) :
    DE X E (.Call (.Attribute o "index" apos) [e] [] cpos) (methT indexTD f fs) := by
  obtain ⟨t, p, q⟩ := ho
  obtain ⟨l, u, pu, qu⟩ := ha
  refine ⟨_, pe_tm PySem.F.slot_tuple_index PySem.F.type_tuple_index mt_tup_index p pu hbase hfew hline hs hplain, fun σ H σd S ι Q hE hS h => ?_⟩
  refine q σ H σd S ι _ hE hS (Wp.bind h fun d S1 _ v H1 ι1 p1 r1 h1 => ?_)
  split at h1
  · cases r1 with
    | py r1 =>
      cases r1 with
      | tup hF hz al =>
        refine ⟨⟨_, _, rfl, hF⟩, ?_⟩
        refine qu σ H1 σd S1 ι1 _ (hE.mono p1.pre p1.keep) p1.sto (Wp.bind h1 fun d2 S2 _ v2 H2 ι2 p2 r2 h2 => ?_)
        unfold indexTD at h2
        split at h2
        · rename_i _ _ ds0 z heq _
          cases heq
          split at h2
          · rename_i ys hys
            split at h2
            · rename_i j hj
              cases r2 with
              | cons r2 rs =>
                cases rs
                obtain ⟨hl, hj2, hno⟩ := List.findIdx?_eq_some_iff_getElem.mp hj
                refine ⟨_, ys, z, j, rfl, by rw [str_of r2], ?_, ?_, fun m hm e => ?_, h2 _ _ _ (.refl p2.sto) (.py (.int _))⟩
                · rw [← strs_V al hys]
                  exact (hF.keep p2.keep).sq
                · rw [List.getElem?_eq_getElem hl]
                  exact congrArg some (of_decide_eq_true hj2)
                · have := hno m hm
                  obtain ⟨h4, h5⟩ := List.getElem?_eq_some_iff.mp e
                  rw [h5] at this
                  simp at this
            · exact h2.elim
          · exact h2.elim
        · exact h2.elim
  · exact h1.elim
/-! ### dict(t) -/
theorem call_dictT (hc : X.calm = true) : CallR X (.type "dict") (fun xs H Q => ∃ (a : Addr) (ps : List Addr) (kvs : List (Key × V)), xs = [.ref a] ∧ FT X.K H a (ps.map V.ref) ∧ Paired (fun p kv => SqT X.K H p [kV kv.1, kv.2]) ps kvs ∧
    ∀ p, H p = none → Q (.ref p) (upd H p (.dK (mergeK [] kvs)))) := by
  intro pins s σ H xs us Q I r q
  obtain ⟨a, ps, kvs, rfl, hF, hp, q⟩ := q
  obtain ⟨u, rfl, rx⟩ := vals1 r
  cases rx
  obtain ⟨ob, its, n, e1, e2, e3, e4, hz, rv⟩ := hF.at_ I
  obtain ⟨prs, rel, hl, hpr⟩ := pairs_of I hp
  have ei := refs_at rv
  have lits : its.size = ps.length := by
    have := rv.length
    rw [List.length_map] at this
    simpa using this.symm
  have key : ∀ j (q' : Key × Value), prs[j]? = some q' → ∃ (b : Addr) (u : Value), its[j]? = some (Value.ref b) ∧ IsTup s.heap b #[u, q'.2] ∧ keyIs q'.1 u = true := fun j q' e => by
    obtain ⟨b, u, h1, h2, h3⟩ := hpr j q' e
    refine ⟨b, u, ?_, h2, h3⟩
    show its[j]? = some (Value.ref b)
    have : its.toList[j]? = some (Value.ref b) := by rw [ei, List.getElem?_map, h1]; rfl
    simpa using this
  have tab : ∃ (Ts : Nat → Addr) (pv : List (Value × Value)), pv.length = prs.length ∧ ∀ j k v, pv[j]? = some (k, v) → its[j]? = some (Value.ref (Ts j)) ∧ IsTup s.heap (Ts j) #[k, v] ∧ ∃ κ, prs[j]? = some (κ, v) ∧ keyIs κ k = true := by
    have pick : ∀ j : Nat, ∃ (b : Addr) (k : Value), ∀ q', prs[j]? = some q' → its[j]? = some (Value.ref b) ∧ IsTup s.heap b #[k, q'.2] ∧ keyIs q'.1 k = true := fun j => by
      cases e : prs[j]? with
      | none => exact ⟨0, .none, fun q' z => by cases z⟩
      | some q' =>
        obtain ⟨b, u, h1, h2, h3⟩ := key j q' e
        exact ⟨b, u, fun q2 z => by cases z; exact ⟨h1, h2, h3⟩⟩
    refine ⟨fun j => (pick j).choose, prs.zipIdx.map fun x => ((pick x.2).choose_spec.choose, x.1.2), by simp, fun j k v e => ?_⟩
    rw [List.getElem?_map, Option.map_eq_some_iff] at e
    obtain ⟨⟨⟨κ, v'⟩, i⟩, h1, h2⟩ := e
    rw [List.getElem?_zipIdx, Option.map_eq_some_iff] at h1
    obtain ⟨x, h3, h4⟩ := h1
    cases h4
    cases h2
    obtain ⟨g1, g2, g3⟩ := (pick j).choose_spec.choose_spec _ h3
    simp only [Nat.zero_add]
    exact ⟨g1, g2, _, h3, g3⟩
  obtain ⟨Ts, pv, lpv, tb⟩ := tab
  have P := PairArg.tuple (prog := X.prog) (w := X.w) a its Ts pv
  refine PySem.call_dict_pairs (knd := mixKind X.prog X.w) (kvs := prs) P (I.ok.hd hc) ⟨⟨ob, n, e1, e2, e3, e4⟩, ?_, fun j k v e => ⟨(tb j k v e).1, .inl (tb j k v e).2.1⟩⟩ ⟨lpv.symm, fun j k v e => ?_⟩ (by rw [lpv, hl, ← lits]; exact hz) fun h' tk hd' k => ?_
  · rw [lpv, hl, lits]
  · obtain ⟨_, _, κ, h1, h2⟩ := tb j k v e
    exact ⟨κ, h1, h2⟩
  · have hm : (s.heap.objs.size == sysModules) = false := beq_eq_false_iff_ne.mpr (Nat.ne_of_gt I.big)
    have hlen : (mergeK [] kvs).length ≤ sizeLine := by
      refine Nat.le_trans (length_mergeK kvs []) ?_
      rw [List.length_nil, Nat.zero_add, rel.length, hl, ← lits]
      exact hz
    exact ⟨.ref s.heap.objs.size, _, I.laid (t' := tk) (fun b o e => k b o (by simp) e) (Nat.le_refl _) (show ObjOk X.prog X.w _ _ _ (.dK (mergeK [] kvs)) from ⟨hlen, hm, merged [] prs, KV.merge rel .nil, hd'⟩), rfl, q _ (I.hok.fresh (Nat.le_refl _))⟩
def dictT (f : Ex) : Ex := fun σ S => (f σ S).bind fun d S1 => match d with
  | .py (.tuple ds) => (match pairsOf ds with
    | some kv => if (kv.map Prod.fst).Nodup then .ok (.py (.dict (kv.map fun p => (keyP p.1, p.2)))) S1 else .no
    | none => .no)
  | _ => .no
theorem de_dictT {k : Nat} (o : Okx k X E) (hm : X.mg "dict" = none) (ha : DE X E e f) (hg : Gl X "dict" := by rfl) (he : starEach [e] X.env = (false, eval e X.env) :: starEach [] X.env := by rfl) (hpl : (backTo pos (starEach [] X.env)).any (·.1) = false := by rfl) :
    DE X E (.Call (.Name "dict" p) [e] [] pos) (dictT f) := by
  obtain ⟨t, pt, q⟩ := ha
  refine ⟨_, pe_frzD (pe_callTy (call_dictT (X := X) o.calm) hg hm rfl (pa_cons pt pa_nil he) (by decide) (by decide) he hpl), fun σ H σd S ι Q hE hS h => ?_⟩
  refine q σ H σd S ι _ hE hS (Wp.bind0 h fun d S1 _ v H1 ι1 p1 r1 h1 => ?_)
  split at h1
  · rename_i ds
    split at h1
    · rename_i kv hkv
      split at h1
      · rename_i hnd
        cases r1 with
        | py r1 =>
          cases r1 with
          | @tup a xs _ hF hz al =>
            obtain ⟨ps, kvs, e1, e2, e3, e4⟩ := pairs_V al hkv
            have hm : mergeK [] kvs = kvs := merge_new kvs [] (by rw [List.nil_append, e3]; exact hnd)
            have hl : kvs.length ≤ sizeLine := by
              have h2 := al.length
              rw [e1, List.length_map, e2.length] at h2
              rw [h2]
              exact hz
            refine ⟨a, ps, kvs, rfl, e1 ▸ hF, e2, fun b hb => ⟨b, kvs, rfl, by rw [hm]; exact upd_same, fun ob => ?_⟩⟩
            rw [upd_upd]
            refine h1 _ _ _ (p1.trans (.new p1.sto hb)) (.py ?_)
            rw [← zip_keys e3]
            exact .dic upd_same hl (e4.keep (.new hb))
      · exact h1.elim
    · exact h1.elim
  · exact h1.elim
end
end DV

set_option maxHeartbeats 4000000
/-! sorted(set(xs)), xs a list of whole numbers. -/
namespace L2
open PySem PySem.Spec PyProof.Rows
section
variable {P : Program} {w : World} {A : Around} {E : Value → Shared → Prop} {s : Shared}
end
end L2
namespace DV
open PySem PySem.Spec PyProof.Rows L2
section
variable {X : Cx} {E : XK} {e : Expr} {f : Ex} {p p2 q pos : Pos}
end
end DV

set_option maxHeartbeats 4000000
namespace DV
open PySem PySem.Spec PyProof.Rows L2
/-! The end of a law where two defs make lambdas: their tables are numbers 0 and 1 of the store. -/
section
variable {P : Program} {w : World} {K : PySem.W.Frag} {mg : Str → Option Value} {base : Heap}
end
end DV

set_option maxHeartbeats 4000000
namespace DV
open PySem PySem.Spec PyProof.Rows L2
/-! for x in [f, g]: .. x(..): defs of the program out of a written list, called by the name that walks it. -/
def fnsI (as : List Addr) : DV.It := fun σ S => .ok (as.map D.raw) S
def callV (Fs : List (Addr × (List D → Sto → R D))) (i : Ex) (fs : Ax) : Ex := fun σ S => (i σ S).bind fun d S1 => match d with
  | .raw a => (match Fs.lookup a with
    | some F => (fs σ S1).bind fun ds S2 => F ds S2
    | none => .no)
  | _ => .no
theorem get_raws {as : List Addr} {i : Nat} {x : D} (h : (as.map D.raw)[i]? = some x) : ∃ a, as[i]? = some a ∧ x = .raw a := by
  rw [List.getElem?_map, Option.map_eq_some_iff] at h
  obtain ⟨d, h1, h2⟩ := h
  exact ⟨d, h1, h2.symm⟩
theorem walk_raws {K : PySem.W.Frag} {H0 : Hp} {a : Addr} {as : List Addr} (hf : FL K H0 a (as.map V.ref)) (hz : as.length ≤ sizeLine) : WalkR K H0 (Itl K a) (as.map D.raw) := by
  refine ⟨by rw [List.length_map]; exact hz, fun i H kp hi => ?_, fun H kp => ?_, fun i H v H' x kp hx y => ?_⟩
  · rw [List.length_map] at hi
    exact ⟨as.map V.ref, .ref as[i], (hf.keep kp).sq, by rw [List.getElem?_map, List.getElem?_eq_getElem hi]; rfl⟩
  · exact ⟨as.map V.ref, (hf.keep kp).sq, by rw [List.length_map, List.length_map]; exact Nat.le_refl _⟩
  · obtain ⟨e, y⟩ := y
    subst e
    obtain ⟨d, hd, rfl⟩ := get_raws hx
    have := y (as.map V.ref) (hf.keep kp).sq
    rw [List.getElem?_map, hd] at this
    cases this
    exact ⟨.refl _, fun _ _ h => h, fun _ h => h, fun ι => .raw d⟩
section
variable {X : Cx} {E : XK} {k n : Nat}
theorem di_fns {es : List Expr} {as : List Addr} {Fs : List (List D → Sto → R D)} {tg : Expr} {p1 : Pos} (o : Okx k X E) (h : Pk X k n es as Fs) (hl : es.length ≤ 1000 := by decide) : DI X E tg (.List es p1) (fnsI as) := by
  refine ⟨_, pi_list (pe_frz (pe_lst (pos := p1) h.pa)), fun σ H σd S ι R hE hS hh => ?_⟩
  have z : as.length ≤ sizeLine := by rw [h.len]; exact small_line hl
  refine ⟨by rw [List.length_map]; exact z, fun p np => ⟨p, _, rfl, upd_same, fun ob => ?_⟩⟩
  have P0 := Post.new (o := .lst (as.map V.ref)) hS np
  exact ⟨_, rfl, ⟨_, FL.sq (.inl ⟨ob, upd_same⟩)⟩, hh _ _ _ (P0.fixNew upd_same (hS.notin np) np) (walk_raws (.inl ⟨ob, upd_same⟩) z)⟩
inductive Ck (X : Cx) (k n : Nat) : List Addr → List (List D → Sto → R D) → Prop
  | nil : Ck X k n [] []
  | cons {x : Str} {f : Addr} {fd : FuncData} {ps : List Str} {F : List D → Sto → R D} {j : Nat} {as : List Addr} {Fs : List (List D → Sto → R D)} :
      FnD X.prog X.w X.K X.mg X.base j f fd ps F → At X.K X.mg x f fd ps → j ≤ k → ps.length = n → Ck X k n as Fs → Ck X k n (f :: as) (F :: Fs)
theorem Ck.find {as : List Addr} {Fs : List (List D → Sto → R D)} (h : Ck X k n as Fs) {a : Addr} {F : List D → Sto → R D} (e : (as.zip Fs).lookup a = some F) : Callable X k n a F := by
  induction h with
  | nil => cases e
  | @cons x f fd ps G j as Fs hF at_ hj hn _ ih =>
    rw [List.zip_cons_cons, List.lookup_cons] at e
    by_cases q : a = f
    · subst q
      simp at e
      subst e
      exact ⟨_, _, _, hF, at_.kp, at_.b, hj, hn⟩
    · have : (a == f) = false := by simpa using q
      rw [this] at e
      exact ih e
theorem de_callV {as : List Addr} {Fs : List (List D → Sto → R D)} {x : Str} {e : Expr} {args : List Expr} {g : Ex} {fs : Ax} {p pos : Pos} (o : Okx k X E) (h : Ck X k n as Fs) (hb : DE X E (.Name x p) g) (ha : DA X E (e :: args) fs) (hn : (e :: args).length = n)
    (he : starEach (e :: args) X.env = (false, eval e X.env) :: starEach args X.env := by rfl) (hpl : (backTo pos (starEach args X.env)).any (·.1) = false := by rfl) :
    DE X E (.Call (.Name x p) (e :: args) [] pos) (callV (as.zip Fs) g fs) := by
  obtain ⟨l, t, pt, q⟩ := ha
  obtain ⟨u, pu, qu⟩ := hb
  refine ⟨fun σ H Q => u σ H (fun v H1 => ∃ f F, v = .ref f ∧ Callable X k n f F ∧ t σ H1 fun vs H2 => spD X.K X.mg n F vs H2 Q E), ⟨fun pins s σ H Q I hh => wpAny_Call_Name_kw (thn (pu.run pins s σ H _ I hh) fun w s1 ⟨v, H1, I1, r, f, F, ev, hC, hq⟩ => ?_)⟩, fun σ H σd S ι Q hE hS hw => ?_⟩
  · subst ev
    cases (show w = Value.ref f from r)
    obtain ⟨fd, ps, j, hF, kp, bd, hj, hn2⟩ := hC
    refine PySem.W.callWith_K (h₀ := X.base) I1.ok.mod.kin kp (thn (pt.run pos pins s1 σ H1 _ I1 hq) fun us s2 ⟨vs, H2, I2, r2, q2⟩ => ⟨I2.kIn, ?_⟩) he hpl
    subst hn2
    exact run_fnD o hF hj bd I2 r2 q2
  · refine qu σ H σd S ι _ hE hS (Wp.bind hw fun d S1 _ v H1 ι1 p1 r1 h1 => ?_)
    split at h1
    · rename_i a _
      cases r1
      split at h1
      · rename_i F hF
        refine ⟨a, F, rfl, h.find hF, ?_⟩
        refine q σ H1 σd S1 ι1 _ (hE.mono p1.pre p1.keep) p1.sto (Wp.bind h1 fun ds S2 e2 vs H2 ι2 p2 r2 h2 => ?_)
        exact ⟨by rw [r2.length, l _ _ _ _ e2, hn], ι2, S2, ds, p2.sto, r2, h2⟩
      · exact h1.elim
    · exact h1.elim
end
end DV


set_option maxHeartbeats 4000000
namespace DV
open PySem PySem.Spec PyProof.Rows L2 DV
noncomputable def b_place_of : Sx := (seqS (forS (enumI (opE itemD (varE 0) (cE (.int 1)))) (tupG 2 (consG (nmG 2) (consG (nmG 3) nilG))) (ifS (valT (opE eqD (opE itemD (varE 3) (cE (.int 0))) (varE 1))) (retS (varE 2)) passS)) (retS (cE .none)))
noncomputable def F_place_of : List D → Sto → R D := fnF 4 b_place_of
noncomputable def b_need_letter : Sx := (seqS (asgS (callE F_place_of (consA (varE 0) (consA (varE 1) nilA))) (nmG 2)) (seqS (ifS (valT (opE isND (varE 2) (cE .none))) (raiseS "NoLetter") passS) (retS (varE 2))))
noncomputable def F_need_letter : List D → Sto → R D := fnF 3 b_need_letter
noncomputable def b_law_box : Sx := (seqS (asgS (opE addD (opE mulD (cE (.int 6151)) (varE 1)) (cE (.int 29))) (nmG 2)) (seqS (ifS (valT (opE ltD (varE 1) (callE lenD (consA (varE 0) nilA)))) (asgS (opE itemD (varE 0) (varE 1)) (nmG 2)) passS) (seqS (ifS (valT (opE eqD (opE modD (varE 2) (cE (.int 2))) (cE (.int 0)))) (retS (thwE (consA (opE fdivD (callE absD (consA (varE 2) nilA)) (cE (.int 2))) (consA (opE addD (opE addD (opE modD (varE 2) (cE (.int 1000003))) (opE mulD (cE (.int 7919)) (varE 1))) (cE (.int 1))) nilA)))) passS) (retS (thwE (consA (cE (.int 0)) (consA (opE addD (opE addD (opE modD (varE 2) (cE (.int 2147483563))) (opE mulD (cE (.int 7919)) (varE 1))) (cE (.int 1))) nilA)))))))
noncomputable def F_law_box : List D → Sto → R D := fnF 3 b_law_box
noncomputable def b_law_take : Sx := (seqS (ifS (valT (opE (cmpI fun i j => decide (j < i)) (opE itemD (varE 0) (cE (.int 0))) (cE (.int 0)))) (seqS (asgS (callE divmodD (consA (opE itemD (varE 0) (cE (.int 0))) (consA (varE 1) nilA))) (tupG 2 (consG (ixG (varE 0) (cE (.int 0))) (consG (nmG 2) nilG)))) (retS (varE 2))) passS) (seqS (asgS (opE modD (opE addD (opE mulD (opE itemD (varE 0) (cE (.int 1))) (cE (.int 48271))) (cE (.int 11))) (cE (.int 2147483647))) (ixG (varE 0) (cE (.int 1)))) (seqS (asgS (opE addD (opE fdivD (opE itemD (varE 0) (cE (.int 1))) (cE (.int 1009))) (cE (.int 1))) (nmG 3)) (retS (opE modD (opE fdivD (opE modD (opE mulD (opE mulD (varE 3) (varE 3)) (varE 3)) (cE (.int 2147483629))) (cE (.int 61))) (varE 1))))))
noncomputable def F_law_take : List D → Sto → R D := fnF 4 b_law_take
noncomputable def b_is_from_to : Sx := (retS (andE (op1 (isiD "int") (varE 0)) (andE (notE (op1 (isiD "bool") (varE 0))) (chainE (cmpI fun i j => decide (i ≤ j)) (cmpI fun i j => decide (i ≤ j)) (varE 1) (varE 0) (varE 2)))))
noncomputable def F_is_from_to : List D → Sto → R D := fnF 3 b_is_from_to
noncomputable def b_is_letter : Sx := (retS (andE (op1 (isiD "str") (varE 0)) (andE (opE eqD (callE lenD (consA (varE 0) nilA)) (cE (.int 1))) (opE inD (varE 0) (cE (.str "abcdefghijklmnopqrstuvwxyz"))))))
noncomputable def F_is_letter : List D → Sto → R D := fnF 1 b_is_letter
noncomputable def b_is_wide : Sx := (retS (callE F_is_from_to (consA (varE 0) (consA (cE (.int 10)) (consA (cE (.int 99)) nilA)))))
noncomputable def F_is_wide : List D → Sto → R D := fnF 1 b_is_wide
noncomputable def b_is_face : Sx := (seqS (ifS (orT (notT (valT (op1 (isiD "tuple") (varE 0)))) (orT (valT (opE neD (callE lenD (consA (varE 0) nilA)) (cE (.int 2)))) (notT (valT (callE F_is_from_to (consA (opE itemD (varE 0) (cE (.int 0))) (consA (cE (.int 1)) (consA (cE (.int 99)) nilA)))))))) (retS (cE (.bool false))) passS) (seqS (ifS (orT (notT (valT (op1 (isiD "tuple") (opE itemD (varE 0) (cE (.int 1)))))) (notT (valT (chainE (cmpI fun i j => decide (i ≤ j)) (cmpI fun i j => decide (i ≤ j)) (cE (.int 1)) (callE lenD (consA (opE itemD (varE 0) (cE (.int 1))) nilA)) (cE (.int 10)))))) (retS (cE (.bool false))) passS) (seqS (forS (seqI (opE itemD (varE 0) (cE (.int 1)))) (nmG 1) (ifS (orT (notT (valT (op1 (isiD "tuple") (varE 1)))) (orT (valT (opE neD (callE lenD (consA (varE 1) nilA)) (cE (.int 2)))) (orT (notT (valT (callE F_is_letter (consA (opE itemD (varE 1) (cE (.int 0))) nilA)))) (notT (valT (callE F_is_wide (consA (opE itemD (varE 1) (cE (.int 1))) nilA))))))) (retS (cE (.bool false))) passS)) (retS (opE eqD (op1 lenSetX (frzE (lcX (seqI (opE itemD (varE 0) (cE (.int 1)))) [1] (nmG 1) yesT (opE itemD (varE 1) (cE (.int 0)))))) (callE lenD (consA (opE itemD (varE 0) (cE (.int 1))) nilA)))))))
noncomputable def F_is_face : List D → Sto → R D := fnF 2 b_is_face
noncomputable def b_letters_of : Sx := (retS (callE tupleD (consA (frzE (lcX (seqI (opE itemD (varE 0) (cE (.int 1)))) [1] (nmG 1) yesT (opE itemD (varE 1) (cE (.int 0))))) nilA)))
noncomputable def F_letters_of : List D → Sto → R D := fnF 2 b_letters_of
noncomputable def b_law_face : Sx := (seqS (asgS (thwE (callL listD (consA (cE (.str "abcdefghijklmnopqrstuvwxyz")) nilA))) (nmG 3)) (seqS (asgS (opE addD (varE 1) (callE F_law_take (consA (varE 0) (consA (opE addD (opE subD (varE 2) (varE 1)) (cE (.int 1))) nilA)))) (nmG 4)) (seqS (asgS (frzE (lcX (rng1I (varE 4)) [6] (nmG 6) yesT (tupE (consA (methL popD (varE 3) (consA (callE F_law_take (consA (varE 0) (consA (callE lenD (consA (varE 3) nilA)) nilA))) nilA)) (consA (opE addD (cE (.int 10)) (callE F_law_take (consA (varE 0) (consA (cE (.int 90)) nilA)))) nilA))))) (nmG 5)) (retS (tupE (consA (opE addD (cE (.int 1)) (callE F_law_take (consA (varE 0) (consA (cE (.int 99)) nilA)))) (consA (callE tupleD (consA (varE 5) nilA)) nilA)))))))
noncomputable def F_law_face : List D → Sto → R D := fnF 7 b_law_face
noncomputable def b_law_letters : Sx := (retS (frzE (lcX (seqI (opE itemD (varE 0) (cE (.int 1)))) [1] (nmG 1) yesT (opE itemD (varE 1) (cE (.int 0))))))
noncomputable def F_law_letters : List D → Sto → R D := fnF 2 b_law_letters
noncomputable def b_is_gap : Sx := (retS (callE F_is_from_to (consA (varE 0) (consA (opE subD (cE (.int 0)) (cE (.int 9))) (consA (cE (.int 9)) nilA)))))
noncomputable def F_is_gap : List D → Sto → R D := fnF 1 b_is_gap
noncomputable def b_is_told : Sx := (seqS (ifS (notT (valT (op1 (isiD "tuple") (varE 1)))) (retS (cE (.bool false))) passS) (seqS (asgS (tupE (consA (op1 negD (cE (.int 1))) (consA (op1 negD (cE (.int 1))) nilA))) (nmG 2)) (seqS (forS (seqI (varE 1)) (nmG 3) (seqS (ifS (orT (notT (valT (op1 (isiD "tuple") (varE 3)))) (orT (valT (opE neD (callE lenD (consA (varE 3) nilA)) (cE (.int 3)))) (notT (valT (callE F_is_gap (consA (opE itemD (varE 3) (cE (.int 2))) nilA)))))) (retS (cE (.bool false))) passS) (seqS (parS [4, 5] (consA (callE F_place_of (consA (varE 0) (consA (opE itemD (varE 3) (cE (.int 0))) nilA))) (consA (callE F_place_of (consA (varE 0) (consA (opE itemD (varE 3) (cE (.int 1))) nilA))) nilA))) (seqS (ifS (orT (valT (opE isND (varE 4) (cE .none))) (orT (valT (opE isND (varE 5) (cE .none))) (valT (opE leTD (tupE (consA (varE 4) (consA (varE 5) nilA))) (varE 2))))) (retS (cE (.bool false))) passS) (asgS (tupE (consA (varE 4) (consA (varE 5) nilA))) (nmG 2)))))) (retS (cE (.bool true))))))
noncomputable def F_is_told : List D → Sto → R D := fnF 6 b_is_told
noncomputable def b_is_list : Sx := (retS (andE (callE F_is_told (consA (varE 0) (consA (varE 1) nilA))) (callE allD (consA (frzE (lcX (seqI (varE 1)) [2, 3, 4] (tupG 3 (consG (nmG 2) (consG (nmG 3) (consG (nmG 4) nilG)))) yesT (opE neD (varE 4) (cE (.int 0))))) nilA))))
noncomputable def F_is_list : List D → Sto → R D := fnF 5 b_is_list
noncomputable def b_law_rows : Sx := (seqS (asgS (frzE (lcX (rng1I (varE 1)) [8] (nmG 8) yesT (callE F_law_take (consA (varE 0) (consA (cE (.int 3)) nilA))))) (nmG 2)) (seqS (asgS (frzE (lcX (rng1I (varE 1)) [8] (nmG 8) yesT (callE F_law_take (consA (varE 0) (consA (cE (.int 3)) nilA))))) (nmG 3)) (seqS (asgS (frzE (consA (cE (.int 0)) (consA (cE (.int 0)) (consA (cE (.int 1)) (consA (op1 negD (cE (.int 1))) (consA (cE (.int 9)) (consA (op1 negD (cE (.int 9))) (consA (cE (.int 4)) nilA)))))))) (nmG 4)) (seqS (asgS (frzE (lcX (rng1I (cE (.int 3))) [9] (nmG 9) yesT (frzE (lcX (rng1I (cE (.int 3))) [10] (nmG 10) yesT (opE itemD (varE 4) (callE F_law_take (consA (varE 0) (consA (cE (.int 7)) nilA)))))))) (nmG 5)) (seqS (asgS (thwE (lcX (seqI (varE 2)) [9] (nmG 9) yesT (thwE (lcX (seqI (varE 3)) [10] (nmG 10) yesT (opE itemD (opE itemD (varE 5) (varE 9)) (varE 10)))))) (nmG 6)) (seqS (forS (rng1I (callE F_law_take (consA (varE 0) (consA (cE (.int 4)) nilA)))) (nmG 7) (asgS (opE subD (callE F_law_take (consA (varE 0) (consA (cE (.int 19)) nilA))) (cE (.int 9))) (ixG (opE itemD (varE 6) (callE F_law_take (consA (varE 0) (consA (varE 1) nilA)))) (callE F_law_take (consA (varE 0) (consA (varE 1) nilA)))))) (seqS (fix2S 6) (retS (varE 6)))))))))
noncomputable def F_law_rows : List D → Sto → R D := fnF 11 b_law_rows
noncomputable def b_law_list : Sx := (seqS (asgS (callE F_law_letters (consA (varE 0) nilA)) (nmG 2)) (seqS (asgS (thwE nilA) (nmG 3)) (seqS (forS (zipI (varE 2) (varE 1)) (tupG 2 (consG (nmG 4) (consG (nmG 5) nilG))) (forS (zipI (varE 2) (varE 5)) (tupG 2 (consG (nmG 6) (consG (nmG 7) nilG))) (ifS (valT (opE neD (varE 7) (cE (.int 0)))) (exprS (methL appendD (varE 3) (consA (tupE (consA (varE 4) (consA (varE 6) (consA (varE 7) nilA)))) nilA))) passS))) (retS (callE tupleD (consA (varE 3) nilA))))))
noncomputable def F_law_list : List D → Sto → R D := fnF 8 b_law_list
noncomputable def b_law_pairs : Sx := (retS (callE F_law_list (consA (varE 1) (consA (callE F_law_rows (consA (varE 0) (consA (callE lenD (consA (opE itemD (varE 1) (cE (.int 1))) nilA)) nilA))) nilA))))
noncomputable def F_law_pairs : List D → Sto → R D := fnF 2 b_law_pairs
noncomputable def b_gap_in : Sx := (seqS (forS (seqI (varE 0)) (tupG 3 (consG (nmG 3) (consG (nmG 4) (consG (nmG 5) nilG)))) (ifS (andT (valT (opE eqD (varE 3) (varE 1))) (valT (opE eqD (varE 4) (varE 2)))) (retS (varE 5)) passS)) (retS (cE (.int 0))))
noncomputable def F_gap_in : List D → Sto → R D := fnF 6 b_gap_in
noncomputable def b_gap_of : Sx := (seqS (exprS (callE F_need_letter (consA (varE 0) (consA (varE 2) nilA)))) (seqS (exprS (callE F_need_letter (consA (varE 0) (consA (varE 3) nilA)))) (retS (callE F_gap_in (consA (varE 1) (consA (varE 2) (consA (varE 3) nilA)))))))
noncomputable def F_gap_of : List D → Sto → R D := fnF 4 b_gap_of
noncomputable def b_rows_of : Sx := (seqS (asgS (callE F_letters_of (consA (varE 0) nilA)) (nmG 2)) (retS (callE tupleD (consA (frzE (lcX (seqI (varE 2)) [3] (nmG 3) yesT (callE tupleD (consA (frzE (lcX (seqI (varE 2)) [4] (nmG 4) yesT (callE F_gap_in (consA (varE 1) (consA (varE 3) (consA (varE 4) nilA)))))) nilA)))) nilA))))
noncomputable def F_rows_of : List D → Sto → R D := fnF 5 b_rows_of
noncomputable def b_from_rows : Sx := (seqS (asgS (callE F_letters_of (consA (varE 0) nilA)) (nmG 2)) (seqS (asgS (thwE nilA) (nmG 3)) (seqS (forS (zipI (varE 2) (varE 1)) (tupG 2 (consG (nmG 4) (consG (nmG 5) nilG))) (exprS (extE (varE 3) (lcX (zipI (varE 2) (varE 5)) [6, 7] (tupG 2 (consG (nmG 6) (consG (nmG 7) nilG))) (valT (opE neD (varE 7) (cE (.int 0)))) (tupE (consA (varE 4) (consA (varE 6) (consA (varE 7) nilA)))))))) (retS (callE tupleD (consA (varE 3) nilA))))))
noncomputable def F_from_rows : List D → Sto → R D := fnF 8 b_from_rows
noncomputable def b_all_pairs : Sx := (seqS (asgS (thwE nilA) (nmG 1)) (seqS (forS (seqI (callE F_letters_of (consA (varE 0) nilA))) (nmG 2) (exprS (extE (varE 1) (lcX (seqI (callE F_letters_of (consA (varE 0) nilA))) [3] (nmG 3) yesT (tupE (consA (varE 2) (consA (varE 3) nilA))))))) (seqS (fixS 1) (retS (varE 1)))))
noncomputable def F_all_pairs : List D → Sto → R D := fnF 4 b_all_pairs
noncomputable def b_changed : Sx := (seqS (asgS (thwE nilA) (nmG 3)) (seqS (forS (seqI (callE F_all_pairs (consA (varE 0) nilA))) (tupG 2 (consG (nmG 4) (consG (nmG 5) nilG))) (ifS (valT (opE neD (callE F_gap_in (consA (varE 1) (consA (varE 4) (consA (varE 5) nilA)))) (callE F_gap_in (consA (varE 2) (consA (varE 4) (consA (varE 5) nilA)))))) (exprS (methL appendD (varE 3) (consA (tupE (consA (varE 4) (consA (varE 5) nilA))) nilA))) passS)) (retS (callE tupleD (consA (varE 3) nilA)))))
noncomputable def F_changed : List D → Sto → R D := fnF 6 b_changed
noncomputable def b_grouped : Sx := (seqS (asgS (thwE nilA) (nmG 2)) (seqS (forS (seqI (varE 1)) (nmG 3) (ifS (valT (opE notInD (varE 3) (varE 2))) (exprS (methL appendD (varE 2) (consA (varE 3) nilA))) passS)) (seqS (fixS 2) (retS (callE tupleD (consA (frzE (lcX (seqI (varE 2)) [3] (nmG 3) yesT (callE tupleD (consA (frzE (lcX (zipI (varE 0) (varE 1)) [4, 5] (tupG 2 (consG (nmG 4) (consG (nmG 5) nilG))) (valT (opE eqD (varE 5) (varE 3))) (varE 4))) nilA)))) nilA))))))
noncomputable def F_grouped : List D → Sto → R D := fnF 6 b_grouped
noncomputable def b_left_parting : Sx := (retS (callE F_grouped (consA (callE F_letters_of (consA (varE 0) nilA)) (consA (callE F_rows_of (consA (varE 0) (consA (varE 1) nilA))) nilA))))
noncomputable def F_left_parting : List D → Sto → R D := fnF 2 b_left_parting
noncomputable def b_columns_of : Sx := (seqS (asgS (callE F_letters_of (consA (varE 0) nilA)) (nmG 2)) (retS (frzE (lcX (seqI (varE 2)) [3] (nmG 3) yesT (callE tupleD (consA (frzE (lcX (seqI (varE 2)) [4] (nmG 4) yesT (callE F_gap_in (consA (varE 1) (consA (varE 4) (consA (varE 3) nilA)))))) nilA))))))
noncomputable def F_columns_of : List D → Sto → R D := fnF 5 b_columns_of
noncomputable def b_right_parting : Sx := (retS (callE F_grouped (consA (callE F_letters_of (consA (varE 0) nilA)) (consA (callE F_columns_of (consA (varE 0) (consA (varE 1) nilA))) nilA))))
noncomputable def F_right_parting : List D → Sto → R D := fnF 2 b_right_parting
noncomputable def b_is_sign : Sx := (retS (orE (opE eqD (varE 1) (cE (.str " "))) (opE notND (callE F_place_of (consA (varE 0) (consA (varE 1) nilA))) (cE .none))))
noncomputable def F_is_sign : List D → Sto → R D := fnF 2 b_is_sign
noncomputable def b_is_text : Sx := (retS (andE (op1 (isiD "str") (varE 1)) (callE allD (consA (frzE (lcX (txtI (varE 1)) [2] (nmG 2) yesT (callE F_is_sign (consA (varE 0) (consA (varE 2) nilA))))) nilA))))
noncomputable def F_is_text : List D → Sto → R D := fnF 3 b_is_text
noncomputable def b_need_text : Sx := (ifS (notT (valT (callE F_is_text (consA (varE 0) (consA (varE 1) nilA))))) (raiseS "NoLine") passS)
noncomputable def F_need_text : List D → Sto → R D := fnF 2 b_need_text
noncomputable def b_sign_width : Sx := (seqS (ifS (valT (opE eqD (varE 1) (cE (.str " ")))) (retS (opE itemD (varE 0) (cE (.int 0)))) passS) (retS (opE itemD (opE itemD (opE itemD (varE 0) (cE (.int 1))) (callE F_place_of (consA (varE 0) (consA (varE 1) nilA)))) (cE (.int 1)))))
noncomputable def F_sign_width : List D → Sto → R D := fnF 2 b_sign_width
noncomputable def b_between : Sx := (seqS (ifS (orT (valT (opE eqD (varE 1) (cE (.str " ")))) (valT (opE eqD (varE 2) (cE (.str " "))))) (retS (cE (.int 0))) passS) (retS (callE F_gap_in (consA (varE 0) (consA (varE 1) (consA (varE 2) nilA))))))
noncomputable def F_between : List D → Sto → R D := fnF 3 b_between
noncomputable def b_begins_in : Sx := (seqS (asgS (thwE nilA) (nmG 3)) (seqS (asgS (cE (.int 0)) (nmG 4)) (seqS (forS (enumI (varE 2)) (tupG 2 (consG (nmG 5) (consG (nmG 6) nilG))) (seqS (ifS (valT (opE (cmpI fun i j => decide (j < i)) (varE 5) (cE (.int 0)))) (asgS (opE addD (opE addD (varE 4) (callE F_sign_width (consA (varE 0) (consA (opE itemD (varE 2) (opE subD (varE 5) (cE (.int 1)))) nilA)))) (callE F_between (consA (varE 1) (consA (opE itemD (varE 2) (opE subD (varE 5) (cE (.int 1)))) (consA (varE 6) nilA))))) (nmG 4)) passS) (exprS (methL appendD (varE 3) (consA (varE 4) nilA))))) (retS (callE tupleD (consA (varE 3) nilA))))))
noncomputable def F_begins_in : List D → Sto → R D := fnF 7 b_begins_in
noncomputable def b_begins : Sx := (seqS (exprS (callE F_need_text (consA (varE 0) (consA (varE 2) nilA)))) (retS (callE F_begins_in (consA (varE 0) (consA (varE 1) (consA (varE 2) nilA))))))
noncomputable def F_begins : List D → Sto → R D := fnF 3 b_begins
noncomputable def b_need_fresh : Sx := (ifS (orT (notT (valT (callE F_is_letter (consA (varE 1) nilA)))) (valT (opE notND (callE F_place_of (consA (varE 0) (consA (varE 1) nilA))) (cE .none)))) (raiseS "NoLetter") passS)
noncomputable def F_need_fresh : List D → Sto → R D := fnF 2 b_need_fresh
noncomputable def b_need_room : Sx := (ifS (valT (opE (cmpI fun i j => decide (j ≤ i)) (callE lenD (consA (opE itemD (varE 0) (cE (.int 1))) nilA)) (cE (.int 10)))) (raiseS "TooMany") passS)
noncomputable def F_need_room : List D → Sto → R D := fnF 1 b_need_room
noncomputable def b_with_like : Sx := (seqS (exprS (callE F_need_fresh (consA (varE 0) (consA (varE 2) nilA)))) (seqS (asgS (callE F_need_letter (consA (varE 0) (consA (varE 3) nilA))) (nmG 4)) (seqS (exprS (callE F_need_room (consA (varE 0) nilA))) (seqS (asgS (tupE (consA (opE itemD (varE 0) (cE (.int 0))) (consA (opE addD (opE itemD (varE 0) (cE (.int 1))) (tupE (consA (tupE (consA (varE 2) (consA (opE itemD (opE itemD (opE itemD (varE 0) (cE (.int 1))) (varE 4)) (cE (.int 1))) nilA))) nilA))) nilA))) (nmG 5)) (seqS (asgS (frzE (lcX (seqI (callE F_letters_of (consA (varE 5) nilA))) [8] (nmG 8) yesT (ifE (valT (opE eqD (varE 8) (varE 2))) (varE 3) (varE 8)))) (nmG 6)) (seqS (asgS (frzE (lcX (seqI (varE 6)) [9] (nmG 9) yesT (frzE (lcX (seqI (varE 6)) [10] (nmG 10) yesT (callE F_gap_in (consA (varE 1) (consA (varE 9) (consA (varE 10) nilA)))))))) (nmG 7)) (retS (tupE (consA (varE 5) (consA (callE F_from_rows (consA (varE 5) (consA (varE 7) nilA))) nilA))))))))))
noncomputable def F_with_like : List D → Sto → R D := fnF 11 b_with_like
noncomputable def b_with_gap : Sx := (seqS (exprS (callE F_need_letter (consA (varE 0) (consA (varE 2) nilA)))) (seqS (exprS (callE F_need_letter (consA (varE 0) (consA (varE 3) nilA)))) (seqS (ifS (notT (valT (callE F_is_gap (consA (varE 4) nilA)))) (raiseS "NoGap") passS) (seqS (asgS (callE F_letters_of (consA (varE 0) nilA)) (nmG 5)) (seqS (asgS (thwE (lcX (seqI (varE 5)) [7] (nmG 7) yesT (thwE (lcX (seqI (varE 5)) [8] (nmG 8) yesT (callE F_gap_in (consA (varE 1) (consA (varE 7) (consA (varE 8) nilA)))))))) (nmG 6)) (seqS (asgS (varE 4) (ixG (opE itemD (varE 6) (methT indexTD (varE 5) (consA (varE 2) nilA))) (methT indexTD (varE 5) (consA (varE 3) nilA)))) (seqS (fix2S 6) (retS (callE F_from_rows (consA (varE 0) (consA (varE 6) nilA)))))))))))
noncomputable def F_with_gap : List D → Sto → R D := fnF 9 b_with_gap
noncomputable def b_is_moved : Sx := (retS (callE anyD (consA (frzE (lcX (zipI (varE 2) (sliceE (varE 2) (someP (cE (.int 1))) noP)) [3, 4] (tupG 2 (consG (nmG 3) (consG (nmG 4) nilG))) yesT (opE neD (callE F_between (consA (varE 0) (consA (varE 3) (consA (varE 4) nilA)))) (callE F_between (consA (varE 1) (consA (varE 3) (consA (varE 4) nilA))))))) nilA)))
noncomputable def F_is_moved : List D → Sto → R D := fnF 5 b_is_moved
noncomputable def b_moved_lines : Sx := (seqS (ifS (notT (valT (op1 (isiD "tuple") (varE 3)))) (raiseS "NoLine") passS) (seqS (forS (seqI (varE 3)) (nmG 4) (exprS (callE F_need_text (consA (varE 0) (consA (varE 4) nilA))))) (retS (callE tupleD (consA (frzE (lcX (enumI (varE 3)) [5, 4] (tupG 2 (consG (nmG 5) (consG (nmG 4) nilG))) (valT (callE F_is_moved (consA (varE 1) (consA (varE 2) (consA (varE 4) nilA))))) (varE 5))) nilA)))))
noncomputable def F_moved_lines : List D → Sto → R D := fnF 6 b_moved_lines
noncomputable def b_law_fresh : Sx := (seqS (asgS (callE F_law_letters (consA (varE 1) nilA)) (nmG 2)) (seqS (asgS (frzE (lcX (txtI (cE (.str "abcdefghijklmnopqrstuvwxyz"))) [4] (nmG 4) (valT (opE notInD (varE 4) (varE 2))) (varE 4))) (nmG 3)) (retS (opE itemD (varE 3) (callE F_law_take (consA (varE 0) (consA (callE lenD (consA (varE 3) nilA)) nilA)))))))
noncomputable def F_law_fresh : List D → Sto → R D := fnF 5 b_law_fresh
noncomputable def b_with_letter : Sx := (seqS (exprS (callE F_need_fresh (consA (varE 0) (consA (varE 1) nilA)))) (seqS (ifS (notT (valT (callE F_is_wide (consA (varE 2) nilA)))) (raiseS "NoNumber") passS) (seqS (exprS (callE F_need_room (consA (varE 0) nilA))) (retS (tupE (consA (opE itemD (varE 0) (cE (.int 0))) (consA (opE addD (opE itemD (varE 0) (cE (.int 1))) (tupE (consA (tupE (consA (varE 1) (consA (varE 2) nilA))) nilA))) nilA)))))))
noncomputable def F_with_letter : List D → Sto → R D := fnF 3 b_with_letter
noncomputable def b_without_letter : Sx := (seqS (exprS (callE F_need_letter (consA (varE 0) (consA (varE 2) nilA)))) (seqS (ifS (valT (opE eqD (callE lenD (consA (opE itemD (varE 0) (cE (.int 1))) nilA)) (cE (.int 1)))) (raiseS "NoLetter") passS) (seqS (asgS (callE tupleD (consA (frzE (lcX (seqI (opE itemD (varE 0) (cE (.int 1)))) [4] (nmG 4) (valT (opE neD (opE itemD (varE 4) (cE (.int 0))) (varE 2))) (varE 4))) nilA)) (nmG 3)) (retS (tupE (consA (tupE (consA (opE itemD (varE 0) (cE (.int 0))) (consA (varE 3) nilA))) (consA (callE tupleD (consA (frzE (lcX (seqI (varE 1)) [4] (nmG 4) (valT (opE notInD (varE 2) (sliceE (varE 4) noP (someP (cE (.int 2)))))) (varE 4))) nilA)) nilA)))))))
noncomputable def F_without_letter : List D → Sto → R D := fnF 5 b_without_letter
noncomputable def b_law_text : Sx := (seqS (asgS (opE addD (frzE (repL (callE F_law_letters (consA (varE 1) nilA)) (cE (.int 2)))) (frzE (consA (cE (.str " ")) nilA))) (nmG 3)) (retS (methS joinD (cE (.str "")) (consA (frzE (lcX (rng1I (callE F_law_take (consA (varE 0) (consA (opE addD (varE 2) (cE (.int 1))) nilA)))) [4] (nmG 4) yesT (opE itemD (varE 3) (callE F_law_take (consA (varE 0) (consA (callE lenD (consA (varE 3) nilA)) nilA)))))) nilA))))
noncomputable def F_law_text : List D → Sto → R D := fnF 5 b_law_text
end DV

set_option maxHeartbeats 4000000
namespace DV.k75
open PySem PySem.Spec PyProof.Rows L2 DV
noncomputable def q_law_0 (A B : Nat) : Sx := (ifS (orT (valT (opE notBD (callE F_is_face (consA (varE 8) nilA)) (cE (.bool true)))) (valT (opE notBD (callE F_is_list (consA (varE 8) (consA (varE 9) nilA))) (cE (.bool true))))) (retS (cE (.bool false))) passS)
noncomputable def q_law_1 (A B : Nat) : Sx := (ifS (valT (opE neD (callE reprD (consA (callV (List.zip [A, B] [F_left_parting, F_right_parting]) (varE 10) (consA (varE 8) (consA (varE 9) nilA))) nilA)) (callE reprD (consA (callE tupleD (consA (varE 11) nilA)) nilA)))) (retS (cE (.bool false))) passS)
noncomputable def q_law_2 (A B : Nat) : Sx := (forS (fnsI [A, B]) (nmG 10) (seqS (asgS (frzE (lcX (seqI (callV (List.zip [A, B] [F_left_parting, F_right_parting]) (varE 10) (consA (varE 3) (consA (varE 5) nilA)))) [12] (nmG 12) yesT (opE addD (varE 12) (ifE (valT (opE inD (varE 7) (varE 12))) (tupE (consA (varE 6) nilA)) (tupE nilA))))) (nmG 11)) (q_law_1 A B)))
noncomputable def q_law_3 (A B : Nat) : Sx := (ifS (valT (opE neD (callE reprD (consA (callE F_without_letter (consA (varE 8) (consA (varE 9) (consA (varE 6) nilA)))) nilA)) (callE reprD (consA (tupE (consA (varE 3) (consA (varE 5) nilA))) nilA)))) (retS (cE (.bool false))) passS)
noncomputable def q_law_4 (A B : Nat) : Sx := (ifS (valT (opE neD (varE 8) (callE F_with_letter (consA (varE 3) (consA (varE 6) (consA (dgetF (dictT (opE itemD (varE 3) (cE (.int 1)))) (varE 7)) nilA)))))) (retS (cE (.bool false))) passS)
noncomputable def q_law_5 (A B : Nat) : Sx := (ifS (valT (opE neD (callE reprD (consA (callE F_with_gap (consA (varE 3) (consA (varE 15) (consA (varE 12) (consA (varE 7) (consA (varE 14) nilA)))))) nilA)) (callE reprD (consA (varE 5) nilA)))) (retS (cE (.bool false))) passS)
noncomputable def q_law_6 (A B : Nat) : Sx := (ifS (valT (opE neD (callE F_changed (consA (varE 3) (consA (varE 5) (consA (varE 15) nilA)))) (ifE (valT (opE neD (varE 13) (varE 14))) (tupE (consA (tupE (consA (varE 12) (consA (varE 7) nilA))) nilA)) (tupE nilA)))) (retS (cE (.bool false))) passS)
noncomputable def q_law_7 (A B : Nat) : Sx := (ifS (valT (opE neD (callE F_moved_lines (consA (varE 3) (consA (varE 5) (consA (varE 15) (consA (varE 16) nilA))))) (callE tupleD (consA (frzE (lcX (rng1I (cE (.int 5))) [20] (nmG 20) (valT (opE itemD (varE 17) (varE 20))) (varE 20))) nilA)))) (retS (cE (.bool false))) passS)
noncomputable def q_law_8 (A B : Nat) : Sx := (forS (rng1I (callE max2D (consA (cE (.int 1)) (consA (callE min2D (consA (callE lenD (consA (varE 0) nilA)) (consA (cE (.int 3)) nilA))) nilA)))) (nmG 1) (seqS (asgS (callE F_law_box (consA (varE 0) (consA (varE 1) nilA))) (nmG 2)) (seqS (asgS (callE F_law_face (consA (varE 2) (consA (cE (.int 1)) (consA (cE (.int 7)) nilA)))) (nmG 3)) (seqS (asgS (tupE (consA (callE F_law_letters (consA (varE 3) nilA)) (consA (callE F_law_pairs (consA (varE 2) (consA (varE 3) nilA))) nilA))) (tupG 2 (consG (nmG 4) (consG (nmG 5) nilG)))) (seqS (asgS (tupE (consA (callE F_law_fresh (consA (varE 2) (consA (varE 3) nilA))) (consA (opE itemD (varE 4) (callE F_law_take (consA (varE 2) (consA (callE lenD (consA (varE 4) nilA)) nilA)))) nilA))) (tupG 2 (consG (nmG 6) (consG (nmG 7) nilG)))) (seqS (asgS (callE F_with_like (consA (varE 3) (consA (varE 5) (consA (varE 6) (consA (varE 7) nilA))))) (tupG 2 (consG (nmG 8) (consG (nmG 9) nilG)))) (seqS (q_law_0 A B) (seqS (q_law_2 A B) (seqS (q_law_3 A B) (seqS (q_law_4 A B) (seqS (asgS (tupE (consA (opE itemD (varE 4) (callE F_law_take (consA (varE 2) (consA (callE lenD (consA (varE 4) nilA)) nilA)))) (consA (opE subD (callE F_law_take (consA (varE 2) (consA (cE (.int 19)) nilA))) (cE (.int 9))) nilA))) (tupG 2 (consG (nmG 12) (consG (nmG 13) nilG)))) (seqS (asgS (callE F_gap_of (consA (varE 3) (consA (varE 5) (consA (varE 12) (consA (varE 7) nilA))))) (nmG 14)) (seqS (asgS (callE F_with_gap (consA (varE 3) (consA (varE 5) (consA (varE 12) (consA (varE 7) (consA (varE 13) nilA)))))) (nmG 15)) (seqS (q_law_5 A B) (seqS (q_law_6 A B) (seqS (asgS (frzE (lcX (rng1I (cE (.int 3))) [18] (nmG 18) yesT (callE F_law_text (consA (varE 2) (consA (varE 3) (consA (cE (.int 9)) nilA)))))) (nmG 16)) (seqS (asgS (callE tupleD (consA (opE addD (varE 16) (frzE (lcX (rng1I (cE (.int 2))) [18] (nmG 18) yesT (opE addD (opE addD (callE F_law_text (consA (varE 2) (consA (varE 3) (consA (cE (.int 9)) nilA)))) (varE 12)) (varE 7))))) nilA)) (nmG 16)) (seqS (asgS (frzE (lcX (seqI (varE 16)) [19] (nmG 19) yesT (opE neD (callE F_begins (consA (varE 3) (consA (varE 5) (consA (varE 19) nilA)))) (callE F_begins (consA (varE 3) (consA (varE 15) (consA (varE 19) nilA))))))) (nmG 17)) (q_law_7 A B)))))))))))))))))))
noncomputable def b_law (A B : Nat) : Sx := (seqS (q_law_8 A B) (retS (cE (.bool true))))
noncomputable def F_law (A B : Nat) : List D → Sto → R D := fnF 21 (b_law A B)
end DV.k75

set_option maxHeartbeats 4000000
namespace DV.k75
open PySem PySem.Spec PyProof.Rows L2 DV
def topS (i : Nat) : Stmt := PySem.Challenge.pw_stampgaps_k75_whole_growing_faces.main.body.getD i (.Pass ⟨0, 0, 0, 0⟩)
abbrev s_is_from_to : Stmt := topS 11
theorem sc_is_from_to : FnScope ["thing", "least", "most"] ["thing", "least", "most"] (defScope s_is_from_to) := ⟨rfl, rfl, rfl, by decide +kernel, rfl, by decide +kernel, by decide +kernel⟩
abbrev s_is_letter : Stmt := topS 12
theorem sc_is_letter : FnScope ["thing"] ["thing"] (defScope s_is_letter) := ⟨rfl, rfl, rfl, by decide +kernel, rfl, by decide +kernel, by decide +kernel⟩
abbrev s_is_wide : Stmt := topS 13
theorem sc_is_wide : FnScope ["thing"] ["thing"] (defScope s_is_wide) := ⟨rfl, rfl, rfl, by decide +kernel, rfl, by decide +kernel, by decide +kernel⟩
abbrev s_is_gap : Stmt := topS 14
theorem sc_is_gap : FnScope ["thing"] ["thing"] (defScope s_is_gap) := ⟨rfl, rfl, rfl, by decide +kernel, rfl, by decide +kernel, by decide +kernel⟩
abbrev s_is_face : Stmt := topS 15
theorem sc_is_face : FnScope ["thing", "one"] ["thing"] (defScope s_is_face) := ⟨rfl, rfl, rfl, by decide +kernel, rfl, by decide +kernel, by decide +kernel⟩
abbrev s_letters_of : Stmt := topS 16
theorem sc_letters_of : FnScope ["face", "one"] ["face"] (defScope s_letters_of) := ⟨rfl, rfl, rfl, by decide +kernel, rfl, by decide +kernel, by decide +kernel⟩
abbrev s_place_of : Stmt := topS 17
theorem sc_place_of : FnScope ["face", "thing", "place", "one"] ["face", "thing"] (defScope s_place_of) := ⟨rfl, rfl, rfl, by decide +kernel, rfl, by decide +kernel, by decide +kernel⟩
abbrev s_need_letter : Stmt := topS 18
theorem sc_need_letter : FnScope ["face", "thing", "place"] ["face", "thing"] (defScope s_need_letter) := ⟨rfl, rfl, rfl, by decide +kernel, rfl, by decide +kernel, by decide +kernel⟩
abbrev s_is_told : Stmt := topS 19
theorem sc_is_told : FnScope ["face", "thing", "ahead", "one", "left", "right"] ["face", "thing"] (defScope s_is_told) := ⟨rfl, rfl, rfl, by decide +kernel, rfl, by decide +kernel, by decide +kernel⟩
abbrev s_is_list : Stmt := topS 20
theorem sc_is_list : FnScope ["face", "thing", "left", "right", "gap"] ["face", "thing"] (defScope s_is_list) := ⟨rfl, rfl, rfl, by decide +kernel, rfl, by decide +kernel, by decide +kernel⟩
abbrev s_gap_in : Stmt := topS 21
theorem sc_gap_in : FnScope ["pairs", "left", "right", "one", "other", "gap"] ["pairs", "left", "right"] (defScope s_gap_in) := ⟨rfl, rfl, rfl, by decide +kernel, rfl, by decide +kernel, by decide +kernel⟩
abbrev s_gap_of : Stmt := topS 22
theorem sc_gap_of : FnScope ["face", "pairs", "left", "right"] ["face", "pairs", "left", "right"] (defScope s_gap_of) := ⟨rfl, rfl, rfl, by decide +kernel, rfl, by decide +kernel, by decide +kernel⟩
abbrev s_rows_of : Stmt := topS 23
theorem sc_rows_of : FnScope ["face", "pairs", "letters", "left", "right"] ["face", "pairs"] (defScope s_rows_of) := ⟨rfl, rfl, rfl, by decide +kernel, rfl, by decide +kernel, by decide +kernel⟩
abbrev s_from_rows : Stmt := topS 24
theorem sc_from_rows : FnScope ["face", "rows", "letters", "found", "left", "row", "right", "gap"] ["face", "rows"] (defScope s_from_rows) := ⟨rfl, rfl, rfl, by decide +kernel, rfl, by decide +kernel, by decide +kernel⟩
abbrev s_all_pairs : Stmt := topS 25
theorem sc_all_pairs : FnScope ["face", "found", "left", "right"] ["face"] (defScope s_all_pairs) := ⟨rfl, rfl, rfl, by decide +kernel, rfl, by decide +kernel, by decide +kernel⟩
abbrev s_changed : Stmt := topS 26
theorem sc_changed : FnScope ["face", "pairs", "other", "found", "left", "right"] ["face", "pairs", "other"] (defScope s_changed) := ⟨rfl, rfl, rfl, by decide +kernel, rfl, by decide +kernel, by decide +kernel⟩
abbrev s_is_sign : Stmt := topS 28
theorem sc_is_sign : FnScope ["face", "thing"] ["face", "thing"] (defScope s_is_sign) := ⟨rfl, rfl, rfl, by decide +kernel, rfl, by decide +kernel, by decide +kernel⟩
abbrev s_is_text : Stmt := topS 29
theorem sc_is_text : FnScope ["face", "thing", "sign"] ["face", "thing"] (defScope s_is_text) := ⟨rfl, rfl, rfl, by decide +kernel, rfl, by decide +kernel, by decide +kernel⟩
abbrev s_need_text : Stmt := topS 30
theorem sc_need_text : FnScope ["face", "thing"] ["face", "thing"] (defScope s_need_text) := ⟨rfl, rfl, rfl, by decide +kernel, rfl, by decide +kernel, by decide +kernel⟩
abbrev s_sign_width : Stmt := topS 31
theorem sc_sign_width : FnScope ["face", "sign"] ["face", "sign"] (defScope s_sign_width) := ⟨rfl, rfl, rfl, by decide +kernel, rfl, by decide +kernel, by decide +kernel⟩
abbrev s_between : Stmt := topS 32
theorem sc_between : FnScope ["pairs", "one", "other"] ["pairs", "one", "other"] (defScope s_between) := ⟨rfl, rfl, rfl, by decide +kernel, rfl, by decide +kernel, by decide +kernel⟩
abbrev s_begins_in : Stmt := topS 33
theorem sc_begins_in : FnScope ["face", "pairs", "text", "found", "here", "place", "sign"] ["face", "pairs", "text"] (defScope s_begins_in) := ⟨rfl, rfl, rfl, by decide +kernel, rfl, by decide +kernel, by decide +kernel⟩
abbrev s_begins : Stmt := topS 34
theorem sc_begins : FnScope ["face", "pairs", "text"] ["face", "pairs", "text"] (defScope s_begins) := ⟨rfl, rfl, rfl, by decide +kernel, rfl, by decide +kernel, by decide +kernel⟩
abbrev s_need_fresh : Stmt := topS 36
theorem sc_need_fresh : FnScope ["face", "letter"] ["face", "letter"] (defScope s_need_fresh) := ⟨rfl, rfl, rfl, by decide +kernel, rfl, by decide +kernel, by decide +kernel⟩
abbrev s_need_room : Stmt := topS 37
theorem sc_need_room : FnScope ["face"] ["face"] (defScope s_need_room) := ⟨rfl, rfl, rfl, by decide +kernel, rfl, by decide +kernel, by decide +kernel⟩
abbrev s_with_letter : Stmt := topS 38
theorem sc_with_letter : FnScope ["face", "letter", "width"] ["face", "letter", "width"] (defScope s_with_letter) := ⟨rfl, rfl, rfl, by decide +kernel, rfl, by decide +kernel, by decide +kernel⟩
abbrev s_with_like : Stmt := topS 39
theorem sc_with_like : FnScope ["face", "pairs", "letter", "other", "place", "later", "stands", "rows", "one", "left", "right"] ["face", "pairs", "letter", "other"] (defScope s_with_like) := ⟨rfl, rfl, rfl, by decide +kernel, rfl, by decide +kernel, by decide +kernel⟩
abbrev s_without_letter : Stmt := topS 40
theorem sc_without_letter : FnScope ["face", "pairs", "letter", "left", "one"] ["face", "pairs", "letter"] (defScope s_without_letter) := ⟨rfl, rfl, rfl, by decide +kernel, rfl, by decide +kernel, by decide +kernel⟩
abbrev s_with_gap : Stmt := topS 41
theorem sc_with_gap : FnScope ["face", "pairs", "left", "right", "gap", "letters", "rows", "one", "other"] ["face", "pairs", "left", "right", "gap"] (defScope s_with_gap) := ⟨rfl, rfl, rfl, by decide +kernel, rfl, by decide +kernel, by decide +kernel⟩
abbrev s_is_moved : Stmt := topS 42
theorem sc_is_moved : FnScope ["pairs", "other", "text", "one", "sign"] ["pairs", "other", "text"] (defScope s_is_moved) := ⟨rfl, rfl, rfl, by decide +kernel, rfl, by decide +kernel, by decide +kernel⟩
abbrev s_moved_lines : Stmt := topS 43
theorem sc_moved_lines : FnScope ["face", "pairs", "other", "texts", "text", "number"] ["face", "pairs", "other", "texts"] (defScope s_moved_lines) := ⟨rfl, rfl, rfl, by decide +kernel, rfl, by decide +kernel, by decide +kernel⟩
abbrev s_grouped : Stmt := topS 45
theorem sc_grouped : FnScope ["letters", "marks", "kinds", "mark", "letter", "own"] ["letters", "marks"] (defScope s_grouped) := ⟨rfl, rfl, rfl, by decide +kernel, rfl, by decide +kernel, by decide +kernel⟩
abbrev s_left_parting : Stmt := topS 46
theorem sc_left_parting : FnScope ["face", "pairs"] ["face", "pairs"] (defScope s_left_parting) := ⟨rfl, rfl, rfl, by decide +kernel, rfl, by decide +kernel, by decide +kernel⟩
abbrev s_columns_of : Stmt := topS 48
theorem sc_columns_of : FnScope ["face", "pairs", "letters", "right", "left"] ["face", "pairs"] (defScope s_columns_of) := ⟨rfl, rfl, rfl, by decide +kernel, rfl, by decide +kernel, by decide +kernel⟩
abbrev s_right_parting : Stmt := topS 47
theorem sc_right_parting : FnScope ["face", "pairs"] ["face", "pairs"] (defScope s_right_parting) := ⟨rfl, rfl, rfl, by decide +kernel, rfl, by decide +kernel, by decide +kernel⟩
abbrev s_law_box : Stmt := topS 50
theorem sc_law_box : FnScope ["_law_script", "_law_k", "_law_cell"] ["_law_script", "_law_k"] (defScope s_law_box) := ⟨rfl, rfl, rfl, by decide +kernel, rfl, by decide +kernel, by decide +kernel⟩
abbrev s_law_take : Stmt := topS 51
theorem sc_law_take : FnScope ["_law_box_here", "_law_many", "_law_digit", "_law_high"] ["_law_box_here", "_law_many"] (defScope s_law_take) := ⟨rfl, rfl, rfl, by decide +kernel, rfl, by decide +kernel, by decide +kernel⟩
abbrev s_law_face : Stmt := topS 52
theorem sc_law_face : FnScope ["_law_box_here", "_law_least", "_law_most", "_law_pool", "_law_many", "_law_letters_here", "_law_turn"] ["_law_box_here", "_law_least", "_law_most"] (defScope s_law_face) := ⟨rfl, rfl, rfl, by decide +kernel, rfl, by decide +kernel, by decide +kernel⟩
abbrev s_law_letters : Stmt := topS 53
theorem sc_law_letters : FnScope ["_law_face_here", "_law_one"] ["_law_face_here"] (defScope s_law_letters) := ⟨rfl, rfl, rfl, by decide +kernel, rfl, by decide +kernel, by decide +kernel⟩
abbrev s_law_rows : Stmt := topS 54
theorem sc_law_rows : FnScope ["_law_box_here", "_law_many", "_law_firsts", "_law_seconds", "_law_near", "_law_gaps", "_law_rows_here", "_law_turn", "_law_place", "_law_first", "_law_second"] ["_law_box_here", "_law_many"] (defScope s_law_rows) := ⟨rfl, rfl, rfl, by decide +kernel, rfl, by decide +kernel, by decide +kernel⟩
abbrev s_law_list : Stmt := topS 55
theorem sc_law_list : FnScope ["_law_face_here", "_law_rows_here", "_law_letters_here", "_law_found", "_law_left", "_law_row", "_law_right", "_law_gap"] ["_law_face_here", "_law_rows_here"] (defScope s_law_list) := ⟨rfl, rfl, rfl, by decide +kernel, rfl, by decide +kernel, by decide +kernel⟩
abbrev s_law_pairs : Stmt := topS 56
theorem sc_law_pairs : FnScope ["_law_box_here", "_law_face_here"] ["_law_box_here", "_law_face_here"] (defScope s_law_pairs) := ⟨rfl, rfl, rfl, by decide +kernel, rfl, by decide +kernel, by decide +kernel⟩
abbrev s_law_text : Stmt := topS 57
theorem sc_law_text : FnScope ["_law_box_here", "_law_face_here", "_law_most", "_law_signs", "_law_place"] ["_law_box_here", "_law_face_here", "_law_most"] (defScope s_law_text) := ⟨rfl, rfl, rfl, by decide +kernel, rfl, by decide +kernel, by decide +kernel⟩
abbrev s_law_fresh : Stmt := topS 58
theorem sc_law_fresh : FnScope ["_law_box_here", "_law_face_here", "_law_letters_here", "_law_some", "_law_letter"] ["_law_box_here", "_law_face_here"] (defScope s_law_fresh) := ⟨rfl, rfl, rfl, by decide +kernel, rfl, by decide +kernel, by decide +kernel⟩
abbrev s_law : Stmt := topS 59
theorem sc_law : FnScope ["_law_script", "_law_k", "_law_box_here", "_law_face_here", "_law_letters_here", "_law_pairs_here", "_law_letter", "_law_other", "_law_later", "_law_more", "_law_parting", "_law_due", "_law_one", "_law_gap", "_law_elder", "_law_turned", "_law_texts", "_law_moved", "_law_line", "_law_text_here", "_law_number"] ["_law_script"] (defScope s_law) := ⟨rfl, rfl, rfl, by decide +kernel, rfl, by decide +kernel, by decide +kernel⟩
section
variable {P : Program} {w : World} {K : PySem.W.Frag} {mg : Str → Option Value} {base : Heap}
theorem ok_is_from_to {f : Addr} {fd : FuncData} (F0 : L2.Fun K "is_from_to" "is_from_to" s_is_from_to f fd) (m_isinstance : mg "isinstance" = none) (m_int : mg "int" = none) (m_bool : mg "bool" = none) : FnD P w K mg base 1 f fd ["thing", "least", "most"] F_is_from_to :=
  dfn F0 sc_is_from_to (fun _ _ _ _ _ _ o => (dss_one (ds_ret (de_and (de_isi (T := "int") m_isinstance m_int (de_var 0)) (de_and (de_not (de_isi (T := "bool") m_isinstance m_bool (de_var 0))) (de_one (de_chain do_le do_le (de_var 1) (de_var 0) (de_var 2))))))))
theorem ok_is_letter {f : Addr} {fd : FuncData} (F0 : L2.Fun K "is_letter" "is_letter" s_is_letter f fd) (m_isinstance : mg "isinstance" = none) (m_str : mg "str" = none) (m_len : mg "len" = none) {t_LETTERS : Tok} (c_LETTERS : mg "LETTERS" = some (.str "abcdefghijklmnopqrstuvwxyz" t_LETTERS)) : FnD P w K mg base 1 f fd ["thing"] F_is_letter :=
  dfn F0 sc_is_letter (fun _ _ _ _ _ _ o => (dss_one (ds_ret (de_and (de_isi (T := "str") m_isinstance m_str (de_var 0)) (de_and (de_cmp (do_eq o) (de_callB dc_len m_len boot_len (da_cons (de_var 0) da_nil)) de_int) (de_one (de_cmp (do_in o) (de_var 0) (de_gstr c_LETTERS))))))))
theorem ok_is_wide {f : Addr} {fd : FuncData} (F0 : L2.Fun K "is_wide" "is_wide" s_is_wide f fd) {f_is_from_to : Addr} {fd_is_from_to : FuncData} (G_is_from_to : FnD P w K mg base 1 f_is_from_to fd_is_from_to ["thing", "least", "most"] F_is_from_to) (A_is_from_to : At K mg "is_from_to" f_is_from_to fd_is_from_to ["thing", "least", "most"]) : FnD P w K mg base 2 f fd ["thing"] F_is_wide :=
  dfn F0 sc_is_wide (fun _ _ _ _ _ _ o => (dss_one (ds_ret (de_call o G_is_from_to A_is_from_to (by decide) (da_cons (de_var 0) (da_cons de_int (da_cons de_int da_nil)))))))
theorem ok_is_gap {f : Addr} {fd : FuncData} (F0 : L2.Fun K "is_gap" "is_gap" s_is_gap f fd) {f_is_from_to : Addr} {fd_is_from_to : FuncData} (G_is_from_to : FnD P w K mg base 1 f_is_from_to fd_is_from_to ["thing", "least", "most"] F_is_from_to) (A_is_from_to : At K mg "is_from_to" f_is_from_to fd_is_from_to ["thing", "least", "most"]) {t_FAR : Tok} (c_FAR : mg "FAR" = some (.int 9 t_FAR)) : FnD P w K mg base 2 f fd ["thing"] F_is_gap :=
  dfn F0 sc_is_gap (fun _ _ _ _ _ _ o => (dss_one (ds_ret (de_call o G_is_from_to A_is_from_to (by decide) (da_cons (de_var 0) (da_cons (de_bin do_sub de_int (de_gint c_FAR)) (da_cons (de_gint c_FAR) da_nil)))))))
theorem ok_is_face {f : Addr} {fd : FuncData} (F0 : L2.Fun K "is_face" "is_face" s_is_face f fd) {f_is_from_to : Addr} {fd_is_from_to : FuncData} (G_is_from_to : FnD P w K mg base 1 f_is_from_to fd_is_from_to ["thing", "least", "most"] F_is_from_to) (A_is_from_to : At K mg "is_from_to" f_is_from_to fd_is_from_to ["thing", "least", "most"]) {f_is_letter : Addr} {fd_is_letter : FuncData} (G_is_letter : FnD P w K mg base 1 f_is_letter fd_is_letter ["thing"] F_is_letter) (A_is_letter : At K mg "is_letter" f_is_letter fd_is_letter ["thing"]) {f_is_wide : Addr} {fd_is_wide : FuncData} (G_is_wide : FnD P w K mg base 2 f_is_wide fd_is_wide ["thing"] F_is_wide) (A_is_wide : At K mg "is_wide" f_is_wide fd_is_wide ["thing"]) (m_isinstance : mg "isinstance" = none) (m_tuple : mg "tuple" = none) (m_len : mg "len" = none) (m_set : mg "set" = none) {t_MOST_LETTERS : Tok} (c_MOST_LETTERS : mg "MOST_LETTERS" = some (.int 10 t_MOST_LETTERS)) : FnD P w K mg base 3 f fd ["thing"] F_is_face :=
  dfn F0 sc_is_face (fun _ _ _ _ _ _ o => (dss_cons (ds_if (dt_w (dw_or (dt_not (dt_val (de_isi (T := "tuple") m_isinstance m_tuple (de_var 0)))) (dw_or (dt_cmp (do_ne o) (de_callB dc_len m_len boot_len (da_cons (de_var 0) da_nil)) de_int) (dw_or1 (dt_not (dt_val (de_call o G_is_from_to A_is_from_to (by decide) (da_cons (de_item (de_var 0) de_int) (da_cons de_int (da_cons de_int da_nil)))))))))) (dss_one (ds_ret de_bl)) dss_nil) (dss_cons (ds_if (dt_w (dw_or (dt_not (dt_val (de_isi (T := "tuple") m_isinstance m_tuple (de_item (de_var 0) de_int)))) (dw_or1 (dt_not (dt_chain do_le do_le de_int (de_callB dc_len m_len boot_len (da_cons (de_item (de_var 0) de_int) da_nil)) (de_gint c_MOST_LETTERS)))))) (dss_one (ds_ret de_bl)) dss_nil) (dss_cons (ds_for (vs := [1]) o (di_seq (de_item (de_var 0) de_int)) (dg_name 1 o.nd) (dss_one (ds_if (dt_w (dw_or (dt_not (dt_val (de_isi (T := "tuple") m_isinstance m_tuple (de_var 1)))) (dw_or (dt_cmp (do_ne o) (de_callB dc_len m_len boot_len (da_cons (de_var 1) da_nil)) de_int) (dw_or (dt_not (dt_val (de_call o G_is_letter A_is_letter (by decide) (da_cons (de_item (de_var 1) de_int) da_nil)))) (dw_or1 (dt_not (dt_val (de_call o G_is_wide A_is_wide (by decide) (da_cons (de_item (de_var 1) de_int) da_nil))))))))) (dss_one (ds_ret de_bl)) dss_nil))) (dss_one (ds_ret (de_cmp (do_eq o) (de_lensetX o m_len m_set (de_frz (dl_lc [("one", 1)] o (di_seq (de_item (de_var 0) de_int)) (fun _ _ _ _ _ o => (dg_name 1 o.nd)) (fun _ _ _ _ _ o => dts_nil) (fun _ _ _ _ _ o => (de_item (de_var 1) de_int))))) (de_callB dc_len m_len boot_len (da_cons (de_item (de_var 0) de_int) da_nil)))))))))
theorem ok_letters_of {f : Addr} {fd : FuncData} (F0 : L2.Fun K "letters_of" "letters_of" s_letters_of f fd) (m_tuple : mg "tuple" = none) : FnD P w K mg base 1 f fd ["face"] F_letters_of :=
  dfn F0 sc_letters_of (fun _ _ _ _ _ _ o => (dss_one (ds_ret (de_callTy dc_tuple m_tuple PyProof.Rows.boot_tuple (da_cons (de_frz (dl_lc [("one", 1)] o (di_seq (de_item (de_var 0) de_int)) (fun _ _ _ _ _ o => (dg_name 1 o.nd)) (fun _ _ _ _ _ o => dts_nil) (fun _ _ _ _ _ o => (de_item (de_var 1) de_int)))) da_nil)))))
theorem ok_place_of {f : Addr} {fd : FuncData} (F0 : L2.Fun K "place_of" "place_of" s_place_of f fd) (m_enumerate : mg "enumerate" = none) : FnD P w K mg base 1 f fd ["face", "thing"] F_place_of :=
  dfn F0 sc_place_of (fun _ _ _ _ _ _ o => (dss_cons (ds_for (vs := [2, 3]) o (di_enum m_enumerate (de_item (de_var 0) de_int)) (dg_tup o.calm (dgs_cons (dg_name 2 o.nd) (dgs_cons (dg_name 3 o.nd) dgs_nil))) (dss_one (ds_if (dt_cmp (do_eq o) (de_item (de_var 3) de_int) (de_var 1)) (dss_one (ds_ret (de_var 2))) dss_nil))) (dss_one (ds_ret de_non))))
theorem ok_need_letter {f : Addr} {fd : FuncData} (F0 : L2.Fun K "need_letter" "need_letter" s_need_letter f fd) {f_place_of : Addr} {fd_place_of : FuncData} (G_place_of : FnD P w K mg base 1 f_place_of fd_place_of ["face", "thing"] F_place_of) (A_place_of : At K mg "place_of" f_place_of fd_place_of ["face", "thing"]) {a_NoLetter : Addr} (X_NoLetter : ExcAt K mg "NoLetter" a_NoLetter) : FnD P w K mg base 2 f fd ["face", "thing"] F_need_letter :=
  dfn F0 sc_need_letter (fun _ _ _ _ _ _ o => (dss_cons (ds_set 2 o.nd (de_call o G_place_of A_place_of (by decide) (da_cons (de_var 0) (da_cons (de_var 1) da_nil)))) (dss_cons (ds_if (dt_cmp do_is (de_var 2) de_non) (dss_one (ds_raise o X_NoLetter)) dss_nil) (dss_one (ds_ret (de_var 2))))))
theorem ok_is_told {f : Addr} {fd : FuncData} (F0 : L2.Fun K "is_told" "is_told" s_is_told f fd) {f_is_gap : Addr} {fd_is_gap : FuncData} (G_is_gap : FnD P w K mg base 2 f_is_gap fd_is_gap ["thing"] F_is_gap) (A_is_gap : At K mg "is_gap" f_is_gap fd_is_gap ["thing"]) {f_place_of : Addr} {fd_place_of : FuncData} (G_place_of : FnD P w K mg base 1 f_place_of fd_place_of ["face", "thing"] F_place_of) (A_place_of : At K mg "place_of" f_place_of fd_place_of ["face", "thing"]) (m_isinstance : mg "isinstance" = none) (m_tuple : mg "tuple" = none) (m_len : mg "len" = none) : FnD P w K mg base 3 f fd ["face", "thing"] F_is_told :=
  dfn F0 sc_is_told (fun _ _ _ _ _ _ o => (dss_cons (ds_if (dt_not (dt_val (de_isi (T := "tuple") m_isinstance m_tuple (de_var 1)))) (dss_one (ds_ret de_bl)) dss_nil) (dss_cons (ds_set 2 o.nd (de_tup (da_cons (de_un du_neg de_int) (da_cons (de_un du_neg de_int) da_nil)))) (dss_cons (ds_for (vs := [3]) o (di_seq (de_var 1)) (dg_name 3 o.nd) (dss_cons (ds_if (dt_w (dw_or (dt_not (dt_val (de_isi (T := "tuple") m_isinstance m_tuple (de_var 3)))) (dw_or (dt_cmp (do_ne o) (de_callB dc_len m_len boot_len (da_cons (de_var 3) da_nil)) de_int) (dw_or1 (dt_not (dt_val (de_call o G_is_gap A_is_gap (by decide) (da_cons (de_item (de_var 3) de_int) da_nil)))))))) (dss_one (ds_ret de_bl)) dss_nil) (dss_cons (ds_par o.calm o.nd (da_cons (de_call o G_place_of A_place_of (by decide) (da_cons (de_var 0) (da_cons (de_item (de_var 3) de_int) da_nil))) (da_cons (de_call o G_place_of A_place_of (by decide) (da_cons (de_var 0) (da_cons (de_item (de_var 3) de_int) da_nil))) da_nil))) (dss_cons (ds_if (dt_w (dw_or (dt_cmp do_is (de_var 4) de_non) (dw_or (dt_cmp do_is (de_var 5) de_non) (dw_or1 (dt_cmp (do_leT o) (de_tup (da_cons (de_var 4) (da_cons (de_var 5) da_nil))) (de_var 2)))))) (dss_one (ds_ret de_bl)) dss_nil) (dss_one (ds_set 2 o.nd (de_tup (da_cons (de_var 4) (da_cons (de_var 5) da_nil))))))))) (dss_one (ds_ret de_bl))))))
theorem ok_is_list {f : Addr} {fd : FuncData} (F0 : L2.Fun K "is_list" "is_list" s_is_list f fd) {f_is_told : Addr} {fd_is_told : FuncData} (G_is_told : FnD P w K mg base 3 f_is_told fd_is_told ["face", "thing"] F_is_told) (A_is_told : At K mg "is_told" f_is_told fd_is_told ["face", "thing"]) (m_all : mg "all" = none) : FnD P w K mg base 4 f fd ["face", "thing"] F_is_list :=
  dfn F0 sc_is_list (fun _ _ _ _ _ _ o => (dss_one (ds_ret (de_and (de_call o G_is_told A_is_told (by decide) (da_cons (de_var 0) (da_cons (de_var 1) da_nil))) (de_one (de_callB (dc_all o) m_all rfl (da_cons (de_frz (dl_lc [("left", 2), ("right", 3), ("gap", 4)] o (di_seq (de_var 1)) (fun _ _ _ _ _ o => (dg_tup o.calm (dgs_cons (dg_name 2 o.nd) (dgs_cons (dg_name 3 o.nd) (dgs_cons (dg_name 4 o.nd) dgs_nil))))) (fun _ _ _ _ _ o => dts_nil) (fun _ _ _ _ _ o => (de_cmp (do_ne o) (de_var 4) de_int)))) da_nil)))))))
theorem ok_gap_in {f : Addr} {fd : FuncData} (F0 : L2.Fun K "gap_in" "gap_in" s_gap_in f fd) : FnD P w K mg base 1 f fd ["pairs", "left", "right"] F_gap_in :=
  dfn F0 sc_gap_in (fun _ _ _ _ _ _ o => (dss_cons (ds_for (vs := [3, 4, 5]) o (di_seq (de_var 0)) (dg_tup o.calm (dgs_cons (dg_name 3 o.nd) (dgs_cons (dg_name 4 o.nd) (dgs_cons (dg_name 5 o.nd) dgs_nil)))) (dss_one (ds_if (dt_w (dw_and (dt_cmp (do_eq o) (de_var 3) (de_var 1)) (dw_and1 (dt_cmp (do_eq o) (de_var 4) (de_var 2))))) (dss_one (ds_ret (de_var 5))) dss_nil))) (dss_one (ds_ret de_int))))
theorem ok_gap_of {f : Addr} {fd : FuncData} (F0 : L2.Fun K "gap_of" "gap_of" s_gap_of f fd) {f_need_letter : Addr} {fd_need_letter : FuncData} (G_need_letter : FnD P w K mg base 2 f_need_letter fd_need_letter ["face", "thing"] F_need_letter) (A_need_letter : At K mg "need_letter" f_need_letter fd_need_letter ["face", "thing"]) {f_gap_in : Addr} {fd_gap_in : FuncData} (G_gap_in : FnD P w K mg base 1 f_gap_in fd_gap_in ["pairs", "left", "right"] F_gap_in) (A_gap_in : At K mg "gap_in" f_gap_in fd_gap_in ["pairs", "left", "right"]) : FnD P w K mg base 3 f fd ["face", "pairs", "left", "right"] F_gap_of :=
  dfn F0 sc_gap_of (fun _ _ _ _ _ _ o => (dss_cons (ds_expr (de_call o G_need_letter A_need_letter (by decide) (da_cons (de_var 0) (da_cons (de_var 2) da_nil)))) (dss_cons (ds_expr (de_call o G_need_letter A_need_letter (by decide) (da_cons (de_var 0) (da_cons (de_var 3) da_nil)))) (dss_one (ds_ret (de_call o G_gap_in A_gap_in (by decide) (da_cons (de_var 1) (da_cons (de_var 2) (da_cons (de_var 3) da_nil)))))))))
theorem ok_rows_of {f : Addr} {fd : FuncData} (F0 : L2.Fun K "rows_of" "rows_of" s_rows_of f fd) {f_letters_of : Addr} {fd_letters_of : FuncData} (G_letters_of : FnD P w K mg base 1 f_letters_of fd_letters_of ["face"] F_letters_of) (A_letters_of : At K mg "letters_of" f_letters_of fd_letters_of ["face"]) {f_gap_in : Addr} {fd_gap_in : FuncData} (G_gap_in : FnD P w K mg base 1 f_gap_in fd_gap_in ["pairs", "left", "right"] F_gap_in) (A_gap_in : At K mg "gap_in" f_gap_in fd_gap_in ["pairs", "left", "right"]) (m_tuple : mg "tuple" = none) : FnD P w K mg base 2 f fd ["face", "pairs"] F_rows_of :=
  dfn F0 sc_rows_of (fun _ _ _ _ _ _ o => (dss_cons (ds_set 2 o.nd (de_call o G_letters_of A_letters_of (by decide) (da_cons (de_var 0) da_nil))) (dss_one (ds_ret (de_callTy dc_tuple m_tuple PyProof.Rows.boot_tuple (da_cons (de_frz (dl_lc [("left", 3)] o (di_seq (de_var 2)) (fun _ _ _ _ _ o => (dg_name 3 o.nd)) (fun _ _ _ _ _ o => dts_nil) (fun _ _ _ _ _ o => (de_callTy dc_tuple m_tuple PyProof.Rows.boot_tuple (da_cons (de_frz (dl_lc [("right", 4)] o (di_seq (de_var 2)) (fun _ _ _ _ _ o => (dg_name 4 o.nd)) (fun _ _ _ _ _ o => dts_nil) (fun _ _ _ _ _ o => (de_call o G_gap_in A_gap_in (by decide) (da_cons (de_var 1) (da_cons (de_var 3) (da_cons (de_var 4) da_nil))))))) da_nil))))) da_nil))))))
theorem ok_from_rows {f : Addr} {fd : FuncData} (F0 : L2.Fun K "from_rows" "from_rows" s_from_rows f fd) {f_letters_of : Addr} {fd_letters_of : FuncData} (G_letters_of : FnD P w K mg base 1 f_letters_of fd_letters_of ["face"] F_letters_of) (A_letters_of : At K mg "letters_of" f_letters_of fd_letters_of ["face"]) (m_zip : mg "zip" = none) (m_tuple : mg "tuple" = none) : FnD P w K mg base 2 f fd ["face", "rows"] F_from_rows :=
  dfn F0 sc_from_rows (fun _ _ _ _ _ _ o => (dss_cons (ds_set 2 o.nd (de_call o G_letters_of A_letters_of (by decide) (da_cons (de_var 0) da_nil))) (dss_cons (ds_set 3 o.nd (de_thw (dl_lst da_nil))) (dss_cons (ds_for (vs := [4, 5]) o (di_zip m_zip o.calm (de_var 2) (de_var 1)) (dg_tup o.calm (dgs_cons (dg_name 4 o.nd) (dgs_cons (dg_name 5 o.nd) dgs_nil))) (dss_one (ds_expr (de_extend (de_var 3) (dl_lc [("right", 6), ("gap", 7)] o (di_zip m_zip o.calm (de_var 2) (de_var 5)) (fun _ _ _ _ _ o => (dg_tup o.calm (dgs_cons (dg_name 6 o.nd) (dgs_cons (dg_name 7 o.nd) dgs_nil)))) (fun _ _ _ _ _ o => (dts_one (dt_cmp (do_ne o) (de_var 7) de_int))) (fun _ _ _ _ _ o => (de_tup (da_cons (de_var 4) (da_cons (de_var 6) (da_cons (de_var 7) da_nil)))))))))) (dss_one (ds_ret (de_callTy dc_tuple m_tuple PyProof.Rows.boot_tuple (da_cons (de_var 3) da_nil))))))))
theorem ok_all_pairs {f : Addr} {fd : FuncData} (F0 : L2.Fun K "all_pairs" "all_pairs" s_all_pairs f fd) {f_letters_of : Addr} {fd_letters_of : FuncData} (G_letters_of : FnD P w K mg base 1 f_letters_of fd_letters_of ["face"] F_letters_of) (A_letters_of : At K mg "letters_of" f_letters_of fd_letters_of ["face"]) : FnD P w K mg base 2 f fd ["face"] F_all_pairs :=
  dfn F0 sc_all_pairs (fun _ _ _ _ _ _ o => (dss_cons (ds_set 1 o.nd (de_thw (dl_lst da_nil))) (dss_cons (ds_for (vs := [2]) o (di_seq (de_call o G_letters_of A_letters_of (by decide) (da_cons (de_var 0) da_nil))) (dg_name 2 o.nd) (dss_one (ds_expr (de_extend (de_var 1) (dl_lc [("right", 3)] o (di_seq (de_call o G_letters_of A_letters_of (by decide) (da_cons (de_var 0) da_nil))) (fun _ _ _ _ _ o => (dg_name 3 o.nd)) (fun _ _ _ _ _ o => dts_nil) (fun _ _ _ _ _ o => (de_tup (da_cons (de_var 2) (da_cons (de_var 3) da_nil))))))))) (dss_fix 1 (dss_one (ds_ret (de_var 1)))))))
theorem ok_changed {f : Addr} {fd : FuncData} (F0 : L2.Fun K "changed" "changed" s_changed f fd) {f_all_pairs : Addr} {fd_all_pairs : FuncData} (G_all_pairs : FnD P w K mg base 2 f_all_pairs fd_all_pairs ["face"] F_all_pairs) (A_all_pairs : At K mg "all_pairs" f_all_pairs fd_all_pairs ["face"]) {f_gap_in : Addr} {fd_gap_in : FuncData} (G_gap_in : FnD P w K mg base 1 f_gap_in fd_gap_in ["pairs", "left", "right"] F_gap_in) (A_gap_in : At K mg "gap_in" f_gap_in fd_gap_in ["pairs", "left", "right"]) (m_tuple : mg "tuple" = none) : FnD P w K mg base 3 f fd ["face", "pairs", "other"] F_changed :=
  dfn F0 sc_changed (fun _ _ _ _ _ _ o => (dss_cons (ds_set 3 o.nd (de_thw (dl_lst da_nil))) (dss_cons (ds_for (vs := [4, 5]) o (di_seq (de_call o G_all_pairs A_all_pairs (by decide) (da_cons (de_var 0) da_nil))) (dg_tup o.calm (dgs_cons (dg_name 4 o.nd) (dgs_cons (dg_name 5 o.nd) dgs_nil))) (dss_one (ds_if (dt_cmp (do_ne o) (de_call o G_gap_in A_gap_in (by decide) (da_cons (de_var 1) (da_cons (de_var 4) (da_cons (de_var 5) da_nil)))) (de_call o G_gap_in A_gap_in (by decide) (da_cons (de_var 2) (da_cons (de_var 4) (da_cons (de_var 5) da_nil))))) (dss_one (ds_expr (de_methL PySem.F.slot_list_append PySem.F.type_list_append dm_append (de_var 3) (da_cons (de_tup (da_cons (de_var 4) (da_cons (de_var 5) da_nil))) da_nil)))) dss_nil))) (dss_one (ds_ret (de_callTy dc_tuple m_tuple PyProof.Rows.boot_tuple (da_cons (de_var 3) da_nil)))))))
theorem ok_is_sign {f : Addr} {fd : FuncData} (F0 : L2.Fun K "is_sign" "is_sign" s_is_sign f fd) {f_place_of : Addr} {fd_place_of : FuncData} (G_place_of : FnD P w K mg base 1 f_place_of fd_place_of ["face", "thing"] F_place_of) (A_place_of : At K mg "place_of" f_place_of fd_place_of ["face", "thing"]) : FnD P w K mg base 2 f fd ["face", "thing"] F_is_sign :=
  dfn F0 sc_is_sign (fun _ _ _ _ _ _ o => (dss_one (ds_ret (de_or (de_cmp (do_eq o) (de_var 1) de_str) (de_one (de_cmp do_isnot (de_call o G_place_of A_place_of (by decide) (da_cons (de_var 0) (da_cons (de_var 1) da_nil))) de_non))))))
theorem ok_is_text {f : Addr} {fd : FuncData} (F0 : L2.Fun K "is_text" "is_text" s_is_text f fd) {f_is_sign : Addr} {fd_is_sign : FuncData} (G_is_sign : FnD P w K mg base 2 f_is_sign fd_is_sign ["face", "thing"] F_is_sign) (A_is_sign : At K mg "is_sign" f_is_sign fd_is_sign ["face", "thing"]) (m_isinstance : mg "isinstance" = none) (m_str : mg "str" = none) (m_all : mg "all" = none) : FnD P w K mg base 3 f fd ["face", "thing"] F_is_text :=
  dfn F0 sc_is_text (fun _ _ _ _ _ _ o => (dss_one (ds_ret (de_and (de_isi (T := "str") m_isinstance m_str (de_var 1)) (de_one (de_callB (dc_all o) m_all rfl (da_cons (de_frz (dl_lc [("sign", 2)] o (di_txt (de_var 1)) (fun _ _ _ _ _ o => (dg_name 2 o.nd)) (fun _ _ _ _ _ o => dts_nil) (fun _ _ _ _ _ o => (de_call o G_is_sign A_is_sign (by decide) (da_cons (de_var 0) (da_cons (de_var 2) da_nil)))))) da_nil)))))))
theorem ok_need_text {f : Addr} {fd : FuncData} (F0 : L2.Fun K "need_text" "need_text" s_need_text f fd) {f_is_text : Addr} {fd_is_text : FuncData} (G_is_text : FnD P w K mg base 3 f_is_text fd_is_text ["face", "thing"] F_is_text) (A_is_text : At K mg "is_text" f_is_text fd_is_text ["face", "thing"]) {a_NoLine : Addr} (X_NoLine : ExcAt K mg "NoLine" a_NoLine) : FnD P w K mg base 4 f fd ["face", "thing"] F_need_text :=
  dfn F0 sc_need_text (fun _ _ _ _ _ _ o => (dss_one (ds_if (dt_not (dt_val (de_call o G_is_text A_is_text (by decide) (da_cons (de_var 0) (da_cons (de_var 1) da_nil))))) (dss_one (ds_raise o X_NoLine)) dss_nil)))
theorem ok_sign_width {f : Addr} {fd : FuncData} (F0 : L2.Fun K "sign_width" "sign_width" s_sign_width f fd) {f_place_of : Addr} {fd_place_of : FuncData} (G_place_of : FnD P w K mg base 1 f_place_of fd_place_of ["face", "thing"] F_place_of) (A_place_of : At K mg "place_of" f_place_of fd_place_of ["face", "thing"]) : FnD P w K mg base 2 f fd ["face", "sign"] F_sign_width :=
  dfn F0 sc_sign_width (fun _ _ _ _ _ _ o => (dss_cons (ds_if (dt_cmp (do_eq o) (de_var 1) de_str) (dss_one (ds_ret (de_item (de_var 0) de_int))) dss_nil) (dss_one (ds_ret (de_item (de_item (de_item (de_var 0) de_int) (de_call o G_place_of A_place_of (by decide) (da_cons (de_var 0) (da_cons (de_var 1) da_nil)))) de_int)))))
theorem ok_between {f : Addr} {fd : FuncData} (F0 : L2.Fun K "between" "between" s_between f fd) {f_gap_in : Addr} {fd_gap_in : FuncData} (G_gap_in : FnD P w K mg base 1 f_gap_in fd_gap_in ["pairs", "left", "right"] F_gap_in) (A_gap_in : At K mg "gap_in" f_gap_in fd_gap_in ["pairs", "left", "right"]) : FnD P w K mg base 2 f fd ["pairs", "one", "other"] F_between :=
  dfn F0 sc_between (fun _ _ _ _ _ _ o => (dss_cons (ds_if (dt_w (dw_or (dt_cmp (do_eq o) (de_var 1) de_str) (dw_or1 (dt_cmp (do_eq o) (de_var 2) de_str)))) (dss_one (ds_ret de_int)) dss_nil) (dss_one (ds_ret (de_call o G_gap_in A_gap_in (by decide) (da_cons (de_var 0) (da_cons (de_var 1) (da_cons (de_var 2) da_nil))))))))
theorem ok_begins_in {f : Addr} {fd : FuncData} (F0 : L2.Fun K "begins_in" "begins_in" s_begins_in f fd) {f_sign_width : Addr} {fd_sign_width : FuncData} (G_sign_width : FnD P w K mg base 2 f_sign_width fd_sign_width ["face", "sign"] F_sign_width) (A_sign_width : At K mg "sign_width" f_sign_width fd_sign_width ["face", "sign"]) {f_between : Addr} {fd_between : FuncData} (G_between : FnD P w K mg base 2 f_between fd_between ["pairs", "one", "other"] F_between) (A_between : At K mg "between" f_between fd_between ["pairs", "one", "other"]) (m_enumerate : mg "enumerate" = none) (m_tuple : mg "tuple" = none) : FnD P w K mg base 3 f fd ["face", "pairs", "text"] F_begins_in :=
  dfn F0 sc_begins_in (fun _ _ _ _ _ _ o => (dss_cons (ds_set 3 o.nd (de_thw (dl_lst da_nil))) (dss_cons (ds_set 4 o.nd de_int) (dss_cons (ds_for (vs := [5, 6]) o (di_enum m_enumerate (de_var 2)) (dg_tup o.calm (dgs_cons (dg_name 5 o.nd) (dgs_cons (dg_name 6 o.nd) dgs_nil))) (dss_cons (ds_if (dt_cmp do_gt (de_var 5) de_int) (dss_one (ds_set 4 o.nd (de_bin do_add (de_bin do_add (de_var 4) (de_call o G_sign_width A_sign_width (by decide) (da_cons (de_var 0) (da_cons (de_item (de_var 2) (de_bin do_sub (de_var 5) de_int)) da_nil)))) (de_call o G_between A_between (by decide) (da_cons (de_var 1) (da_cons (de_item (de_var 2) (de_bin do_sub (de_var 5) de_int)) (da_cons (de_var 6) da_nil))))))) dss_nil) (dss_one (ds_expr (de_methL PySem.F.slot_list_append PySem.F.type_list_append dm_append (de_var 3) (da_cons (de_var 4) da_nil)))))) (dss_one (ds_ret (de_callTy dc_tuple m_tuple PyProof.Rows.boot_tuple (da_cons (de_var 3) da_nil))))))))
theorem ok_begins {f : Addr} {fd : FuncData} (F0 : L2.Fun K "begins" "begins" s_begins f fd) {f_need_text : Addr} {fd_need_text : FuncData} (G_need_text : FnD P w K mg base 4 f_need_text fd_need_text ["face", "thing"] F_need_text) (A_need_text : At K mg "need_text" f_need_text fd_need_text ["face", "thing"]) {f_begins_in : Addr} {fd_begins_in : FuncData} (G_begins_in : FnD P w K mg base 3 f_begins_in fd_begins_in ["face", "pairs", "text"] F_begins_in) (A_begins_in : At K mg "begins_in" f_begins_in fd_begins_in ["face", "pairs", "text"]) : FnD P w K mg base 5 f fd ["face", "pairs", "text"] F_begins :=
  dfn F0 sc_begins (fun _ _ _ _ _ _ o => (dss_cons (ds_expr (de_call o G_need_text A_need_text (by decide) (da_cons (de_var 0) (da_cons (de_var 2) da_nil)))) (dss_one (ds_ret (de_call o G_begins_in A_begins_in (by decide) (da_cons (de_var 0) (da_cons (de_var 1) (da_cons (de_var 2) da_nil))))))))
theorem ok_need_fresh {f : Addr} {fd : FuncData} (F0 : L2.Fun K "need_fresh" "need_fresh" s_need_fresh f fd) {f_is_letter : Addr} {fd_is_letter : FuncData} (G_is_letter : FnD P w K mg base 1 f_is_letter fd_is_letter ["thing"] F_is_letter) (A_is_letter : At K mg "is_letter" f_is_letter fd_is_letter ["thing"]) {f_place_of : Addr} {fd_place_of : FuncData} (G_place_of : FnD P w K mg base 1 f_place_of fd_place_of ["face", "thing"] F_place_of) (A_place_of : At K mg "place_of" f_place_of fd_place_of ["face", "thing"]) {a_NoLetter : Addr} (X_NoLetter : ExcAt K mg "NoLetter" a_NoLetter) : FnD P w K mg base 2 f fd ["face", "letter"] F_need_fresh :=
  dfn F0 sc_need_fresh (fun _ _ _ _ _ _ o => (dss_one (ds_if (dt_w (dw_or (dt_not (dt_val (de_call o G_is_letter A_is_letter (by decide) (da_cons (de_var 1) da_nil)))) (dw_or1 (dt_cmp do_isnot (de_call o G_place_of A_place_of (by decide) (da_cons (de_var 0) (da_cons (de_var 1) da_nil))) de_non)))) (dss_one (ds_raise o X_NoLetter)) dss_nil)))
theorem ok_need_room {f : Addr} {fd : FuncData} (F0 : L2.Fun K "need_room" "need_room" s_need_room f fd) (m_len : mg "len" = none) {t_MOST_LETTERS : Tok} (c_MOST_LETTERS : mg "MOST_LETTERS" = some (.int 10 t_MOST_LETTERS)) {a_TooMany : Addr} (X_TooMany : ExcAt K mg "TooMany" a_TooMany) : FnD P w K mg base 1 f fd ["face"] F_need_room :=
  dfn F0 sc_need_room (fun _ _ _ _ _ _ o => (dss_one (ds_if (dt_cmp do_ge (de_callB dc_len m_len boot_len (da_cons (de_item (de_var 0) de_int) da_nil)) (de_gint c_MOST_LETTERS)) (dss_one (ds_raise o X_TooMany)) dss_nil)))
theorem ok_with_letter {f : Addr} {fd : FuncData} (F0 : L2.Fun K "with_letter" "with_letter" s_with_letter f fd) {f_need_fresh : Addr} {fd_need_fresh : FuncData} (G_need_fresh : FnD P w K mg base 2 f_need_fresh fd_need_fresh ["face", "letter"] F_need_fresh) (A_need_fresh : At K mg "need_fresh" f_need_fresh fd_need_fresh ["face", "letter"]) {f_is_wide : Addr} {fd_is_wide : FuncData} (G_is_wide : FnD P w K mg base 2 f_is_wide fd_is_wide ["thing"] F_is_wide) (A_is_wide : At K mg "is_wide" f_is_wide fd_is_wide ["thing"]) {f_need_room : Addr} {fd_need_room : FuncData} (G_need_room : FnD P w K mg base 1 f_need_room fd_need_room ["face"] F_need_room) (A_need_room : At K mg "need_room" f_need_room fd_need_room ["face"]) {a_NoNumber : Addr} (X_NoNumber : ExcAt K mg "NoNumber" a_NoNumber) : FnD P w K mg base 3 f fd ["face", "letter", "width"] F_with_letter :=
  dfn F0 sc_with_letter (fun _ _ _ _ _ _ o => (dss_cons (ds_expr (de_call o G_need_fresh A_need_fresh (by decide) (da_cons (de_var 0) (da_cons (de_var 1) da_nil)))) (dss_cons (ds_if (dt_not (dt_val (de_call o G_is_wide A_is_wide (by decide) (da_cons (de_var 2) da_nil)))) (dss_one (ds_raise o X_NoNumber)) dss_nil) (dss_cons (ds_expr (de_call o G_need_room A_need_room (by decide) (da_cons (de_var 0) da_nil))) (dss_one (ds_ret (de_tup (da_cons (de_item (de_var 0) de_int) (da_cons (de_bin do_add (de_item (de_var 0) de_int) (de_tup (da_cons (de_tup (da_cons (de_var 1) (da_cons (de_var 2) da_nil))) da_nil))) da_nil)))))))))
theorem ok_with_like {f : Addr} {fd : FuncData} (F0 : L2.Fun K "with_like" "with_like" s_with_like f fd) {f_need_fresh : Addr} {fd_need_fresh : FuncData} (G_need_fresh : FnD P w K mg base 2 f_need_fresh fd_need_fresh ["face", "letter"] F_need_fresh) (A_need_fresh : At K mg "need_fresh" f_need_fresh fd_need_fresh ["face", "letter"]) {f_need_letter : Addr} {fd_need_letter : FuncData} (G_need_letter : FnD P w K mg base 2 f_need_letter fd_need_letter ["face", "thing"] F_need_letter) (A_need_letter : At K mg "need_letter" f_need_letter fd_need_letter ["face", "thing"]) {f_need_room : Addr} {fd_need_room : FuncData} (G_need_room : FnD P w K mg base 1 f_need_room fd_need_room ["face"] F_need_room) (A_need_room : At K mg "need_room" f_need_room fd_need_room ["face"]) {f_letters_of : Addr} {fd_letters_of : FuncData} (G_letters_of : FnD P w K mg base 1 f_letters_of fd_letters_of ["face"] F_letters_of) (A_letters_of : At K mg "letters_of" f_letters_of fd_letters_of ["face"]) {f_gap_in : Addr} {fd_gap_in : FuncData} (G_gap_in : FnD P w K mg base 1 f_gap_in fd_gap_in ["pairs", "left", "right"] F_gap_in) (A_gap_in : At K mg "gap_in" f_gap_in fd_gap_in ["pairs", "left", "right"]) {f_from_rows : Addr} {fd_from_rows : FuncData} (G_from_rows : FnD P w K mg base 2 f_from_rows fd_from_rows ["face", "rows"] F_from_rows) (A_from_rows : At K mg "from_rows" f_from_rows fd_from_rows ["face", "rows"]) : FnD P w K mg base 3 f fd ["face", "pairs", "letter", "other"] F_with_like :=
  dfn F0 sc_with_like (fun _ _ _ _ _ _ o => (dss_cons (ds_expr (de_call o G_need_fresh A_need_fresh (by decide) (da_cons (de_var 0) (da_cons (de_var 2) da_nil)))) (dss_cons (ds_set 4 o.nd (de_call o G_need_letter A_need_letter (by decide) (da_cons (de_var 0) (da_cons (de_var 3) da_nil)))) (dss_cons (ds_expr (de_call o G_need_room A_need_room (by decide) (da_cons (de_var 0) da_nil))) (dss_cons (ds_set 5 o.nd (de_tup (da_cons (de_item (de_var 0) de_int) (da_cons (de_bin do_add (de_item (de_var 0) de_int) (de_tup (da_cons (de_tup (da_cons (de_var 2) (da_cons (de_item (de_item (de_item (de_var 0) de_int) (de_var 4)) de_int) da_nil))) da_nil))) da_nil)))) (dss_cons (ds_set 6 o.nd (de_frz (dl_lc [("one", 8)] o (di_seq (de_call o G_letters_of A_letters_of (by decide) (da_cons (de_var 5) da_nil))) (fun _ _ _ _ _ o => (dg_name 8 o.nd)) (fun _ _ _ _ _ o => dts_nil) (fun _ _ _ _ _ o => (de_ife (dt_cmp (do_eq o) (de_var 8) (de_var 2)) (de_var 3) (de_var 8)))))) (dss_cons (ds_setLcF 7 [("left", 9)] o (di_seq (de_var 6)) (fun _ _ _ _ _ o => (dg_name 9 o.nd)) (fun _ _ _ _ _ o => dts_nil) (fun _ _ _ _ _ o => (de_frz (dl_lc [("right", 10)] o (di_seq (de_var 6)) (fun _ _ _ _ _ o => (dg_name 10 o.nd)) (fun _ _ _ _ _ o => dts_nil) (fun _ _ _ _ _ o => (de_call o G_gap_in A_gap_in (by decide) (da_cons (de_var 1) (da_cons (de_var 9) (da_cons (de_var 10) da_nil))))))))) (dss_one (ds_ret (de_tup (da_cons (de_var 5) (da_cons (de_call o G_from_rows A_from_rows (by decide) (da_cons (de_var 5) (da_cons (de_var 7) da_nil))) da_nil))))))))))))
theorem ok_without_letter {f : Addr} {fd : FuncData} (F0 : L2.Fun K "without_letter" "without_letter" s_without_letter f fd) {f_need_letter : Addr} {fd_need_letter : FuncData} (G_need_letter : FnD P w K mg base 2 f_need_letter fd_need_letter ["face", "thing"] F_need_letter) (A_need_letter : At K mg "need_letter" f_need_letter fd_need_letter ["face", "thing"]) (m_len : mg "len" = none) (m_tuple : mg "tuple" = none) {a_NoLetter : Addr} (X_NoLetter : ExcAt K mg "NoLetter" a_NoLetter) : FnD P w K mg base 3 f fd ["face", "pairs", "letter"] F_without_letter :=
  dfn F0 sc_without_letter (fun _ _ _ _ _ _ o => (dss_cons (ds_expr (de_call o G_need_letter A_need_letter (by decide) (da_cons (de_var 0) (da_cons (de_var 2) da_nil)))) (dss_cons (ds_if (dt_cmp (do_eq o) (de_callB dc_len m_len boot_len (da_cons (de_item (de_var 0) de_int) da_nil)) de_int) (dss_one (ds_raise o X_NoLetter)) dss_nil) (dss_cons (ds_set 3 o.nd (de_callTy dc_tuple m_tuple PyProof.Rows.boot_tuple (da_cons (de_frz (dl_lc [("one", 4)] o (di_seq (de_item (de_var 0) de_int)) (fun _ _ _ _ _ o => (dg_name 4 o.nd)) (fun _ _ _ _ _ o => (dts_one (dt_cmp (do_ne o) (de_item (de_var 4) de_int) (de_var 2)))) (fun _ _ _ _ _ o => (de_var 4)))) da_nil))) (dss_one (ds_ret (de_tup (da_cons (de_tup (da_cons (de_item (de_var 0) de_int) (da_cons (de_var 3) da_nil))) (da_cons (de_callTy dc_tuple m_tuple PyProof.Rows.boot_tuple (da_cons (de_frz (dl_lc [("one", 4)] o (di_seq (de_var 1)) (fun _ _ _ _ _ o => (dg_name 4 o.nd)) (fun _ _ _ _ _ o => (dts_one (dt_cmp (do_notin o) (de_var 2) (de_slice (de_var 4) dp_none (dp_some de_int))))) (fun _ _ _ _ _ o => (de_var 4)))) da_nil)) da_nil)))))))))
theorem ok_with_gap {f : Addr} {fd : FuncData} (F0 : L2.Fun K "with_gap" "with_gap" s_with_gap f fd) {f_need_letter : Addr} {fd_need_letter : FuncData} (G_need_letter : FnD P w K mg base 2 f_need_letter fd_need_letter ["face", "thing"] F_need_letter) (A_need_letter : At K mg "need_letter" f_need_letter fd_need_letter ["face", "thing"]) {f_is_gap : Addr} {fd_is_gap : FuncData} (G_is_gap : FnD P w K mg base 2 f_is_gap fd_is_gap ["thing"] F_is_gap) (A_is_gap : At K mg "is_gap" f_is_gap fd_is_gap ["thing"]) {f_letters_of : Addr} {fd_letters_of : FuncData} (G_letters_of : FnD P w K mg base 1 f_letters_of fd_letters_of ["face"] F_letters_of) (A_letters_of : At K mg "letters_of" f_letters_of fd_letters_of ["face"]) {f_gap_in : Addr} {fd_gap_in : FuncData} (G_gap_in : FnD P w K mg base 1 f_gap_in fd_gap_in ["pairs", "left", "right"] F_gap_in) (A_gap_in : At K mg "gap_in" f_gap_in fd_gap_in ["pairs", "left", "right"]) {f_from_rows : Addr} {fd_from_rows : FuncData} (G_from_rows : FnD P w K mg base 2 f_from_rows fd_from_rows ["face", "rows"] F_from_rows) (A_from_rows : At K mg "from_rows" f_from_rows fd_from_rows ["face", "rows"]) {a_NoGap : Addr} (X_NoGap : ExcAt K mg "NoGap" a_NoGap) : FnD P w K mg base 3 f fd ["face", "pairs", "left", "right", "gap"] F_with_gap :=
  dfn F0 sc_with_gap (fun _ _ _ _ _ _ o => (dss_cons (ds_expr (de_call o G_need_letter A_need_letter (by decide) (da_cons (de_var 0) (da_cons (de_var 2) da_nil)))) (dss_cons (ds_expr (de_call o G_need_letter A_need_letter (by decide) (da_cons (de_var 0) (da_cons (de_var 3) da_nil)))) (dss_cons (ds_if (dt_not (dt_val (de_call o G_is_gap A_is_gap (by decide) (da_cons (de_var 4) da_nil)))) (dss_one (ds_raise o X_NoGap)) dss_nil) (dss_cons (ds_set 5 o.nd (de_call o G_letters_of A_letters_of (by decide) (da_cons (de_var 0) da_nil))) (dss_cons (ds_setLcM 6 [("one", 7)] o (di_seq (de_var 5)) (fun _ _ _ _ _ o => (dg_name 7 o.nd)) (fun _ _ _ _ _ o => dts_nil) (fun _ _ _ _ _ o => (de_thw (dl_lc [("other", 8)] o (di_seq (de_var 5)) (fun _ _ _ _ _ o => (dg_name 8 o.nd)) (fun _ _ _ _ _ o => dts_nil) (fun _ _ _ _ _ o => (de_call o G_gap_in A_gap_in (by decide) (da_cons (de_var 1) (da_cons (de_var 7) (da_cons (de_var 8) da_nil))))))))) (dss_cons (ds_asg (vs := []) (de_var 4) (dg_ix (de_item (de_var 6) (de_indexT (de_var 5) (da_cons (de_var 2) da_nil))) (de_indexT (de_var 5) (da_cons (de_var 3) da_nil)))) (dss_fix2 6 (dss_one (ds_ret (de_call o G_from_rows A_from_rows (by decide) (da_cons (de_var 0) (da_cons (de_var 6) da_nil)))))))))))))
theorem ok_is_moved {f : Addr} {fd : FuncData} (F0 : L2.Fun K "is_moved" "is_moved" s_is_moved f fd) {f_between : Addr} {fd_between : FuncData} (G_between : FnD P w K mg base 2 f_between fd_between ["pairs", "one", "other"] F_between) (A_between : At K mg "between" f_between fd_between ["pairs", "one", "other"]) (m_zip : mg "zip" = none) (m_any : mg "any" = none) : FnD P w K mg base 3 f fd ["pairs", "other", "text"] F_is_moved :=
  dfn F0 sc_is_moved (fun _ _ _ _ _ _ o => (dss_one (ds_ret (de_callB (dc_any o) m_any rfl (da_cons (de_frz (dl_lc [("one", 3), ("sign", 4)] o (di_zip m_zip o.calm (de_var 2) (de_slice (de_var 2) (dp_some de_int) dp_none)) (fun _ _ _ _ _ o => (dg_tup o.calm (dgs_cons (dg_name 3 o.nd) (dgs_cons (dg_name 4 o.nd) dgs_nil)))) (fun _ _ _ _ _ o => dts_nil) (fun _ _ _ _ _ o => (de_cmp (do_ne o) (de_call o G_between A_between (by decide) (da_cons (de_var 0) (da_cons (de_var 3) (da_cons (de_var 4) da_nil)))) (de_call o G_between A_between (by decide) (da_cons (de_var 1) (da_cons (de_var 3) (da_cons (de_var 4) da_nil)))))))) da_nil)))))
theorem ok_moved_lines {f : Addr} {fd : FuncData} (F0 : L2.Fun K "moved_lines" "moved_lines" s_moved_lines f fd) {f_need_text : Addr} {fd_need_text : FuncData} (G_need_text : FnD P w K mg base 4 f_need_text fd_need_text ["face", "thing"] F_need_text) (A_need_text : At K mg "need_text" f_need_text fd_need_text ["face", "thing"]) {f_is_moved : Addr} {fd_is_moved : FuncData} (G_is_moved : FnD P w K mg base 3 f_is_moved fd_is_moved ["pairs", "other", "text"] F_is_moved) (A_is_moved : At K mg "is_moved" f_is_moved fd_is_moved ["pairs", "other", "text"]) (m_isinstance : mg "isinstance" = none) (m_tuple : mg "tuple" = none) (m_enumerate : mg "enumerate" = none) {a_NoLine : Addr} (X_NoLine : ExcAt K mg "NoLine" a_NoLine) : FnD P w K mg base 5 f fd ["face", "pairs", "other", "texts"] F_moved_lines :=
  dfn F0 sc_moved_lines (fun _ _ _ _ _ _ o => (dss_cons (ds_if (dt_not (dt_val (de_isi (T := "tuple") m_isinstance m_tuple (de_var 3)))) (dss_one (ds_raise o X_NoLine)) dss_nil) (dss_cons (ds_for (vs := [4]) o (di_seq (de_var 3)) (dg_name 4 o.nd) (dss_one (ds_expr (de_call o G_need_text A_need_text (by decide) (da_cons (de_var 0) (da_cons (de_var 4) da_nil)))))) (dss_one (ds_ret (de_callTy dc_tuple m_tuple PyProof.Rows.boot_tuple (da_cons (de_frz (dl_lc [("number", 5), ("text", 4)] o (di_enum m_enumerate (de_var 3)) (fun _ _ _ _ _ o => (dg_tup o.calm (dgs_cons (dg_name 5 o.nd) (dgs_cons (dg_name 4 o.nd) dgs_nil)))) (fun _ _ _ _ _ o => (dts_one (dt_val (de_call o G_is_moved A_is_moved (by decide) (da_cons (de_var 1) (da_cons (de_var 2) (da_cons (de_var 4) da_nil))))))) (fun _ _ _ _ _ o => (de_var 5)))) da_nil)))))))
theorem ok_grouped {f : Addr} {fd : FuncData} (F0 : L2.Fun K "grouped" "grouped" s_grouped f fd) (m_zip : mg "zip" = none) (m_tuple : mg "tuple" = none) : FnD P w K mg base 1 f fd ["letters", "marks"] F_grouped :=
  dfn F0 sc_grouped (fun _ _ _ _ _ _ o => (dss_cons (ds_set 2 o.nd (de_thw (dl_lst da_nil))) (dss_cons (ds_for (vs := [3]) o (di_seq (de_var 1)) (dg_name 3 o.nd) (dss_one (ds_if (dt_cmp (do_notin o) (de_var 3) (de_var 2)) (dss_one (ds_expr (de_methL PySem.F.slot_list_append PySem.F.type_list_append dm_append (de_var 2) (da_cons (de_var 3) da_nil)))) dss_nil))) (dss_fix 2 (dss_one (ds_ret (de_callTy dc_tuple m_tuple PyProof.Rows.boot_tuple (da_cons (de_frz (dl_lc [("mark", 3)] o (di_seq (de_var 2)) (fun _ _ _ _ _ o => (dg_name 3 o.nd)) (fun _ _ _ _ _ o => dts_nil) (fun _ _ _ _ _ o => (de_callTy dc_tuple m_tuple PyProof.Rows.boot_tuple (da_cons (de_frz (dl_lc [("letter", 4), ("own", 5)] o (di_zip m_zip o.calm (de_var 0) (de_var 1)) (fun _ _ _ _ _ o => (dg_tup o.calm (dgs_cons (dg_name 4 o.nd) (dgs_cons (dg_name 5 o.nd) dgs_nil)))) (fun _ _ _ _ _ o => (dts_one (dt_cmp (do_eq o) (de_var 5) (de_var 3)))) (fun _ _ _ _ _ o => (de_var 4)))) da_nil))))) da_nil))))))))
theorem ok_left_parting {f : Addr} {fd : FuncData} (F0 : L2.Fun K "left_parting" "left_parting" s_left_parting f fd) {f_grouped : Addr} {fd_grouped : FuncData} (G_grouped : FnD P w K mg base 1 f_grouped fd_grouped ["letters", "marks"] F_grouped) (A_grouped : At K mg "grouped" f_grouped fd_grouped ["letters", "marks"]) {f_rows_of : Addr} {fd_rows_of : FuncData} (G_rows_of : FnD P w K mg base 2 f_rows_of fd_rows_of ["face", "pairs"] F_rows_of) (A_rows_of : At K mg "rows_of" f_rows_of fd_rows_of ["face", "pairs"]) {f_letters_of : Addr} {fd_letters_of : FuncData} (G_letters_of : FnD P w K mg base 1 f_letters_of fd_letters_of ["face"] F_letters_of) (A_letters_of : At K mg "letters_of" f_letters_of fd_letters_of ["face"]) : FnD P w K mg base 3 f fd ["face", "pairs"] F_left_parting :=
  dfn F0 sc_left_parting (fun _ _ _ _ _ _ o => (dss_one (ds_ret (de_call o G_grouped A_grouped (by decide) (da_cons (de_call o G_letters_of A_letters_of (by decide) (da_cons (de_var 0) da_nil)) (da_cons (de_call o G_rows_of A_rows_of (by decide) (da_cons (de_var 0) (da_cons (de_var 1) da_nil))) da_nil))))))
theorem ok_columns_of {f : Addr} {fd : FuncData} (F0 : L2.Fun K "columns_of" "columns_of" s_columns_of f fd) {f_letters_of : Addr} {fd_letters_of : FuncData} (G_letters_of : FnD P w K mg base 1 f_letters_of fd_letters_of ["face"] F_letters_of) (A_letters_of : At K mg "letters_of" f_letters_of fd_letters_of ["face"]) {f_gap_in : Addr} {fd_gap_in : FuncData} (G_gap_in : FnD P w K mg base 1 f_gap_in fd_gap_in ["pairs", "left", "right"] F_gap_in) (A_gap_in : At K mg "gap_in" f_gap_in fd_gap_in ["pairs", "left", "right"]) (m_tuple : mg "tuple" = none) : FnD P w K mg base 2 f fd ["face", "pairs"] F_columns_of :=
  dfn F0 sc_columns_of (fun _ _ _ _ _ _ o => (dss_cons (ds_set 2 o.nd (de_call o G_letters_of A_letters_of (by decide) (da_cons (de_var 0) da_nil))) (dss_one (ds_ret (de_frz (dl_lc [("right", 3)] o (di_seq (de_var 2)) (fun _ _ _ _ _ o => (dg_name 3 o.nd)) (fun _ _ _ _ _ o => dts_nil) (fun _ _ _ _ _ o => (de_callTy dc_tuple m_tuple PyProof.Rows.boot_tuple (da_cons (de_frz (dl_lc [("left", 4)] o (di_seq (de_var 2)) (fun _ _ _ _ _ o => (dg_name 4 o.nd)) (fun _ _ _ _ _ o => dts_nil) (fun _ _ _ _ _ o => (de_call o G_gap_in A_gap_in (by decide) (da_cons (de_var 1) (da_cons (de_var 4) (da_cons (de_var 3) da_nil))))))) da_nil)))))))))
theorem ok_right_parting {f : Addr} {fd : FuncData} (F0 : L2.Fun K "right_parting" "right_parting" s_right_parting f fd) {f_grouped : Addr} {fd_grouped : FuncData} (G_grouped : FnD P w K mg base 1 f_grouped fd_grouped ["letters", "marks"] F_grouped) (A_grouped : At K mg "grouped" f_grouped fd_grouped ["letters", "marks"]) {f_columns_of : Addr} {fd_columns_of : FuncData} (G_columns_of : FnD P w K mg base 2 f_columns_of fd_columns_of ["face", "pairs"] F_columns_of) (A_columns_of : At K mg "columns_of" f_columns_of fd_columns_of ["face", "pairs"]) {f_letters_of : Addr} {fd_letters_of : FuncData} (G_letters_of : FnD P w K mg base 1 f_letters_of fd_letters_of ["face"] F_letters_of) (A_letters_of : At K mg "letters_of" f_letters_of fd_letters_of ["face"]) : FnD P w K mg base 3 f fd ["face", "pairs"] F_right_parting :=
  dfn F0 sc_right_parting (fun _ _ _ _ _ _ o => (dss_one (ds_ret (de_call o G_grouped A_grouped (by decide) (da_cons (de_call o G_letters_of A_letters_of (by decide) (da_cons (de_var 0) da_nil)) (da_cons (de_call o G_columns_of A_columns_of (by decide) (da_cons (de_var 0) (da_cons (de_var 1) da_nil))) da_nil))))))
theorem ok_law_box {f : Addr} {fd : FuncData} (F0 : L2.Fun K "_law_box" "_law_box" s_law_box f fd) (m_len : mg "len" = none) (m_abs : mg "abs" = none) : FnD P w K mg base 1 f fd ["_law_script", "_law_k"] F_law_box :=
  dfn F0 sc_law_box (fun _ _ _ _ _ _ o => (dss_cons (ds_set 2 o.nd (de_bin do_add (de_bin do_mul de_int (de_var 1)) de_int)) (dss_cons (ds_if (dt_cmp (do_ltX o) (de_var 1) (de_callB dc_len m_len boot_len (da_cons (de_var 0) da_nil))) (dss_one (ds_set 2 o.nd (de_item (de_var 0) (de_var 1)))) dss_nil) (dss_cons (ds_if (dt_cmp (do_eq o) (de_bin do_mod (de_var 2) de_int) de_int) (dss_one (ds_ret (de_thw (dl_lst (da_cons (de_bin do_fdiv (de_callB dc_abs m_abs PyProof.Rows.boot_abs (da_cons (de_var 2) da_nil)) de_int) (da_cons (de_bin do_add (de_bin do_add (de_bin do_mod (de_var 2) de_int) (de_bin do_mul de_int (de_var 1))) de_int) da_nil)))))) dss_nil) (dss_one (ds_ret (de_thw (dl_lst (da_cons de_int (da_cons (de_bin do_add (de_bin do_add (de_bin do_mod (de_var 2) de_int) (de_bin do_mul de_int (de_var 1))) de_int) da_nil))))))))))
theorem ok_law_take {f : Addr} {fd : FuncData} (F0 : L2.Fun K "_law_take" "_law_take" s_law_take f fd) (m_divmod : mg "divmod" = none) : FnD P w K mg base 1 f fd ["_law_box_here", "_law_many"] F_law_take :=
  dfn F0 sc_law_take (fun _ _ _ _ _ _ o => (dss_cons (ds_if (dt_cmp do_gt (de_item (de_var 0) de_int) de_int) (dss_cons (ds_asg (vs := [2]) (de_callB dc_divmod m_divmod PyProof.Rows.boot_divmod (da_cons (de_item (de_var 0) de_int) (da_cons (de_var 1) da_nil))) (dg_tup o.calm (dgs_cons (dg_ix (de_var 0) de_int) (dgs_cons (dg_name 2 o.nd) dgs_nil)))) (dss_one (ds_ret (de_var 2)))) dss_nil) (dss_cons (ds_asg (vs := []) (de_bin do_mod (de_bin do_add (de_bin do_mul (de_item (de_var 0) de_int) de_int) de_int) de_int) (dg_ix (de_var 0) de_int)) (dss_cons (ds_set 3 o.nd (de_bin do_add (de_bin do_fdiv (de_item (de_var 0) de_int) de_int) de_int)) (dss_one (ds_ret (de_bin do_mod (de_bin do_fdiv (de_bin do_mod (de_bin do_mul (de_bin do_mul (de_var 3) (de_var 3)) (de_var 3)) de_int) de_int) (de_var 1))))))))
theorem ok_law_face {f : Addr} {fd : FuncData} (F0 : L2.Fun K "_law_face" "_law_face" s_law_face f fd) {f_law_take : Addr} {fd_law_take : FuncData} (G_law_take : FnD P w K mg base 1 f_law_take fd_law_take ["_law_box_here", "_law_many"] F_law_take) (A_law_take : At K mg "_law_take" f_law_take fd_law_take ["_law_box_here", "_law_many"]) (m_list : mg "list" = none) (m_range : mg "range" = none) (m_len : mg "len" = none) (m_tuple : mg "tuple" = none) : FnD P w K mg base 2 f fd ["_law_box_here", "_law_least", "_law_most"] F_law_face :=
  dfn F0 sc_law_face (fun _ _ _ _ _ _ o => (dss_cons (ds_set 3 o.nd (de_thw (dl_callTy (dcl_list o) m_list PyProof.Rows.boot_list (da_cons de_str da_nil)))) (dss_cons (ds_set 4 o.nd (de_bin do_add (de_var 1) (de_call o G_law_take A_law_take (by decide) (da_cons (de_var 0) (da_cons (de_bin do_add (de_bin do_sub (de_var 2) (de_var 1)) de_int) da_nil))))) (dss_cons (ds_setLcF 5 [("_law_turn", 6)] o (di_rng1 m_range (de_var 4)) (fun _ _ _ _ _ o => (dg_name 6 o.nd)) (fun _ _ _ _ _ o => dts_nil) (fun _ _ _ _ _ o => (de_tup (da_cons (de_methL PySem.F.slot_list_pop PySem.F.type_list_pop dm_pop (de_var 3) (da_cons (de_call o G_law_take A_law_take (by decide) (da_cons (de_var 0) (da_cons (de_callB dc_len m_len boot_len (da_cons (de_var 3) da_nil)) da_nil))) da_nil)) (da_cons (de_bin do_add de_int (de_call o G_law_take A_law_take (by decide) (da_cons (de_var 0) (da_cons de_int da_nil)))) da_nil))))) (dss_one (ds_ret (de_tup (da_cons (de_bin do_add de_int (de_call o G_law_take A_law_take (by decide) (da_cons (de_var 0) (da_cons de_int da_nil)))) (da_cons (de_callTy dc_tuple m_tuple PyProof.Rows.boot_tuple (da_cons (de_var 5) da_nil)) da_nil)))))))))
theorem ok_law_letters {f : Addr} {fd : FuncData} (F0 : L2.Fun K "_law_letters" "_law_letters" s_law_letters f fd) : FnD P w K mg base 1 f fd ["_law_face_here"] F_law_letters :=
  dfn F0 sc_law_letters (fun _ _ _ _ _ _ o => (dss_one (ds_ret (de_frz (dl_lc [("_law_one", 1)] o (di_seq (de_item (de_var 0) de_int)) (fun _ _ _ _ _ o => (dg_name 1 o.nd)) (fun _ _ _ _ _ o => dts_nil) (fun _ _ _ _ _ o => (de_item (de_var 1) de_int)))))))
theorem ok_law_rows {f : Addr} {fd : FuncData} (F0 : L2.Fun K "_law_rows" "_law_rows" s_law_rows f fd) {f_law_take : Addr} {fd_law_take : FuncData} (G_law_take : FnD P w K mg base 1 f_law_take fd_law_take ["_law_box_here", "_law_many"] F_law_take) (A_law_take : At K mg "_law_take" f_law_take fd_law_take ["_law_box_here", "_law_many"]) (m_range : mg "range" = none) : FnD P w K mg base 2 f fd ["_law_box_here", "_law_many"] F_law_rows :=
  dfn F0 sc_law_rows (fun _ _ _ _ _ _ o => (dss_cons (ds_setLcF 2 [("_law_place", 8)] o (di_rng1 m_range (de_var 1)) (fun _ _ _ _ _ o => (dg_name 8 o.nd)) (fun _ _ _ _ _ o => dts_nil) (fun _ _ _ _ _ o => (de_call o G_law_take A_law_take (by decide) (da_cons (de_var 0) (da_cons de_int da_nil))))) (dss_cons (ds_set 3 o.nd (de_frz (dl_lc [("_law_place", 8)] o (di_rng1 m_range (de_var 1)) (fun _ _ _ _ _ o => (dg_name 8 o.nd)) (fun _ _ _ _ _ o => dts_nil) (fun _ _ _ _ _ o => (de_call o G_law_take A_law_take (by decide) (da_cons (de_var 0) (da_cons de_int da_nil))))))) (dss_cons (ds_set 4 o.nd (de_frz (dl_lst (da_cons de_int (da_cons de_int (da_cons de_int (da_cons (de_un du_neg de_int) (da_cons de_int (da_cons (de_un du_neg de_int) (da_cons de_int da_nil)))))))))) (dss_cons (ds_set 5 o.nd (de_frz (dl_lc [("_law_first", 9)] o (di_rng1 m_range de_int) (fun _ _ _ _ _ o => (dg_name 9 o.nd)) (fun _ _ _ _ _ o => dts_nil) (fun _ _ _ _ _ o => (de_frz (dl_lc [("_law_second", 10)] o (di_rng1 m_range de_int) (fun _ _ _ _ _ o => (dg_name 10 o.nd)) (fun _ _ _ _ _ o => dts_nil) (fun _ _ _ _ _ o => (de_item (de_var 4) (de_call o G_law_take A_law_take (by decide) (da_cons (de_var 0) (da_cons de_int da_nil))))))))))) (dss_cons (ds_setLcM 6 [("_law_first", 9)] o (di_seq (de_var 2)) (fun _ _ _ _ _ o => (dg_name 9 o.nd)) (fun _ _ _ _ _ o => dts_nil) (fun _ _ _ _ _ o => (de_thw (dl_lc [("_law_second", 10)] o (di_seq (de_var 3)) (fun _ _ _ _ _ o => (dg_name 10 o.nd)) (fun _ _ _ _ _ o => dts_nil) (fun _ _ _ _ _ o => (de_item (de_item (de_var 5) (de_var 9)) (de_var 10))))))) (dss_cons (ds_for (vs := [7]) o (di_rng1 m_range (de_call o G_law_take A_law_take (by decide) (da_cons (de_var 0) (da_cons de_int da_nil)))) (dg_name 7 o.nd) (dss_one (ds_asg (vs := []) (de_bin do_sub (de_call o G_law_take A_law_take (by decide) (da_cons (de_var 0) (da_cons de_int da_nil))) de_int) (dg_ix (de_item (de_var 6) (de_call o G_law_take A_law_take (by decide) (da_cons (de_var 0) (da_cons (de_var 1) da_nil)))) (de_call o G_law_take A_law_take (by decide) (da_cons (de_var 0) (da_cons (de_var 1) da_nil))))))) (dss_fix2 6 (dss_one (ds_ret (de_var 6)))))))))))
theorem ok_law_list {f : Addr} {fd : FuncData} (F0 : L2.Fun K "_law_list" "_law_list" s_law_list f fd) {f_law_letters : Addr} {fd_law_letters : FuncData} (G_law_letters : FnD P w K mg base 1 f_law_letters fd_law_letters ["_law_face_here"] F_law_letters) (A_law_letters : At K mg "_law_letters" f_law_letters fd_law_letters ["_law_face_here"]) (m_zip : mg "zip" = none) (m_tuple : mg "tuple" = none) : FnD P w K mg base 2 f fd ["_law_face_here", "_law_rows_here"] F_law_list :=
  dfn F0 sc_law_list (fun _ _ _ _ _ _ o => (dss_cons (ds_set 2 o.nd (de_call o G_law_letters A_law_letters (by decide) (da_cons (de_var 0) da_nil))) (dss_cons (ds_set 3 o.nd (de_thw (dl_lst da_nil))) (dss_cons (ds_for (vs := [4, 5]) o (di_zip m_zip o.calm (de_var 2) (de_var 1)) (dg_tup o.calm (dgs_cons (dg_name 4 o.nd) (dgs_cons (dg_name 5 o.nd) dgs_nil))) (dss_one (ds_for (vs := [6, 7]) o (di_zip m_zip o.calm (de_var 2) (de_var 5)) (dg_tup o.calm (dgs_cons (dg_name 6 o.nd) (dgs_cons (dg_name 7 o.nd) dgs_nil))) (dss_one (ds_if (dt_cmp (do_ne o) (de_var 7) de_int) (dss_one (ds_expr (de_methL PySem.F.slot_list_append PySem.F.type_list_append dm_append (de_var 3) (da_cons (de_tup (da_cons (de_var 4) (da_cons (de_var 6) (da_cons (de_var 7) da_nil)))) da_nil)))) dss_nil))))) (dss_one (ds_ret (de_callTy dc_tuple m_tuple PyProof.Rows.boot_tuple (da_cons (de_var 3) da_nil))))))))
theorem ok_law_pairs {f : Addr} {fd : FuncData} (F0 : L2.Fun K "_law_pairs" "_law_pairs" s_law_pairs f fd) {f_law_list : Addr} {fd_law_list : FuncData} (G_law_list : FnD P w K mg base 2 f_law_list fd_law_list ["_law_face_here", "_law_rows_here"] F_law_list) (A_law_list : At K mg "_law_list" f_law_list fd_law_list ["_law_face_here", "_law_rows_here"]) {f_law_rows : Addr} {fd_law_rows : FuncData} (G_law_rows : FnD P w K mg base 2 f_law_rows fd_law_rows ["_law_box_here", "_law_many"] F_law_rows) (A_law_rows : At K mg "_law_rows" f_law_rows fd_law_rows ["_law_box_here", "_law_many"]) (m_len : mg "len" = none) : FnD P w K mg base 3 f fd ["_law_box_here", "_law_face_here"] F_law_pairs :=
  dfn F0 sc_law_pairs (fun _ _ _ _ _ _ o => (dss_one (ds_ret (de_call o G_law_list A_law_list (by decide) (da_cons (de_var 1) (da_cons (de_call o G_law_rows A_law_rows (by decide) (da_cons (de_var 0) (da_cons (de_callB dc_len m_len boot_len (da_cons (de_item (de_var 1) de_int) da_nil)) da_nil))) da_nil))))))
theorem ok_law_text {f : Addr} {fd : FuncData} (F0 : L2.Fun K "_law_text" "_law_text" s_law_text f fd) {f_law_letters : Addr} {fd_law_letters : FuncData} (G_law_letters : FnD P w K mg base 1 f_law_letters fd_law_letters ["_law_face_here"] F_law_letters) (A_law_letters : At K mg "_law_letters" f_law_letters fd_law_letters ["_law_face_here"]) {f_law_take : Addr} {fd_law_take : FuncData} (G_law_take : FnD P w K mg base 1 f_law_take fd_law_take ["_law_box_here", "_law_many"] F_law_take) (A_law_take : At K mg "_law_take" f_law_take fd_law_take ["_law_box_here", "_law_many"]) (m_range : mg "range" = none) (m_len : mg "len" = none) : FnD P w K mg base 2 f fd ["_law_box_here", "_law_face_here", "_law_most"] F_law_text :=
  dfn F0 sc_law_text (fun _ _ _ _ _ _ o => (dss_cons (ds_set 3 o.nd (de_bin do_add (de_frz (dl_rep (de_call o G_law_letters A_law_letters (by decide) (da_cons (de_var 1) da_nil)) de_int)) (de_frz (dl_lst (da_cons de_str da_nil))))) (dss_one (ds_ret (de_methS PySem.F.slot_str_join PySem.F.type_str_join dm_join de_str (da_cons (de_frz (dl_lc [("_law_place", 4)] o (di_rng1 m_range (de_call o G_law_take A_law_take (by decide) (da_cons (de_var 0) (da_cons (de_bin do_add (de_var 2) de_int) da_nil)))) (fun _ _ _ _ _ o => (dg_name 4 o.nd)) (fun _ _ _ _ _ o => dts_nil) (fun _ _ _ _ _ o => (de_item (de_var 3) (de_call o G_law_take A_law_take (by decide) (da_cons (de_var 0) (da_cons (de_callB dc_len m_len boot_len (da_cons (de_var 3) da_nil)) da_nil))))))) da_nil))))))
theorem ok_law_fresh {f : Addr} {fd : FuncData} (F0 : L2.Fun K "_law_fresh" "_law_fresh" s_law_fresh f fd) {f_law_letters : Addr} {fd_law_letters : FuncData} (G_law_letters : FnD P w K mg base 1 f_law_letters fd_law_letters ["_law_face_here"] F_law_letters) (A_law_letters : At K mg "_law_letters" f_law_letters fd_law_letters ["_law_face_here"]) {f_law_take : Addr} {fd_law_take : FuncData} (G_law_take : FnD P w K mg base 1 f_law_take fd_law_take ["_law_box_here", "_law_many"] F_law_take) (A_law_take : At K mg "_law_take" f_law_take fd_law_take ["_law_box_here", "_law_many"]) (m_len : mg "len" = none) : FnD P w K mg base 2 f fd ["_law_box_here", "_law_face_here"] F_law_fresh :=
  dfn F0 sc_law_fresh (fun _ _ _ _ _ _ o => (dss_cons (ds_set 2 o.nd (de_call o G_law_letters A_law_letters (by decide) (da_cons (de_var 1) da_nil))) (dss_cons (ds_setLcF 3 [("_law_letter", 4)] o (di_txt de_str) (fun _ _ _ _ _ o => (dg_name 4 o.nd)) (fun _ _ _ _ _ o => (dts_one (dt_cmp (do_notin o) (de_var 4) (de_var 2)))) (fun _ _ _ _ _ o => (de_var 4))) (dss_one (ds_ret (de_item (de_var 3) (de_call o G_law_take A_law_take (by decide) (da_cons (de_var 0) (da_cons (de_callB dc_len m_len boot_len (da_cons (de_var 3) da_nil)) da_nil)))))))))
theorem ok_law {f : Addr} {fd : FuncData} (F0 : L2.Fun K "law" "law" s_law f fd) {f_law_box : Addr} {fd_law_box : FuncData} (G_law_box : FnD P w K mg base 1 f_law_box fd_law_box ["_law_script", "_law_k"] F_law_box) (A_law_box : At K mg "_law_box" f_law_box fd_law_box ["_law_script", "_law_k"]) {f_law_face : Addr} {fd_law_face : FuncData} (G_law_face : FnD P w K mg base 2 f_law_face fd_law_face ["_law_box_here", "_law_least", "_law_most"] F_law_face) (A_law_face : At K mg "_law_face" f_law_face fd_law_face ["_law_box_here", "_law_least", "_law_most"]) {f_law_pairs : Addr} {fd_law_pairs : FuncData} (G_law_pairs : FnD P w K mg base 3 f_law_pairs fd_law_pairs ["_law_box_here", "_law_face_here"] F_law_pairs) (A_law_pairs : At K mg "_law_pairs" f_law_pairs fd_law_pairs ["_law_box_here", "_law_face_here"]) {f_law_letters : Addr} {fd_law_letters : FuncData} (G_law_letters : FnD P w K mg base 1 f_law_letters fd_law_letters ["_law_face_here"] F_law_letters) (A_law_letters : At K mg "_law_letters" f_law_letters fd_law_letters ["_law_face_here"]) {f_law_take : Addr} {fd_law_take : FuncData} (G_law_take : FnD P w K mg base 1 f_law_take fd_law_take ["_law_box_here", "_law_many"] F_law_take) (A_law_take : At K mg "_law_take" f_law_take fd_law_take ["_law_box_here", "_law_many"]) {f_law_fresh : Addr} {fd_law_fresh : FuncData} (G_law_fresh : FnD P w K mg base 2 f_law_fresh fd_law_fresh ["_law_box_here", "_law_face_here"] F_law_fresh) (A_law_fresh : At K mg "_law_fresh" f_law_fresh fd_law_fresh ["_law_box_here", "_law_face_here"]) {f_with_like : Addr} {fd_with_like : FuncData} (G_with_like : FnD P w K mg base 3 f_with_like fd_with_like ["face", "pairs", "letter", "other"] F_with_like) (A_with_like : At K mg "with_like" f_with_like fd_with_like ["face", "pairs", "letter", "other"]) {f_is_face : Addr} {fd_is_face : FuncData} (G_is_face : FnD P w K mg base 3 f_is_face fd_is_face ["thing"] F_is_face) (A_is_face : At K mg "is_face" f_is_face fd_is_face ["thing"]) {f_is_list : Addr} {fd_is_list : FuncData} (G_is_list : FnD P w K mg base 4 f_is_list fd_is_list ["face", "thing"] F_is_list) (A_is_list : At K mg "is_list" f_is_list fd_is_list ["face", "thing"]) {f_left_parting : Addr} {fd_left_parting : FuncData} (G_left_parting : FnD P w K mg base 3 f_left_parting fd_left_parting ["face", "pairs"] F_left_parting) (A_left_parting : At K mg "left_parting" f_left_parting fd_left_parting ["face", "pairs"]) {f_right_parting : Addr} {fd_right_parting : FuncData} (G_right_parting : FnD P w K mg base 3 f_right_parting fd_right_parting ["face", "pairs"] F_right_parting) (A_right_parting : At K mg "right_parting" f_right_parting fd_right_parting ["face", "pairs"]) {f_without_letter : Addr} {fd_without_letter : FuncData} (G_without_letter : FnD P w K mg base 3 f_without_letter fd_without_letter ["face", "pairs", "letter"] F_without_letter) (A_without_letter : At K mg "without_letter" f_without_letter fd_without_letter ["face", "pairs", "letter"]) {f_with_letter : Addr} {fd_with_letter : FuncData} (G_with_letter : FnD P w K mg base 3 f_with_letter fd_with_letter ["face", "letter", "width"] F_with_letter) (A_with_letter : At K mg "with_letter" f_with_letter fd_with_letter ["face", "letter", "width"]) {f_gap_of : Addr} {fd_gap_of : FuncData} (G_gap_of : FnD P w K mg base 3 f_gap_of fd_gap_of ["face", "pairs", "left", "right"] F_gap_of) (A_gap_of : At K mg "gap_of" f_gap_of fd_gap_of ["face", "pairs", "left", "right"]) {f_with_gap : Addr} {fd_with_gap : FuncData} (G_with_gap : FnD P w K mg base 3 f_with_gap fd_with_gap ["face", "pairs", "left", "right", "gap"] F_with_gap) (A_with_gap : At K mg "with_gap" f_with_gap fd_with_gap ["face", "pairs", "left", "right", "gap"]) {f_changed : Addr} {fd_changed : FuncData} (G_changed : FnD P w K mg base 3 f_changed fd_changed ["face", "pairs", "other"] F_changed) (A_changed : At K mg "changed" f_changed fd_changed ["face", "pairs", "other"]) {f_law_text : Addr} {fd_law_text : FuncData} (G_law_text : FnD P w K mg base 2 f_law_text fd_law_text ["_law_box_here", "_law_face_here", "_law_most"] F_law_text) (A_law_text : At K mg "_law_text" f_law_text fd_law_text ["_law_box_here", "_law_face_here", "_law_most"]) {f_begins : Addr} {fd_begins : FuncData} (G_begins : FnD P w K mg base 5 f_begins fd_begins ["face", "pairs", "text"] F_begins) (A_begins : At K mg "begins" f_begins fd_begins ["face", "pairs", "text"]) {f_moved_lines : Addr} {fd_moved_lines : FuncData} (G_moved_lines : FnD P w K mg base 5 f_moved_lines fd_moved_lines ["face", "pairs", "other", "texts"] F_moved_lines) (A_moved_lines : At K mg "moved_lines" f_moved_lines fd_moved_lines ["face", "pairs", "other", "texts"]) (m_range : mg "range" = none) (m_len : mg "len" = none) (m_min : mg "min" = none) (m_max : mg "max" = none) (m_repr : mg "repr" = none) (m_tuple : mg "tuple" = none) (m_dict : mg "dict" = none) : FnD P w K mg base 6 f fd ["_law_script"] (F_law f_left_parting f_right_parting) :=
  dfn F0 sc_law (fun _ _ _ _ _ _ o => (dss_cons (ds_for (vs := [1]) o (di_rng1 m_range (de_callB (dc_max2 o) m_max PyProof.Rows.boot_max (da_cons de_int (da_cons (de_callB (dc_min2 o) m_min PyProof.Rows.boot_min (da_cons (de_callB dc_len m_len boot_len (da_cons (de_var 0) da_nil)) (da_cons de_int da_nil))) da_nil)))) (dg_name 1 o.nd) (dss_cons (ds_set 2 o.nd (de_call o G_law_box A_law_box (by decide) (da_cons (de_var 0) (da_cons (de_var 1) da_nil)))) (dss_cons (ds_set 3 o.nd (de_call o G_law_face A_law_face (by decide) (da_cons (de_var 2) (da_cons de_int (da_cons de_int da_nil))))) (dss_cons (ds_asg (vs := [4, 5]) (de_tup (da_cons (de_call o G_law_letters A_law_letters (by decide) (da_cons (de_var 3) da_nil)) (da_cons (de_call o G_law_pairs A_law_pairs (by decide) (da_cons (de_var 2) (da_cons (de_var 3) da_nil))) da_nil))) (dg_tup o.calm (dgs_cons (dg_name 4 o.nd) (dgs_cons (dg_name 5 o.nd) dgs_nil)))) (dss_cons (ds_asg (vs := [6, 7]) (de_tup (da_cons (de_call o G_law_fresh A_law_fresh (by decide) (da_cons (de_var 2) (da_cons (de_var 3) da_nil))) (da_cons (de_item (de_var 4) (de_call o G_law_take A_law_take (by decide) (da_cons (de_var 2) (da_cons (de_callB dc_len m_len boot_len (da_cons (de_var 4) da_nil)) da_nil)))) da_nil))) (dg_tup o.calm (dgs_cons (dg_name 6 o.nd) (dgs_cons (dg_name 7 o.nd) dgs_nil)))) (dss_cons (ds_asg (vs := [8, 9]) (de_call o G_with_like A_with_like (by decide) (da_cons (de_var 3) (da_cons (de_var 5) (da_cons (de_var 6) (da_cons (de_var 7) da_nil))))) (dg_tup o.calm (dgs_cons (dg_name 8 o.nd) (dgs_cons (dg_name 9 o.nd) dgs_nil)))) (dss_cons (ds_if (dt_w (dw_or (dt_cmp do_notB (de_call o G_is_face A_is_face (by decide) (da_cons (de_var 8) da_nil)) de_bl) (dw_or1 (dt_cmp do_notB (de_call o G_is_list A_is_list (by decide) (da_cons (de_var 8) (da_cons (de_var 9) da_nil))) de_bl)))) (dss_one (ds_ret de_bl)) dss_nil) (dss_cons (ds_for (vs := [10]) o (di_fns (n := 2) o (.cons G_left_parting A_left_parting (by decide) rfl rfl (by decide) (.cons G_right_parting A_right_parting (by decide) rfl rfl (by decide) .nil))) (dg_name 10 o.nd) (dss_cons (ds_setLcF 11 [("_law_one", 12)] o (di_seq (de_callV (n := 2) o (.cons G_left_parting A_left_parting (by decide) rfl (.cons G_right_parting A_right_parting (by decide) rfl .nil)) (de_var 10) (da_cons (de_var 3) (da_cons (de_var 5) da_nil)) rfl)) (fun _ _ _ _ _ o => (dg_name 12 o.nd)) (fun _ _ _ _ _ o => dts_nil) (fun _ _ _ _ _ o => (de_bin do_add (de_var 12) (de_ife (dt_cmp (do_in o) (de_var 7) (de_var 12)) (de_tup (da_cons (de_var 6) da_nil)) (de_tup da_nil))))) (dss_one (ds_if (dt_cmp (do_ne o) (de_callB (dc_repr o) m_repr PyProof.Rows.boot_repr (da_cons (de_callV (n := 2) o (.cons G_left_parting A_left_parting (by decide) rfl (.cons G_right_parting A_right_parting (by decide) rfl .nil)) (de_var 10) (da_cons (de_var 8) (da_cons (de_var 9) da_nil)) rfl) da_nil)) (de_callB (dc_repr o) m_repr PyProof.Rows.boot_repr (da_cons (de_callTy dc_tuple m_tuple PyProof.Rows.boot_tuple (da_cons (de_var 11) da_nil)) da_nil))) (dss_one (ds_ret de_bl)) dss_nil)))) (dss_cons (ds_if (dt_cmp (do_ne o) (de_callB (dc_repr o) m_repr PyProof.Rows.boot_repr (da_cons (de_call o G_without_letter A_without_letter (by decide) (da_cons (de_var 8) (da_cons (de_var 9) (da_cons (de_var 6) da_nil)))) da_nil)) (de_callB (dc_repr o) m_repr PyProof.Rows.boot_repr (da_cons (de_tup (da_cons (de_var 3) (da_cons (de_var 5) da_nil))) da_nil))) (dss_one (ds_ret de_bl)) dss_nil) (dss_cons (ds_if (dt_cmp (do_ne o) (de_var 8) (de_call o G_with_letter A_with_letter (by decide) (da_cons (de_var 3) (da_cons (de_var 6) (da_cons (de_dget o (de_dictT o m_dict (de_item (de_var 3) de_int)) (de_var 7)) da_nil))))) (dss_one (ds_ret de_bl)) dss_nil) (dss_cons (ds_asg (vs := [12, 13]) (de_tup (da_cons (de_item (de_var 4) (de_call o G_law_take A_law_take (by decide) (da_cons (de_var 2) (da_cons (de_callB dc_len m_len boot_len (da_cons (de_var 4) da_nil)) da_nil)))) (da_cons (de_bin do_sub (de_call o G_law_take A_law_take (by decide) (da_cons (de_var 2) (da_cons de_int da_nil))) de_int) da_nil))) (dg_tup o.calm (dgs_cons (dg_name 12 o.nd) (dgs_cons (dg_name 13 o.nd) dgs_nil)))) (dss_cons (ds_set 14 o.nd (de_call o G_gap_of A_gap_of (by decide) (da_cons (de_var 3) (da_cons (de_var 5) (da_cons (de_var 12) (da_cons (de_var 7) da_nil)))))) (dss_cons (ds_set 15 o.nd (de_call o G_with_gap A_with_gap (by decide) (da_cons (de_var 3) (da_cons (de_var 5) (da_cons (de_var 12) (da_cons (de_var 7) (da_cons (de_var 13) da_nil))))))) (dss_cons (ds_if (dt_cmp (do_ne o) (de_callB (dc_repr o) m_repr PyProof.Rows.boot_repr (da_cons (de_call o G_with_gap A_with_gap (by decide) (da_cons (de_var 3) (da_cons (de_var 15) (da_cons (de_var 12) (da_cons (de_var 7) (da_cons (de_var 14) da_nil)))))) da_nil)) (de_callB (dc_repr o) m_repr PyProof.Rows.boot_repr (da_cons (de_var 5) da_nil))) (dss_one (ds_ret de_bl)) dss_nil) (dss_cons (ds_if (dt_cmp (do_ne o) (de_call o G_changed A_changed (by decide) (da_cons (de_var 3) (da_cons (de_var 5) (da_cons (de_var 15) da_nil)))) (de_ife (dt_cmp (do_ne o) (de_var 13) (de_var 14)) (de_tup (da_cons (de_tup (da_cons (de_var 12) (da_cons (de_var 7) da_nil))) da_nil)) (de_tup da_nil))) (dss_one (ds_ret de_bl)) dss_nil) (dss_cons (ds_setLcF 16 [("_law_line", 18)] o (di_rng1 m_range de_int) (fun _ _ _ _ _ o => (dg_name 18 o.nd)) (fun _ _ _ _ _ o => dts_nil) (fun _ _ _ _ _ o => (de_call o G_law_text A_law_text (by decide) (da_cons (de_var 2) (da_cons (de_var 3) (da_cons de_int da_nil)))))) (dss_cons (ds_set 16 o.nd (de_callTy dc_tuple m_tuple PyProof.Rows.boot_tuple (da_cons (de_bin do_add (de_var 16) (de_frz (dl_lc [("_law_line", 18)] o (di_rng1 m_range de_int) (fun _ _ _ _ _ o => (dg_name 18 o.nd)) (fun _ _ _ _ _ o => dts_nil) (fun _ _ _ _ _ o => (de_bin do_add (de_bin do_add (de_call o G_law_text A_law_text (by decide) (da_cons (de_var 2) (da_cons (de_var 3) (da_cons de_int da_nil)))) (de_var 12)) (de_var 7)))))) da_nil))) (dss_cons (ds_set 17 o.nd (de_frz (dl_lc [("_law_text_here", 19)] o (di_seq (de_var 16)) (fun _ _ _ _ _ o => (dg_name 19 o.nd)) (fun _ _ _ _ _ o => dts_nil) (fun _ _ _ _ _ o => (de_cmp (do_ne o) (de_call o G_begins A_begins (by decide) (da_cons (de_var 3) (da_cons (de_var 5) (da_cons (de_var 19) da_nil)))) (de_call o G_begins A_begins (by decide) (da_cons (de_var 3) (da_cons (de_var 15) (da_cons (de_var 19) da_nil))))))))) (dss_one (ds_if (dt_cmp (do_ne o) (de_call o G_moved_lines A_moved_lines (by decide) (da_cons (de_var 3) (da_cons (de_var 5) (da_cons (de_var 15) (da_cons (de_var 16) da_nil))))) (de_callTy dc_tuple m_tuple PyProof.Rows.boot_tuple (da_cons (de_frz (dl_lc [("_law_number", 20)] o (di_rng1 m_range de_int) (fun _ _ _ _ _ o => (dg_name 20 o.nd)) (fun _ _ _ _ _ o => (dts_one (dt_val (de_item (de_var 17) (de_var 20))))) (fun _ _ _ _ _ o => (de_var 20)))) da_nil))) (dss_one (ds_ret de_bl)) dss_nil)))))))))))))))))))) (dss_one (ds_ret de_bl))))
end
theorem all_mk {l : PySem.W.OpenLaw} {w : World} {K : PySem.W.Frag} {h : Heap} {mg : Str → Option Value} {fa : Addr} (X : K.In h) (G : h.Ns mainGlobals mg) (hfa : mg "law" = some (.ref fa))
    {f0 : Addr} {od0 an0 : Option Addr} {sl0 : Array (Option Value)} {oc0 kV0 dc0 pm0 cd0 ct0 : Value}
    {f1 : Addr} {od1 an1 : Option Addr} {sl1 : Array (Option Value)} {oc1 kV1 dc1 pm1 cd1 ct1 : Value}
    {f2 : Addr} {od2 an2 : Option Addr} {sl2 : Array (Option Value)} {oc2 kV2 dc2 pm2 cd2 ct2 : Value}
    {f3 : Addr} {od3 an3 : Option Addr} {sl3 : Array (Option Value)} {oc3 kV3 dc3 pm3 cd3 ct3 : Value}
    {f4 : Addr} {od4 an4 : Option Addr} {sl4 : Array (Option Value)} {oc4 kV4 dc4 pm4 cd4 ct4 : Value}
    {f5 : Addr} {od5 an5 : Option Addr} {sl5 : Array (Option Value)} {oc5 kV5 dc5 pm5 cd5 ct5 : Value}
    {f6 : Addr} {od6 an6 : Option Addr} {sl6 : Array (Option Value)} {oc6 kV6 dc6 pm6 cd6 ct6 : Value}
    {f7 : Addr} {od7 an7 : Option Addr} {sl7 : Array (Option Value)} {oc7 kV7 dc7 pm7 cd7 ct7 : Value}
    {f8 : Addr} {od8 an8 : Option Addr} {sl8 : Array (Option Value)} {oc8 kV8 dc8 pm8 cd8 ct8 : Value}
    {f9 : Addr} {od9 an9 : Option Addr} {sl9 : Array (Option Value)} {oc9 kV9 dc9 pm9 cd9 ct9 : Value}
    {f10 : Addr} {od10 an10 : Option Addr} {sl10 : Array (Option Value)} {oc10 kV10 dc10 pm10 cd10 ct10 : Value}
    {f11 : Addr} {od11 an11 : Option Addr} {sl11 : Array (Option Value)} {oc11 kV11 dc11 pm11 cd11 ct11 : Value}
    {f12 : Addr} {od12 an12 : Option Addr} {sl12 : Array (Option Value)} {oc12 kV12 dc12 pm12 cd12 ct12 : Value}
    {f13 : Addr} {od13 an13 : Option Addr} {sl13 : Array (Option Value)} {oc13 kV13 dc13 pm13 cd13 ct13 : Value}
    {f14 : Addr} {od14 an14 : Option Addr} {sl14 : Array (Option Value)} {oc14 kV14 dc14 pm14 cd14 ct14 : Value}
    {f15 : Addr} {od15 an15 : Option Addr} {sl15 : Array (Option Value)} {oc15 kV15 dc15 pm15 cd15 ct15 : Value}
    {f16 : Addr} {od16 an16 : Option Addr} {sl16 : Array (Option Value)} {oc16 kV16 dc16 pm16 cd16 ct16 : Value}
    {f17 : Addr} {od17 an17 : Option Addr} {sl17 : Array (Option Value)} {oc17 kV17 dc17 pm17 cd17 ct17 : Value}
    {f18 : Addr} {od18 an18 : Option Addr} {sl18 : Array (Option Value)} {oc18 kV18 dc18 pm18 cd18 ct18 : Value}
    {f19 : Addr} {od19 an19 : Option Addr} {sl19 : Array (Option Value)} {oc19 kV19 dc19 pm19 cd19 ct19 : Value}
    {f20 : Addr} {od20 an20 : Option Addr} {sl20 : Array (Option Value)} {oc20 kV20 dc20 pm20 cd20 ct20 : Value}
    {f21 : Addr} {od21 an21 : Option Addr} {sl21 : Array (Option Value)} {oc21 kV21 dc21 pm21 cd21 ct21 : Value}
    {f22 : Addr} {od22 an22 : Option Addr} {sl22 : Array (Option Value)} {oc22 kV22 dc22 pm22 cd22 ct22 : Value}
    {f23 : Addr} {od23 an23 : Option Addr} {sl23 : Array (Option Value)} {oc23 kV23 dc23 pm23 cd23 ct23 : Value}
    {f24 : Addr} {od24 an24 : Option Addr} {sl24 : Array (Option Value)} {oc24 kV24 dc24 pm24 cd24 ct24 : Value}
    {f25 : Addr} {od25 an25 : Option Addr} {sl25 : Array (Option Value)} {oc25 kV25 dc25 pm25 cd25 ct25 : Value}
    {f26 : Addr} {od26 an26 : Option Addr} {sl26 : Array (Option Value)} {oc26 kV26 dc26 pm26 cd26 ct26 : Value}
    {f27 : Addr} {od27 an27 : Option Addr} {sl27 : Array (Option Value)} {oc27 kV27 dc27 pm27 cd27 ct27 : Value}
    {f28 : Addr} {od28 an28 : Option Addr} {sl28 : Array (Option Value)} {oc28 kV28 dc28 pm28 cd28 ct28 : Value}
    {f29 : Addr} {od29 an29 : Option Addr} {sl29 : Array (Option Value)} {oc29 kV29 dc29 pm29 cd29 ct29 : Value}
    {f30 : Addr} {od30 an30 : Option Addr} {sl30 : Array (Option Value)} {oc30 kV30 dc30 pm30 cd30 ct30 : Value}
    {f31 : Addr} {od31 an31 : Option Addr} {sl31 : Array (Option Value)} {oc31 kV31 dc31 pm31 cd31 ct31 : Value}
    {f32 : Addr} {od32 an32 : Option Addr} {sl32 : Array (Option Value)} {oc32 kV32 dc32 pm32 cd32 ct32 : Value}
    {f33 : Addr} {od33 an33 : Option Addr} {sl33 : Array (Option Value)} {oc33 kV33 dc33 pm33 cd33 ct33 : Value}
    {f34 : Addr} {od34 an34 : Option Addr} {sl34 : Array (Option Value)} {oc34 kV34 dc34 pm34 cd34 ct34 : Value}
    {f35 : Addr} {od35 an35 : Option Addr} {sl35 : Array (Option Value)} {oc35 kV35 dc35 pm35 cd35 ct35 : Value}
    {f36 : Addr} {od36 an36 : Option Addr} {sl36 : Array (Option Value)} {oc36 kV36 dc36 pm36 cd36 ct36 : Value}
    {f37 : Addr} {od37 an37 : Option Addr} {sl37 : Array (Option Value)} {oc37 kV37 dc37 pm37 cd37 ct37 : Value}
    {f38 : Addr} {od38 an38 : Option Addr} {sl38 : Array (Option Value)} {oc38 kV38 dc38 pm38 cd38 ct38 : Value}
    {f39 : Addr} {od39 an39 : Option Addr} {sl39 : Array (Option Value)} {oc39 kV39 dc39 pm39 cd39 ct39 : Value}
    {f40 : Addr} {od40 an40 : Option Addr} {sl40 : Array (Option Value)} {oc40 kV40 dc40 pm40 cd40 ct40 : Value}
    {f41 : Addr} {od41 an41 : Option Addr} {sl41 : Array (Option Value)} {oc41 kV41 dc41 pm41 cd41 ct41 : Value}
    {f42 : Addr} {od42 an42 : Option Addr} {sl42 : Array (Option Value)} {oc42 kV42 dc42 pm42 cd42 ct42 : Value}
    {f43 : Addr} {od43 an43 : Option Addr} {sl43 : Array (Option Value)} {oc43 kV43 dc43 pm43 cd43 ct43 : Value}
    {f44 : Addr} {od44 an44 : Option Addr} {sl44 : Array (Option Value)} {oc44 kV44 dc44 pm44 cd44 ct44 : Value}
    {a_NoLetter b_NoLetter n_NoLetter m_NoLetter : Addr} {cd_NoLetter cb_NoLetter : ClassData} {d1_NoLetter d2_NoLetter d3_NoLetter d4_NoLetter : Option Addr} {sl_NoLetter sb_NoLetter sn_NoLetter sm_NoLetter : Array (Option Value)} {c3_NoLetter c4_NoLetter : Value} {es_NoLetter em_NoLetter : Array DictEntry} {ep_NoLetter eq_NoLetter : Nat} {s1_NoLetter s2_NoLetter s3_NoLetter s4_NoLetter s6_NoLetter : Option Value}
    {a_NoLine b_NoLine n_NoLine m_NoLine : Addr} {cd_NoLine cb_NoLine : ClassData} {d1_NoLine d2_NoLine d3_NoLine d4_NoLine : Option Addr} {sl_NoLine sb_NoLine sn_NoLine sm_NoLine : Array (Option Value)} {c3_NoLine c4_NoLine : Value} {es_NoLine em_NoLine : Array DictEntry} {ep_NoLine eq_NoLine : Nat} {s1_NoLine s2_NoLine s3_NoLine s4_NoLine s6_NoLine : Option Value}
    {a_TooMany b_TooMany n_TooMany m_TooMany : Addr} {cd_TooMany cb_TooMany : ClassData} {d1_TooMany d2_TooMany d3_TooMany d4_TooMany : Option Addr} {sl_TooMany sb_TooMany sn_TooMany sm_TooMany : Array (Option Value)} {c3_TooMany c4_TooMany : Value} {es_TooMany em_TooMany : Array DictEntry} {ep_TooMany eq_TooMany : Nat} {s1_TooMany s2_TooMany s3_TooMany s4_TooMany s6_TooMany : Option Value}
    {a_NoNumber b_NoNumber n_NoNumber m_NoNumber : Addr} {cd_NoNumber cb_NoNumber : ClassData} {d1_NoNumber d2_NoNumber d3_NoNumber d4_NoNumber : Option Addr} {sl_NoNumber sb_NoNumber sn_NoNumber sm_NoNumber : Array (Option Value)} {c3_NoNumber c4_NoNumber : Value} {es_NoNumber em_NoNumber : Array DictEntry} {ep_NoNumber eq_NoNumber : Nat} {s1_NoNumber s2_NoNumber s3_NoNumber s4_NoNumber s6_NoNumber : Option Value}
    {a_NoGap b_NoGap n_NoGap m_NoGap : Addr} {cd_NoGap cb_NoGap : ClassData} {d1_NoGap d2_NoGap d3_NoGap d4_NoGap : Option Addr} {sl_NoGap sb_NoGap sn_NoGap sm_NoGap : Array (Option Value)} {c3_NoGap c4_NoGap : Value} {es_NoGap em_NoGap : Array DictEntry} {ep_NoGap eq_NoGap : Nat} {s1_NoGap s2_NoGap s3_NoGap s4_NoGap s6_NoGap : Option Value}
    {t_LETTERS : Tok}
    {t_FAR : Tok}
    {t_MOST_LETTERS : Tok}
    (a0 : PySem.W.nsIn K mainGlobals "is_from_to" = some (some (.ref f0))) (l0 : K.lookup f0 = some ⟨oc0, od0, .func (PySem.W.fnOf "is_from_to" "is_from_to" (defArgs s_is_from_to) (defBody s_is_from_to) (defScope s_is_from_to) .none kV0 dc0 pm0 an0 cd0 ct0), sl0⟩) (c0 : PySem.W.codeIn K cd0 "is_from_to" = true) (k0 : PySem.W.keepIn K (.ref f0) = true)
    (a1 : PySem.W.nsIn K mainGlobals "is_letter" = some (some (.ref f1))) (l1 : K.lookup f1 = some ⟨oc1, od1, .func (PySem.W.fnOf "is_letter" "is_letter" (defArgs s_is_letter) (defBody s_is_letter) (defScope s_is_letter) .none kV1 dc1 pm1 an1 cd1 ct1), sl1⟩) (c1 : PySem.W.codeIn K cd1 "is_letter" = true) (k1 : PySem.W.keepIn K (.ref f1) = true)
    (a2 : PySem.W.nsIn K mainGlobals "is_wide" = some (some (.ref f2))) (l2 : K.lookup f2 = some ⟨oc2, od2, .func (PySem.W.fnOf "is_wide" "is_wide" (defArgs s_is_wide) (defBody s_is_wide) (defScope s_is_wide) .none kV2 dc2 pm2 an2 cd2 ct2), sl2⟩) (c2 : PySem.W.codeIn K cd2 "is_wide" = true) (k2 : PySem.W.keepIn K (.ref f2) = true)
    (a3 : PySem.W.nsIn K mainGlobals "is_gap" = some (some (.ref f3))) (l3 : K.lookup f3 = some ⟨oc3, od3, .func (PySem.W.fnOf "is_gap" "is_gap" (defArgs s_is_gap) (defBody s_is_gap) (defScope s_is_gap) .none kV3 dc3 pm3 an3 cd3 ct3), sl3⟩) (c3 : PySem.W.codeIn K cd3 "is_gap" = true) (k3 : PySem.W.keepIn K (.ref f3) = true)
    (a4 : PySem.W.nsIn K mainGlobals "is_face" = some (some (.ref f4))) (l4 : K.lookup f4 = some ⟨oc4, od4, .func (PySem.W.fnOf "is_face" "is_face" (defArgs s_is_face) (defBody s_is_face) (defScope s_is_face) .none kV4 dc4 pm4 an4 cd4 ct4), sl4⟩) (c4 : PySem.W.codeIn K cd4 "is_face" = true) (k4 : PySem.W.keepIn K (.ref f4) = true)
    (a5 : PySem.W.nsIn K mainGlobals "letters_of" = some (some (.ref f5))) (l5 : K.lookup f5 = some ⟨oc5, od5, .func (PySem.W.fnOf "letters_of" "letters_of" (defArgs s_letters_of) (defBody s_letters_of) (defScope s_letters_of) .none kV5 dc5 pm5 an5 cd5 ct5), sl5⟩) (c5 : PySem.W.codeIn K cd5 "letters_of" = true) (k5 : PySem.W.keepIn K (.ref f5) = true)
    (a6 : PySem.W.nsIn K mainGlobals "place_of" = some (some (.ref f6))) (l6 : K.lookup f6 = some ⟨oc6, od6, .func (PySem.W.fnOf "place_of" "place_of" (defArgs s_place_of) (defBody s_place_of) (defScope s_place_of) .none kV6 dc6 pm6 an6 cd6 ct6), sl6⟩) (c6 : PySem.W.codeIn K cd6 "place_of" = true) (k6 : PySem.W.keepIn K (.ref f6) = true)
    (a7 : PySem.W.nsIn K mainGlobals "need_letter" = some (some (.ref f7))) (l7 : K.lookup f7 = some ⟨oc7, od7, .func (PySem.W.fnOf "need_letter" "need_letter" (defArgs s_need_letter) (defBody s_need_letter) (defScope s_need_letter) .none kV7 dc7 pm7 an7 cd7 ct7), sl7⟩) (c7 : PySem.W.codeIn K cd7 "need_letter" = true) (k7 : PySem.W.keepIn K (.ref f7) = true)
    (a8 : PySem.W.nsIn K mainGlobals "is_told" = some (some (.ref f8))) (l8 : K.lookup f8 = some ⟨oc8, od8, .func (PySem.W.fnOf "is_told" "is_told" (defArgs s_is_told) (defBody s_is_told) (defScope s_is_told) .none kV8 dc8 pm8 an8 cd8 ct8), sl8⟩) (c8 : PySem.W.codeIn K cd8 "is_told" = true) (k8 : PySem.W.keepIn K (.ref f8) = true)
    (a9 : PySem.W.nsIn K mainGlobals "is_list" = some (some (.ref f9))) (l9 : K.lookup f9 = some ⟨oc9, od9, .func (PySem.W.fnOf "is_list" "is_list" (defArgs s_is_list) (defBody s_is_list) (defScope s_is_list) .none kV9 dc9 pm9 an9 cd9 ct9), sl9⟩) (c9 : PySem.W.codeIn K cd9 "is_list" = true) (k9 : PySem.W.keepIn K (.ref f9) = true)
    (a10 : PySem.W.nsIn K mainGlobals "gap_in" = some (some (.ref f10))) (l10 : K.lookup f10 = some ⟨oc10, od10, .func (PySem.W.fnOf "gap_in" "gap_in" (defArgs s_gap_in) (defBody s_gap_in) (defScope s_gap_in) .none kV10 dc10 pm10 an10 cd10 ct10), sl10⟩) (c10 : PySem.W.codeIn K cd10 "gap_in" = true) (k10 : PySem.W.keepIn K (.ref f10) = true)
    (a11 : PySem.W.nsIn K mainGlobals "gap_of" = some (some (.ref f11))) (l11 : K.lookup f11 = some ⟨oc11, od11, .func (PySem.W.fnOf "gap_of" "gap_of" (defArgs s_gap_of) (defBody s_gap_of) (defScope s_gap_of) .none kV11 dc11 pm11 an11 cd11 ct11), sl11⟩) (c11 : PySem.W.codeIn K cd11 "gap_of" = true) (k11 : PySem.W.keepIn K (.ref f11) = true)
    (a12 : PySem.W.nsIn K mainGlobals "rows_of" = some (some (.ref f12))) (l12 : K.lookup f12 = some ⟨oc12, od12, .func (PySem.W.fnOf "rows_of" "rows_of" (defArgs s_rows_of) (defBody s_rows_of) (defScope s_rows_of) .none kV12 dc12 pm12 an12 cd12 ct12), sl12⟩) (c12 : PySem.W.codeIn K cd12 "rows_of" = true) (k12 : PySem.W.keepIn K (.ref f12) = true)
    (a13 : PySem.W.nsIn K mainGlobals "from_rows" = some (some (.ref f13))) (l13 : K.lookup f13 = some ⟨oc13, od13, .func (PySem.W.fnOf "from_rows" "from_rows" (defArgs s_from_rows) (defBody s_from_rows) (defScope s_from_rows) .none kV13 dc13 pm13 an13 cd13 ct13), sl13⟩) (c13 : PySem.W.codeIn K cd13 "from_rows" = true) (k13 : PySem.W.keepIn K (.ref f13) = true)
    (a14 : PySem.W.nsIn K mainGlobals "all_pairs" = some (some (.ref f14))) (l14 : K.lookup f14 = some ⟨oc14, od14, .func (PySem.W.fnOf "all_pairs" "all_pairs" (defArgs s_all_pairs) (defBody s_all_pairs) (defScope s_all_pairs) .none kV14 dc14 pm14 an14 cd14 ct14), sl14⟩) (c14 : PySem.W.codeIn K cd14 "all_pairs" = true) (k14 : PySem.W.keepIn K (.ref f14) = true)
    (a15 : PySem.W.nsIn K mainGlobals "changed" = some (some (.ref f15))) (l15 : K.lookup f15 = some ⟨oc15, od15, .func (PySem.W.fnOf "changed" "changed" (defArgs s_changed) (defBody s_changed) (defScope s_changed) .none kV15 dc15 pm15 an15 cd15 ct15), sl15⟩) (c15 : PySem.W.codeIn K cd15 "changed" = true) (k15 : PySem.W.keepIn K (.ref f15) = true)
    (a16 : PySem.W.nsIn K mainGlobals "is_sign" = some (some (.ref f16))) (l16 : K.lookup f16 = some ⟨oc16, od16, .func (PySem.W.fnOf "is_sign" "is_sign" (defArgs s_is_sign) (defBody s_is_sign) (defScope s_is_sign) .none kV16 dc16 pm16 an16 cd16 ct16), sl16⟩) (c16 : PySem.W.codeIn K cd16 "is_sign" = true) (k16 : PySem.W.keepIn K (.ref f16) = true)
    (a17 : PySem.W.nsIn K mainGlobals "is_text" = some (some (.ref f17))) (l17 : K.lookup f17 = some ⟨oc17, od17, .func (PySem.W.fnOf "is_text" "is_text" (defArgs s_is_text) (defBody s_is_text) (defScope s_is_text) .none kV17 dc17 pm17 an17 cd17 ct17), sl17⟩) (c17 : PySem.W.codeIn K cd17 "is_text" = true) (k17 : PySem.W.keepIn K (.ref f17) = true)
    (a18 : PySem.W.nsIn K mainGlobals "need_text" = some (some (.ref f18))) (l18 : K.lookup f18 = some ⟨oc18, od18, .func (PySem.W.fnOf "need_text" "need_text" (defArgs s_need_text) (defBody s_need_text) (defScope s_need_text) .none kV18 dc18 pm18 an18 cd18 ct18), sl18⟩) (c18 : PySem.W.codeIn K cd18 "need_text" = true) (k18 : PySem.W.keepIn K (.ref f18) = true)
    (a19 : PySem.W.nsIn K mainGlobals "sign_width" = some (some (.ref f19))) (l19 : K.lookup f19 = some ⟨oc19, od19, .func (PySem.W.fnOf "sign_width" "sign_width" (defArgs s_sign_width) (defBody s_sign_width) (defScope s_sign_width) .none kV19 dc19 pm19 an19 cd19 ct19), sl19⟩) (c19 : PySem.W.codeIn K cd19 "sign_width" = true) (k19 : PySem.W.keepIn K (.ref f19) = true)
    (a20 : PySem.W.nsIn K mainGlobals "between" = some (some (.ref f20))) (l20 : K.lookup f20 = some ⟨oc20, od20, .func (PySem.W.fnOf "between" "between" (defArgs s_between) (defBody s_between) (defScope s_between) .none kV20 dc20 pm20 an20 cd20 ct20), sl20⟩) (c20 : PySem.W.codeIn K cd20 "between" = true) (k20 : PySem.W.keepIn K (.ref f20) = true)
    (a21 : PySem.W.nsIn K mainGlobals "begins_in" = some (some (.ref f21))) (l21 : K.lookup f21 = some ⟨oc21, od21, .func (PySem.W.fnOf "begins_in" "begins_in" (defArgs s_begins_in) (defBody s_begins_in) (defScope s_begins_in) .none kV21 dc21 pm21 an21 cd21 ct21), sl21⟩) (c21 : PySem.W.codeIn K cd21 "begins_in" = true) (k21 : PySem.W.keepIn K (.ref f21) = true)
    (a22 : PySem.W.nsIn K mainGlobals "begins" = some (some (.ref f22))) (l22 : K.lookup f22 = some ⟨oc22, od22, .func (PySem.W.fnOf "begins" "begins" (defArgs s_begins) (defBody s_begins) (defScope s_begins) .none kV22 dc22 pm22 an22 cd22 ct22), sl22⟩) (c22 : PySem.W.codeIn K cd22 "begins" = true) (k22 : PySem.W.keepIn K (.ref f22) = true)
    (a23 : PySem.W.nsIn K mainGlobals "need_fresh" = some (some (.ref f23))) (l23 : K.lookup f23 = some ⟨oc23, od23, .func (PySem.W.fnOf "need_fresh" "need_fresh" (defArgs s_need_fresh) (defBody s_need_fresh) (defScope s_need_fresh) .none kV23 dc23 pm23 an23 cd23 ct23), sl23⟩) (c23 : PySem.W.codeIn K cd23 "need_fresh" = true) (k23 : PySem.W.keepIn K (.ref f23) = true)
    (a24 : PySem.W.nsIn K mainGlobals "need_room" = some (some (.ref f24))) (l24 : K.lookup f24 = some ⟨oc24, od24, .func (PySem.W.fnOf "need_room" "need_room" (defArgs s_need_room) (defBody s_need_room) (defScope s_need_room) .none kV24 dc24 pm24 an24 cd24 ct24), sl24⟩) (c24 : PySem.W.codeIn K cd24 "need_room" = true) (k24 : PySem.W.keepIn K (.ref f24) = true)
    (a25 : PySem.W.nsIn K mainGlobals "with_letter" = some (some (.ref f25))) (l25 : K.lookup f25 = some ⟨oc25, od25, .func (PySem.W.fnOf "with_letter" "with_letter" (defArgs s_with_letter) (defBody s_with_letter) (defScope s_with_letter) .none kV25 dc25 pm25 an25 cd25 ct25), sl25⟩) (c25 : PySem.W.codeIn K cd25 "with_letter" = true) (k25 : PySem.W.keepIn K (.ref f25) = true)
    (a26 : PySem.W.nsIn K mainGlobals "with_like" = some (some (.ref f26))) (l26 : K.lookup f26 = some ⟨oc26, od26, .func (PySem.W.fnOf "with_like" "with_like" (defArgs s_with_like) (defBody s_with_like) (defScope s_with_like) .none kV26 dc26 pm26 an26 cd26 ct26), sl26⟩) (c26 : PySem.W.codeIn K cd26 "with_like" = true) (k26 : PySem.W.keepIn K (.ref f26) = true)
    (a27 : PySem.W.nsIn K mainGlobals "without_letter" = some (some (.ref f27))) (l27 : K.lookup f27 = some ⟨oc27, od27, .func (PySem.W.fnOf "without_letter" "without_letter" (defArgs s_without_letter) (defBody s_without_letter) (defScope s_without_letter) .none kV27 dc27 pm27 an27 cd27 ct27), sl27⟩) (c27 : PySem.W.codeIn K cd27 "without_letter" = true) (k27 : PySem.W.keepIn K (.ref f27) = true)
    (a28 : PySem.W.nsIn K mainGlobals "with_gap" = some (some (.ref f28))) (l28 : K.lookup f28 = some ⟨oc28, od28, .func (PySem.W.fnOf "with_gap" "with_gap" (defArgs s_with_gap) (defBody s_with_gap) (defScope s_with_gap) .none kV28 dc28 pm28 an28 cd28 ct28), sl28⟩) (c28 : PySem.W.codeIn K cd28 "with_gap" = true) (k28 : PySem.W.keepIn K (.ref f28) = true)
    (a29 : PySem.W.nsIn K mainGlobals "is_moved" = some (some (.ref f29))) (l29 : K.lookup f29 = some ⟨oc29, od29, .func (PySem.W.fnOf "is_moved" "is_moved" (defArgs s_is_moved) (defBody s_is_moved) (defScope s_is_moved) .none kV29 dc29 pm29 an29 cd29 ct29), sl29⟩) (c29 : PySem.W.codeIn K cd29 "is_moved" = true) (k29 : PySem.W.keepIn K (.ref f29) = true)
    (a30 : PySem.W.nsIn K mainGlobals "moved_lines" = some (some (.ref f30))) (l30 : K.lookup f30 = some ⟨oc30, od30, .func (PySem.W.fnOf "moved_lines" "moved_lines" (defArgs s_moved_lines) (defBody s_moved_lines) (defScope s_moved_lines) .none kV30 dc30 pm30 an30 cd30 ct30), sl30⟩) (c30 : PySem.W.codeIn K cd30 "moved_lines" = true) (k30 : PySem.W.keepIn K (.ref f30) = true)
    (a31 : PySem.W.nsIn K mainGlobals "grouped" = some (some (.ref f31))) (l31 : K.lookup f31 = some ⟨oc31, od31, .func (PySem.W.fnOf "grouped" "grouped" (defArgs s_grouped) (defBody s_grouped) (defScope s_grouped) .none kV31 dc31 pm31 an31 cd31 ct31), sl31⟩) (c31 : PySem.W.codeIn K cd31 "grouped" = true) (k31 : PySem.W.keepIn K (.ref f31) = true)
    (a32 : PySem.W.nsIn K mainGlobals "left_parting" = some (some (.ref f32))) (l32 : K.lookup f32 = some ⟨oc32, od32, .func (PySem.W.fnOf "left_parting" "left_parting" (defArgs s_left_parting) (defBody s_left_parting) (defScope s_left_parting) .none kV32 dc32 pm32 an32 cd32 ct32), sl32⟩) (c32 : PySem.W.codeIn K cd32 "left_parting" = true) (k32 : PySem.W.keepIn K (.ref f32) = true)
    (a33 : PySem.W.nsIn K mainGlobals "columns_of" = some (some (.ref f33))) (l33 : K.lookup f33 = some ⟨oc33, od33, .func (PySem.W.fnOf "columns_of" "columns_of" (defArgs s_columns_of) (defBody s_columns_of) (defScope s_columns_of) .none kV33 dc33 pm33 an33 cd33 ct33), sl33⟩) (c33 : PySem.W.codeIn K cd33 "columns_of" = true) (k33 : PySem.W.keepIn K (.ref f33) = true)
    (a34 : PySem.W.nsIn K mainGlobals "right_parting" = some (some (.ref f34))) (l34 : K.lookup f34 = some ⟨oc34, od34, .func (PySem.W.fnOf "right_parting" "right_parting" (defArgs s_right_parting) (defBody s_right_parting) (defScope s_right_parting) .none kV34 dc34 pm34 an34 cd34 ct34), sl34⟩) (c34 : PySem.W.codeIn K cd34 "right_parting" = true) (k34 : PySem.W.keepIn K (.ref f34) = true)
    (a35 : PySem.W.nsIn K mainGlobals "_law_box" = some (some (.ref f35))) (l35 : K.lookup f35 = some ⟨oc35, od35, .func (PySem.W.fnOf "_law_box" "_law_box" (defArgs s_law_box) (defBody s_law_box) (defScope s_law_box) .none kV35 dc35 pm35 an35 cd35 ct35), sl35⟩) (c35 : PySem.W.codeIn K cd35 "_law_box" = true) (k35 : PySem.W.keepIn K (.ref f35) = true)
    (a36 : PySem.W.nsIn K mainGlobals "_law_take" = some (some (.ref f36))) (l36 : K.lookup f36 = some ⟨oc36, od36, .func (PySem.W.fnOf "_law_take" "_law_take" (defArgs s_law_take) (defBody s_law_take) (defScope s_law_take) .none kV36 dc36 pm36 an36 cd36 ct36), sl36⟩) (c36 : PySem.W.codeIn K cd36 "_law_take" = true) (k36 : PySem.W.keepIn K (.ref f36) = true)
    (a37 : PySem.W.nsIn K mainGlobals "_law_face" = some (some (.ref f37))) (l37 : K.lookup f37 = some ⟨oc37, od37, .func (PySem.W.fnOf "_law_face" "_law_face" (defArgs s_law_face) (defBody s_law_face) (defScope s_law_face) .none kV37 dc37 pm37 an37 cd37 ct37), sl37⟩) (c37 : PySem.W.codeIn K cd37 "_law_face" = true) (k37 : PySem.W.keepIn K (.ref f37) = true)
    (a38 : PySem.W.nsIn K mainGlobals "_law_letters" = some (some (.ref f38))) (l38 : K.lookup f38 = some ⟨oc38, od38, .func (PySem.W.fnOf "_law_letters" "_law_letters" (defArgs s_law_letters) (defBody s_law_letters) (defScope s_law_letters) .none kV38 dc38 pm38 an38 cd38 ct38), sl38⟩) (c38 : PySem.W.codeIn K cd38 "_law_letters" = true) (k38 : PySem.W.keepIn K (.ref f38) = true)
    (a39 : PySem.W.nsIn K mainGlobals "_law_rows" = some (some (.ref f39))) (l39 : K.lookup f39 = some ⟨oc39, od39, .func (PySem.W.fnOf "_law_rows" "_law_rows" (defArgs s_law_rows) (defBody s_law_rows) (defScope s_law_rows) .none kV39 dc39 pm39 an39 cd39 ct39), sl39⟩) (c39 : PySem.W.codeIn K cd39 "_law_rows" = true) (k39 : PySem.W.keepIn K (.ref f39) = true)
    (a40 : PySem.W.nsIn K mainGlobals "_law_list" = some (some (.ref f40))) (l40 : K.lookup f40 = some ⟨oc40, od40, .func (PySem.W.fnOf "_law_list" "_law_list" (defArgs s_law_list) (defBody s_law_list) (defScope s_law_list) .none kV40 dc40 pm40 an40 cd40 ct40), sl40⟩) (c40 : PySem.W.codeIn K cd40 "_law_list" = true) (k40 : PySem.W.keepIn K (.ref f40) = true)
    (a41 : PySem.W.nsIn K mainGlobals "_law_pairs" = some (some (.ref f41))) (l41 : K.lookup f41 = some ⟨oc41, od41, .func (PySem.W.fnOf "_law_pairs" "_law_pairs" (defArgs s_law_pairs) (defBody s_law_pairs) (defScope s_law_pairs) .none kV41 dc41 pm41 an41 cd41 ct41), sl41⟩) (c41 : PySem.W.codeIn K cd41 "_law_pairs" = true) (k41 : PySem.W.keepIn K (.ref f41) = true)
    (a42 : PySem.W.nsIn K mainGlobals "_law_text" = some (some (.ref f42))) (l42 : K.lookup f42 = some ⟨oc42, od42, .func (PySem.W.fnOf "_law_text" "_law_text" (defArgs s_law_text) (defBody s_law_text) (defScope s_law_text) .none kV42 dc42 pm42 an42 cd42 ct42), sl42⟩) (c42 : PySem.W.codeIn K cd42 "_law_text" = true) (k42 : PySem.W.keepIn K (.ref f42) = true)
    (a43 : PySem.W.nsIn K mainGlobals "_law_fresh" = some (some (.ref f43))) (l43 : K.lookup f43 = some ⟨oc43, od43, .func (PySem.W.fnOf "_law_fresh" "_law_fresh" (defArgs s_law_fresh) (defBody s_law_fresh) (defScope s_law_fresh) .none kV43 dc43 pm43 an43 cd43 ct43), sl43⟩) (c43 : PySem.W.codeIn K cd43 "_law_fresh" = true) (k43 : PySem.W.keepIn K (.ref f43) = true)
    (a44 : PySem.W.nsIn K mainGlobals "law" = some (some (.ref f44))) (l44 : K.lookup f44 = some ⟨oc44, od44, .func (PySem.W.fnOf "law" "law" (defArgs s_law) (defBody s_law) (defScope s_law) .none kV44 dc44 pm44 an44 cd44 ct44), sl44⟩) (c44 : PySem.W.codeIn K cd44 "law" = true) (k44 : PySem.W.keepIn K (.ref f44) = true)
    (xa_NoLetter : PySem.W.nsIn K mainGlobals "NoLetter" = some (some (.ref a_NoLetter))) (h1_NoLetter : K.lookup a_NoLetter = some ⟨.type "type", d1_NoLetter, .cls cd_NoLetter, sl_NoLetter⟩) (q1_NoLetter : cd_NoLetter.mro = .ref a_NoLetter :: .ref b_NoLetter :: veTail) (q2_NoLetter : sl_NoLetter.toList = [s1_NoLetter, s2_NoLetter, s3_NoLetter, s4_NoLetter, some (.builtin "ValueError.__new__"), s6_NoLetter]) (q3_NoLetter : cd_NoLetter.hasDel = false) (q4_NoLetter : cd_NoLetter.ns = n_NoLetter) (h2_NoLetter : K.lookup n_NoLetter = some ⟨c3_NoLetter, d3_NoLetter, .dict es_NoLetter ep_NoLetter, sn_NoLetter⟩) (q5_NoLetter : allStr es_NoLetter = true) (n1_NoLetter : PySem.W.nsIn K n_NoLetter "__init__" = some none) (h3_NoLetter : K.lookup b_NoLetter = some ⟨.type "type", d2_NoLetter, .cls cb_NoLetter, sb_NoLetter⟩) (q6_NoLetter : cb_NoLetter.ns = m_NoLetter) (h4_NoLetter : K.lookup m_NoLetter = some ⟨c4_NoLetter, d4_NoLetter, .dict em_NoLetter eq_NoLetter, sm_NoLetter⟩) (q7_NoLetter : allStr em_NoLetter = true) (n2_NoLetter : PySem.W.nsIn K m_NoLetter "__init__" = some none) (xk_NoLetter : PySem.W.keepIn K (.ref a_NoLetter) = true) (xb_NoLetter : PySem.W.subIn K (.ref a_NoLetter) (.type "BaseException") = some true) (xt_NoLetter : PySem.W.typeIn K (.ref a_NoLetter) = some (.type "type"))
    (xa_NoLine : PySem.W.nsIn K mainGlobals "NoLine" = some (some (.ref a_NoLine))) (h1_NoLine : K.lookup a_NoLine = some ⟨.type "type", d1_NoLine, .cls cd_NoLine, sl_NoLine⟩) (q1_NoLine : cd_NoLine.mro = .ref a_NoLine :: .ref b_NoLine :: veTail) (q2_NoLine : sl_NoLine.toList = [s1_NoLine, s2_NoLine, s3_NoLine, s4_NoLine, some (.builtin "ValueError.__new__"), s6_NoLine]) (q3_NoLine : cd_NoLine.hasDel = false) (q4_NoLine : cd_NoLine.ns = n_NoLine) (h2_NoLine : K.lookup n_NoLine = some ⟨c3_NoLine, d3_NoLine, .dict es_NoLine ep_NoLine, sn_NoLine⟩) (q5_NoLine : allStr es_NoLine = true) (n1_NoLine : PySem.W.nsIn K n_NoLine "__init__" = some none) (h3_NoLine : K.lookup b_NoLine = some ⟨.type "type", d2_NoLine, .cls cb_NoLine, sb_NoLine⟩) (q6_NoLine : cb_NoLine.ns = m_NoLine) (h4_NoLine : K.lookup m_NoLine = some ⟨c4_NoLine, d4_NoLine, .dict em_NoLine eq_NoLine, sm_NoLine⟩) (q7_NoLine : allStr em_NoLine = true) (n2_NoLine : PySem.W.nsIn K m_NoLine "__init__" = some none) (xk_NoLine : PySem.W.keepIn K (.ref a_NoLine) = true) (xb_NoLine : PySem.W.subIn K (.ref a_NoLine) (.type "BaseException") = some true) (xt_NoLine : PySem.W.typeIn K (.ref a_NoLine) = some (.type "type"))
    (xa_TooMany : PySem.W.nsIn K mainGlobals "TooMany" = some (some (.ref a_TooMany))) (h1_TooMany : K.lookup a_TooMany = some ⟨.type "type", d1_TooMany, .cls cd_TooMany, sl_TooMany⟩) (q1_TooMany : cd_TooMany.mro = .ref a_TooMany :: .ref b_TooMany :: veTail) (q2_TooMany : sl_TooMany.toList = [s1_TooMany, s2_TooMany, s3_TooMany, s4_TooMany, some (.builtin "ValueError.__new__"), s6_TooMany]) (q3_TooMany : cd_TooMany.hasDel = false) (q4_TooMany : cd_TooMany.ns = n_TooMany) (h2_TooMany : K.lookup n_TooMany = some ⟨c3_TooMany, d3_TooMany, .dict es_TooMany ep_TooMany, sn_TooMany⟩) (q5_TooMany : allStr es_TooMany = true) (n1_TooMany : PySem.W.nsIn K n_TooMany "__init__" = some none) (h3_TooMany : K.lookup b_TooMany = some ⟨.type "type", d2_TooMany, .cls cb_TooMany, sb_TooMany⟩) (q6_TooMany : cb_TooMany.ns = m_TooMany) (h4_TooMany : K.lookup m_TooMany = some ⟨c4_TooMany, d4_TooMany, .dict em_TooMany eq_TooMany, sm_TooMany⟩) (q7_TooMany : allStr em_TooMany = true) (n2_TooMany : PySem.W.nsIn K m_TooMany "__init__" = some none) (xk_TooMany : PySem.W.keepIn K (.ref a_TooMany) = true) (xb_TooMany : PySem.W.subIn K (.ref a_TooMany) (.type "BaseException") = some true) (xt_TooMany : PySem.W.typeIn K (.ref a_TooMany) = some (.type "type"))
    (xa_NoNumber : PySem.W.nsIn K mainGlobals "NoNumber" = some (some (.ref a_NoNumber))) (h1_NoNumber : K.lookup a_NoNumber = some ⟨.type "type", d1_NoNumber, .cls cd_NoNumber, sl_NoNumber⟩) (q1_NoNumber : cd_NoNumber.mro = .ref a_NoNumber :: .ref b_NoNumber :: veTail) (q2_NoNumber : sl_NoNumber.toList = [s1_NoNumber, s2_NoNumber, s3_NoNumber, s4_NoNumber, some (.builtin "ValueError.__new__"), s6_NoNumber]) (q3_NoNumber : cd_NoNumber.hasDel = false) (q4_NoNumber : cd_NoNumber.ns = n_NoNumber) (h2_NoNumber : K.lookup n_NoNumber = some ⟨c3_NoNumber, d3_NoNumber, .dict es_NoNumber ep_NoNumber, sn_NoNumber⟩) (q5_NoNumber : allStr es_NoNumber = true) (n1_NoNumber : PySem.W.nsIn K n_NoNumber "__init__" = some none) (h3_NoNumber : K.lookup b_NoNumber = some ⟨.type "type", d2_NoNumber, .cls cb_NoNumber, sb_NoNumber⟩) (q6_NoNumber : cb_NoNumber.ns = m_NoNumber) (h4_NoNumber : K.lookup m_NoNumber = some ⟨c4_NoNumber, d4_NoNumber, .dict em_NoNumber eq_NoNumber, sm_NoNumber⟩) (q7_NoNumber : allStr em_NoNumber = true) (n2_NoNumber : PySem.W.nsIn K m_NoNumber "__init__" = some none) (xk_NoNumber : PySem.W.keepIn K (.ref a_NoNumber) = true) (xb_NoNumber : PySem.W.subIn K (.ref a_NoNumber) (.type "BaseException") = some true) (xt_NoNumber : PySem.W.typeIn K (.ref a_NoNumber) = some (.type "type"))
    (xa_NoGap : PySem.W.nsIn K mainGlobals "NoGap" = some (some (.ref a_NoGap))) (h1_NoGap : K.lookup a_NoGap = some ⟨.type "type", d1_NoGap, .cls cd_NoGap, sl_NoGap⟩) (q1_NoGap : cd_NoGap.mro = .ref a_NoGap :: .ref b_NoGap :: veTail) (q2_NoGap : sl_NoGap.toList = [s1_NoGap, s2_NoGap, s3_NoGap, s4_NoGap, some (.builtin "ValueError.__new__"), s6_NoGap]) (q3_NoGap : cd_NoGap.hasDel = false) (q4_NoGap : cd_NoGap.ns = n_NoGap) (h2_NoGap : K.lookup n_NoGap = some ⟨c3_NoGap, d3_NoGap, .dict es_NoGap ep_NoGap, sn_NoGap⟩) (q5_NoGap : allStr es_NoGap = true) (n1_NoGap : PySem.W.nsIn K n_NoGap "__init__" = some none) (h3_NoGap : K.lookup b_NoGap = some ⟨.type "type", d2_NoGap, .cls cb_NoGap, sb_NoGap⟩) (q6_NoGap : cb_NoGap.ns = m_NoGap) (h4_NoGap : K.lookup m_NoGap = some ⟨c4_NoGap, d4_NoGap, .dict em_NoGap eq_NoGap, sm_NoGap⟩) (q7_NoGap : allStr em_NoGap = true) (n2_NoGap : PySem.W.nsIn K m_NoGap "__init__" = some none) (xk_NoGap : PySem.W.keepIn K (.ref a_NoGap) = true) (xb_NoGap : PySem.W.subIn K (.ref a_NoGap) (.type "BaseException") = some true) (xt_NoGap : PySem.W.typeIn K (.ref a_NoGap) = some (.type "type"))
    (zc_LETTERS : PySem.W.nsIn K mainGlobals "LETTERS" = some (some (.str "abcdefghijklmnopqrstuvwxyz" t_LETTERS)))
    (zc_FAR : PySem.W.nsIn K mainGlobals "FAR" = some (some (.int 9 t_FAR)))
    (zc_MOST_LETTERS : PySem.W.nsIn K mainGlobals "MOST_LETTERS" = some (some (.int 10 t_MOST_LETTERS)))
    (z_isinstance : PySem.W.nsIn K mainGlobals "isinstance" = some none)
    (z_int : PySem.W.nsIn K mainGlobals "int" = some none)
    (z_bool : PySem.W.nsIn K mainGlobals "bool" = some none)
    (z_str : PySem.W.nsIn K mainGlobals "str" = some none)
    (z_len : PySem.W.nsIn K mainGlobals "len" = some none)
    (z_tuple : PySem.W.nsIn K mainGlobals "tuple" = some none)
    (z_set : PySem.W.nsIn K mainGlobals "set" = some none)
    (z_enumerate : PySem.W.nsIn K mainGlobals "enumerate" = some none)
    (z_all : PySem.W.nsIn K mainGlobals "all" = some none)
    (z_zip : PySem.W.nsIn K mainGlobals "zip" = some none)
    (z_any : PySem.W.nsIn K mainGlobals "any" = some none)
    (z_abs : PySem.W.nsIn K mainGlobals "abs" = some none)
    (z_divmod : PySem.W.nsIn K mainGlobals "divmod" = some none)
    (z_list : PySem.W.nsIn K mainGlobals "list" = some none)
    (z_range : PySem.W.nsIn K mainGlobals "range" = some none)
    (z_min : PySem.W.nsIn K mainGlobals "min" = some none)
    (z_max : PySem.W.nsIn K mainGlobals "max" = some none)
    (z_repr : PySem.W.nsIn K mainGlobals "repr" = some none)
    (z_dict : PySem.W.nsIn K mainGlobals "dict" = some none) :
    ∃ fd : FuncData, (∀ (s : Shared) (v : Value), BindsTo s fd ⟨[v], []⟩ [("_law_script", v)]) ∧ ∀ base : Heap, K.In base → base.Ns mainGlobals mg → FnD l.prog w K mg base 6 fa fd ["_law_script"] (F_law f32 f34) := by
  have e := hfa.symm.trans (PySem.W.mg_of X G a44)
  cases e
  have F0 := fun_mk (st := s_is_from_to) l0 c0 k0
  have F1 := fun_mk (st := s_is_letter) l1 c1 k1
  have F2 := fun_mk (st := s_is_wide) l2 c2 k2
  have F3 := fun_mk (st := s_is_gap) l3 c3 k3
  have F4 := fun_mk (st := s_is_face) l4 c4 k4
  have F5 := fun_mk (st := s_letters_of) l5 c5 k5
  have F6 := fun_mk (st := s_place_of) l6 c6 k6
  have F7 := fun_mk (st := s_need_letter) l7 c7 k7
  have F8 := fun_mk (st := s_is_told) l8 c8 k8
  have F9 := fun_mk (st := s_is_list) l9 c9 k9
  have F10 := fun_mk (st := s_gap_in) l10 c10 k10
  have F11 := fun_mk (st := s_gap_of) l11 c11 k11
  have F12 := fun_mk (st := s_rows_of) l12 c12 k12
  have F13 := fun_mk (st := s_from_rows) l13 c13 k13
  have F14 := fun_mk (st := s_all_pairs) l14 c14 k14
  have F15 := fun_mk (st := s_changed) l15 c15 k15
  have F16 := fun_mk (st := s_is_sign) l16 c16 k16
  have F17 := fun_mk (st := s_is_text) l17 c17 k17
  have F18 := fun_mk (st := s_need_text) l18 c18 k18
  have F19 := fun_mk (st := s_sign_width) l19 c19 k19
  have F20 := fun_mk (st := s_between) l20 c20 k20
  have F21 := fun_mk (st := s_begins_in) l21 c21 k21
  have F22 := fun_mk (st := s_begins) l22 c22 k22
  have F23 := fun_mk (st := s_need_fresh) l23 c23 k23
  have F24 := fun_mk (st := s_need_room) l24 c24 k24
  have F25 := fun_mk (st := s_with_letter) l25 c25 k25
  have F26 := fun_mk (st := s_with_like) l26 c26 k26
  have F27 := fun_mk (st := s_without_letter) l27 c27 k27
  have F28 := fun_mk (st := s_with_gap) l28 c28 k28
  have F29 := fun_mk (st := s_is_moved) l29 c29 k29
  have F30 := fun_mk (st := s_moved_lines) l30 c30 k30
  have F31 := fun_mk (st := s_grouped) l31 c31 k31
  have F32 := fun_mk (st := s_left_parting) l32 c32 k32
  have F33 := fun_mk (st := s_columns_of) l33 c33 k33
  have F34 := fun_mk (st := s_right_parting) l34 c34 k34
  have F35 := fun_mk (st := s_law_box) l35 c35 k35
  have F36 := fun_mk (st := s_law_take) l36 c36 k36
  have F37 := fun_mk (st := s_law_face) l37 c37 k37
  have F38 := fun_mk (st := s_law_letters) l38 c38 k38
  have F39 := fun_mk (st := s_law_rows) l39 c39 k39
  have F40 := fun_mk (st := s_law_list) l40 c40 k40
  have F41 := fun_mk (st := s_law_pairs) l41 c41 k41
  have F42 := fun_mk (st := s_law_text) l42 c42 k42
  have F43 := fun_mk (st := s_law_fresh) l43 c43 k43
  have F44 := fun_mk (st := s_law) l44 c44 k44
  have b0 := F0.binds (ps := ["thing", "least", "most"]) fun _ _ _ _ _ _ us hl => match us, hl with | [_, _, _], _ => rfl
  have A_is_from_to : At K mg "is_from_to" _ _ _ := ⟨PySem.W.mg_of X G a0, k0, b0⟩
  have b1 := F1.binds (ps := ["thing"]) fun _ _ _ _ _ _ us hl => match us, hl with | [_], _ => rfl
  have A_is_letter : At K mg "is_letter" _ _ _ := ⟨PySem.W.mg_of X G a1, k1, b1⟩
  have b2 := F2.binds (ps := ["thing"]) fun _ _ _ _ _ _ us hl => match us, hl with | [_], _ => rfl
  have A_is_wide : At K mg "is_wide" _ _ _ := ⟨PySem.W.mg_of X G a2, k2, b2⟩
  have b3 := F3.binds (ps := ["thing"]) fun _ _ _ _ _ _ us hl => match us, hl with | [_], _ => rfl
  have A_is_gap : At K mg "is_gap" _ _ _ := ⟨PySem.W.mg_of X G a3, k3, b3⟩
  have b4 := F4.binds (ps := ["thing"]) fun _ _ _ _ _ _ us hl => match us, hl with | [_], _ => rfl
  have A_is_face : At K mg "is_face" _ _ _ := ⟨PySem.W.mg_of X G a4, k4, b4⟩
  have b5 := F5.binds (ps := ["face"]) fun _ _ _ _ _ _ us hl => match us, hl with | [_], _ => rfl
  have A_letters_of : At K mg "letters_of" _ _ _ := ⟨PySem.W.mg_of X G a5, k5, b5⟩
  have b6 := F6.binds (ps := ["face", "thing"]) fun _ _ _ _ _ _ us hl => match us, hl with | [_, _], _ => rfl
  have A_place_of : At K mg "place_of" _ _ _ := ⟨PySem.W.mg_of X G a6, k6, b6⟩
  have b7 := F7.binds (ps := ["face", "thing"]) fun _ _ _ _ _ _ us hl => match us, hl with | [_, _], _ => rfl
  have A_need_letter : At K mg "need_letter" _ _ _ := ⟨PySem.W.mg_of X G a7, k7, b7⟩
  have b8 := F8.binds (ps := ["face", "thing"]) fun _ _ _ _ _ _ us hl => match us, hl with | [_, _], _ => rfl
  have A_is_told : At K mg "is_told" _ _ _ := ⟨PySem.W.mg_of X G a8, k8, b8⟩
  have b9 := F9.binds (ps := ["face", "thing"]) fun _ _ _ _ _ _ us hl => match us, hl with | [_, _], _ => rfl
  have A_is_list : At K mg "is_list" _ _ _ := ⟨PySem.W.mg_of X G a9, k9, b9⟩
  have b10 := F10.binds (ps := ["pairs", "left", "right"]) fun _ _ _ _ _ _ us hl => match us, hl with | [_, _, _], _ => rfl
  have A_gap_in : At K mg "gap_in" _ _ _ := ⟨PySem.W.mg_of X G a10, k10, b10⟩
  have b11 := F11.binds (ps := ["face", "pairs", "left", "right"]) fun _ _ _ _ _ _ us hl => match us, hl with | [_, _, _, _], _ => rfl
  have A_gap_of : At K mg "gap_of" _ _ _ := ⟨PySem.W.mg_of X G a11, k11, b11⟩
  have b12 := F12.binds (ps := ["face", "pairs"]) fun _ _ _ _ _ _ us hl => match us, hl with | [_, _], _ => rfl
  have A_rows_of : At K mg "rows_of" _ _ _ := ⟨PySem.W.mg_of X G a12, k12, b12⟩
  have b13 := F13.binds (ps := ["face", "rows"]) fun _ _ _ _ _ _ us hl => match us, hl with | [_, _], _ => rfl
  have A_from_rows : At K mg "from_rows" _ _ _ := ⟨PySem.W.mg_of X G a13, k13, b13⟩
  have b14 := F14.binds (ps := ["face"]) fun _ _ _ _ _ _ us hl => match us, hl with | [_], _ => rfl
  have A_all_pairs : At K mg "all_pairs" _ _ _ := ⟨PySem.W.mg_of X G a14, k14, b14⟩
  have b15 := F15.binds (ps := ["face", "pairs", "other"]) fun _ _ _ _ _ _ us hl => match us, hl with | [_, _, _], _ => rfl
  have A_changed : At K mg "changed" _ _ _ := ⟨PySem.W.mg_of X G a15, k15, b15⟩
  have b16 := F16.binds (ps := ["face", "thing"]) fun _ _ _ _ _ _ us hl => match us, hl with | [_, _], _ => rfl
  have A_is_sign : At K mg "is_sign" _ _ _ := ⟨PySem.W.mg_of X G a16, k16, b16⟩
  have b17 := F17.binds (ps := ["face", "thing"]) fun _ _ _ _ _ _ us hl => match us, hl with | [_, _], _ => rfl
  have A_is_text : At K mg "is_text" _ _ _ := ⟨PySem.W.mg_of X G a17, k17, b17⟩
  have b18 := F18.binds (ps := ["face", "thing"]) fun _ _ _ _ _ _ us hl => match us, hl with | [_, _], _ => rfl
  have A_need_text : At K mg "need_text" _ _ _ := ⟨PySem.W.mg_of X G a18, k18, b18⟩
  have b19 := F19.binds (ps := ["face", "sign"]) fun _ _ _ _ _ _ us hl => match us, hl with | [_, _], _ => rfl
  have A_sign_width : At K mg "sign_width" _ _ _ := ⟨PySem.W.mg_of X G a19, k19, b19⟩
  have b20 := F20.binds (ps := ["pairs", "one", "other"]) fun _ _ _ _ _ _ us hl => match us, hl with | [_, _, _], _ => rfl
  have A_between : At K mg "between" _ _ _ := ⟨PySem.W.mg_of X G a20, k20, b20⟩
  have b21 := F21.binds (ps := ["face", "pairs", "text"]) fun _ _ _ _ _ _ us hl => match us, hl with | [_, _, _], _ => rfl
  have A_begins_in : At K mg "begins_in" _ _ _ := ⟨PySem.W.mg_of X G a21, k21, b21⟩
  have b22 := F22.binds (ps := ["face", "pairs", "text"]) fun _ _ _ _ _ _ us hl => match us, hl with | [_, _, _], _ => rfl
  have A_begins : At K mg "begins" _ _ _ := ⟨PySem.W.mg_of X G a22, k22, b22⟩
  have b23 := F23.binds (ps := ["face", "letter"]) fun _ _ _ _ _ _ us hl => match us, hl with | [_, _], _ => rfl
  have A_need_fresh : At K mg "need_fresh" _ _ _ := ⟨PySem.W.mg_of X G a23, k23, b23⟩
  have b24 := F24.binds (ps := ["face"]) fun _ _ _ _ _ _ us hl => match us, hl with | [_], _ => rfl
  have A_need_room : At K mg "need_room" _ _ _ := ⟨PySem.W.mg_of X G a24, k24, b24⟩
  have b25 := F25.binds (ps := ["face", "letter", "width"]) fun _ _ _ _ _ _ us hl => match us, hl with | [_, _, _], _ => rfl
  have A_with_letter : At K mg "with_letter" _ _ _ := ⟨PySem.W.mg_of X G a25, k25, b25⟩
  have b26 := F26.binds (ps := ["face", "pairs", "letter", "other"]) fun _ _ _ _ _ _ us hl => match us, hl with | [_, _, _, _], _ => rfl
  have A_with_like : At K mg "with_like" _ _ _ := ⟨PySem.W.mg_of X G a26, k26, b26⟩
  have b27 := F27.binds (ps := ["face", "pairs", "letter"]) fun _ _ _ _ _ _ us hl => match us, hl with | [_, _, _], _ => rfl
  have A_without_letter : At K mg "without_letter" _ _ _ := ⟨PySem.W.mg_of X G a27, k27, b27⟩
  have b28 := F28.binds (ps := ["face", "pairs", "left", "right", "gap"]) fun _ _ _ _ _ _ us hl => match us, hl with | [_, _, _, _, _], _ => rfl
  have A_with_gap : At K mg "with_gap" _ _ _ := ⟨PySem.W.mg_of X G a28, k28, b28⟩
  have b29 := F29.binds (ps := ["pairs", "other", "text"]) fun _ _ _ _ _ _ us hl => match us, hl with | [_, _, _], _ => rfl
  have A_is_moved : At K mg "is_moved" _ _ _ := ⟨PySem.W.mg_of X G a29, k29, b29⟩
  have b30 := F30.binds (ps := ["face", "pairs", "other", "texts"]) fun _ _ _ _ _ _ us hl => match us, hl with | [_, _, _, _], _ => rfl
  have A_moved_lines : At K mg "moved_lines" _ _ _ := ⟨PySem.W.mg_of X G a30, k30, b30⟩
  have b31 := F31.binds (ps := ["letters", "marks"]) fun _ _ _ _ _ _ us hl => match us, hl with | [_, _], _ => rfl
  have A_grouped : At K mg "grouped" _ _ _ := ⟨PySem.W.mg_of X G a31, k31, b31⟩
  have b32 := F32.binds (ps := ["face", "pairs"]) fun _ _ _ _ _ _ us hl => match us, hl with | [_, _], _ => rfl
  have A_left_parting : At K mg "left_parting" _ _ _ := ⟨PySem.W.mg_of X G a32, k32, b32⟩
  have b33 := F33.binds (ps := ["face", "pairs"]) fun _ _ _ _ _ _ us hl => match us, hl with | [_, _], _ => rfl
  have A_columns_of : At K mg "columns_of" _ _ _ := ⟨PySem.W.mg_of X G a33, k33, b33⟩
  have b34 := F34.binds (ps := ["face", "pairs"]) fun _ _ _ _ _ _ us hl => match us, hl with | [_, _], _ => rfl
  have A_right_parting : At K mg "right_parting" _ _ _ := ⟨PySem.W.mg_of X G a34, k34, b34⟩
  have b35 := F35.binds (ps := ["_law_script", "_law_k"]) fun _ _ _ _ _ _ us hl => match us, hl with | [_, _], _ => rfl
  have A_law_box : At K mg "_law_box" _ _ _ := ⟨PySem.W.mg_of X G a35, k35, b35⟩
  have b36 := F36.binds (ps := ["_law_box_here", "_law_many"]) fun _ _ _ _ _ _ us hl => match us, hl with | [_, _], _ => rfl
  have A_law_take : At K mg "_law_take" _ _ _ := ⟨PySem.W.mg_of X G a36, k36, b36⟩
  have b37 := F37.binds (ps := ["_law_box_here", "_law_least", "_law_most"]) fun _ _ _ _ _ _ us hl => match us, hl with | [_, _, _], _ => rfl
  have A_law_face : At K mg "_law_face" _ _ _ := ⟨PySem.W.mg_of X G a37, k37, b37⟩
  have b38 := F38.binds (ps := ["_law_face_here"]) fun _ _ _ _ _ _ us hl => match us, hl with | [_], _ => rfl
  have A_law_letters : At K mg "_law_letters" _ _ _ := ⟨PySem.W.mg_of X G a38, k38, b38⟩
  have b39 := F39.binds (ps := ["_law_box_here", "_law_many"]) fun _ _ _ _ _ _ us hl => match us, hl with | [_, _], _ => rfl
  have A_law_rows : At K mg "_law_rows" _ _ _ := ⟨PySem.W.mg_of X G a39, k39, b39⟩
  have b40 := F40.binds (ps := ["_law_face_here", "_law_rows_here"]) fun _ _ _ _ _ _ us hl => match us, hl with | [_, _], _ => rfl
  have A_law_list : At K mg "_law_list" _ _ _ := ⟨PySem.W.mg_of X G a40, k40, b40⟩
  have b41 := F41.binds (ps := ["_law_box_here", "_law_face_here"]) fun _ _ _ _ _ _ us hl => match us, hl with | [_, _], _ => rfl
  have A_law_pairs : At K mg "_law_pairs" _ _ _ := ⟨PySem.W.mg_of X G a41, k41, b41⟩
  have b42 := F42.binds (ps := ["_law_box_here", "_law_face_here", "_law_most"]) fun _ _ _ _ _ _ us hl => match us, hl with | [_, _, _], _ => rfl
  have A_law_text : At K mg "_law_text" _ _ _ := ⟨PySem.W.mg_of X G a42, k42, b42⟩
  have b43 := F43.binds (ps := ["_law_box_here", "_law_face_here"]) fun _ _ _ _ _ _ us hl => match us, hl with | [_, _], _ => rfl
  have A_law_fresh : At K mg "_law_fresh" _ _ _ := ⟨PySem.W.mg_of X G a43, k43, b43⟩
  have b44 := F44.binds (ps := ["_law_script"]) fun _ _ _ _ _ _ us hl => match us, hl with | [_], _ => rfl
  have A_law : At K mg "law" _ _ _ := ⟨PySem.W.mg_of X G a44, k44, b44⟩
  have X_NoLetter : ExcAt K mg "NoLetter" a_NoLetter := ⟨PySem.W.mg_of X G xa_NoLetter, exc_two h1_NoLetter q1_NoLetter q2_NoLetter q3_NoLetter q4_NoLetter h2_NoLetter q5_NoLetter n1_NoLetter h3_NoLetter q6_NoLetter h4_NoLetter q7_NoLetter n2_NoLetter rfl, xk_NoLetter, xb_NoLetter, xt_NoLetter⟩
  have X_NoLine : ExcAt K mg "NoLine" a_NoLine := ⟨PySem.W.mg_of X G xa_NoLine, exc_two h1_NoLine q1_NoLine q2_NoLine q3_NoLine q4_NoLine h2_NoLine q5_NoLine n1_NoLine h3_NoLine q6_NoLine h4_NoLine q7_NoLine n2_NoLine rfl, xk_NoLine, xb_NoLine, xt_NoLine⟩
  have X_TooMany : ExcAt K mg "TooMany" a_TooMany := ⟨PySem.W.mg_of X G xa_TooMany, exc_two h1_TooMany q1_TooMany q2_TooMany q3_TooMany q4_TooMany h2_TooMany q5_TooMany n1_TooMany h3_TooMany q6_TooMany h4_TooMany q7_TooMany n2_TooMany rfl, xk_TooMany, xb_TooMany, xt_TooMany⟩
  have X_NoNumber : ExcAt K mg "NoNumber" a_NoNumber := ⟨PySem.W.mg_of X G xa_NoNumber, exc_two h1_NoNumber q1_NoNumber q2_NoNumber q3_NoNumber q4_NoNumber h2_NoNumber q5_NoNumber n1_NoNumber h3_NoNumber q6_NoNumber h4_NoNumber q7_NoNumber n2_NoNumber rfl, xk_NoNumber, xb_NoNumber, xt_NoNumber⟩
  have X_NoGap : ExcAt K mg "NoGap" a_NoGap := ⟨PySem.W.mg_of X G xa_NoGap, exc_two h1_NoGap q1_NoGap q2_NoGap q3_NoGap q4_NoGap h2_NoGap q5_NoGap n1_NoGap h3_NoGap q6_NoGap h4_NoGap q7_NoGap n2_NoGap rfl, xk_NoGap, xb_NoGap, xt_NoGap⟩
  have c_LETTERS := PySem.W.mg_of X G zc_LETTERS
  have c_FAR := PySem.W.mg_of X G zc_FAR
  have c_MOST_LETTERS := PySem.W.mg_of X G zc_MOST_LETTERS
  have m_isinstance := PySem.W.mg_none_of X G z_isinstance
  have m_int := PySem.W.mg_none_of X G z_int
  have m_bool := PySem.W.mg_none_of X G z_bool
  have m_str := PySem.W.mg_none_of X G z_str
  have m_len := PySem.W.mg_none_of X G z_len
  have m_tuple := PySem.W.mg_none_of X G z_tuple
  have m_set := PySem.W.mg_none_of X G z_set
  have m_enumerate := PySem.W.mg_none_of X G z_enumerate
  have m_all := PySem.W.mg_none_of X G z_all
  have m_zip := PySem.W.mg_none_of X G z_zip
  have m_any := PySem.W.mg_none_of X G z_any
  have m_abs := PySem.W.mg_none_of X G z_abs
  have m_divmod := PySem.W.mg_none_of X G z_divmod
  have m_list := PySem.W.mg_none_of X G z_list
  have m_range := PySem.W.mg_none_of X G z_range
  have m_min := PySem.W.mg_none_of X G z_min
  have m_max := PySem.W.mg_none_of X G z_max
  have m_repr := PySem.W.mg_none_of X G z_repr
  have m_dict := PySem.W.mg_none_of X G z_dict
  refine ⟨PySem.W.fnOf "law" "law" (defArgs s_law) (defBody s_law) (defScope s_law) .none kV44 dc44 pm44 an44 cd44 ct44, fun s v => .of_eq rfl, fun base _ _ => ?_⟩
  have G_is_from_to := ok_is_from_to (P := l.prog) (w := w) (mg := mg) (base := base) F0 m_isinstance m_int m_bool
  have G_is_letter := ok_is_letter (P := l.prog) (w := w) (mg := mg) (base := base) F1 m_isinstance m_str m_len c_LETTERS
  have G_is_wide := ok_is_wide (P := l.prog) (w := w) (mg := mg) (base := base) F2 G_is_from_to A_is_from_to
  have G_is_gap := ok_is_gap (P := l.prog) (w := w) (mg := mg) (base := base) F3 G_is_from_to A_is_from_to c_FAR
  have G_is_face := ok_is_face (P := l.prog) (w := w) (mg := mg) (base := base) F4 G_is_from_to A_is_from_to G_is_letter A_is_letter G_is_wide A_is_wide m_isinstance m_tuple m_len m_set c_MOST_LETTERS
  have G_letters_of := ok_letters_of (P := l.prog) (w := w) (mg := mg) (base := base) F5 m_tuple
  have G_place_of := ok_place_of (P := l.prog) (w := w) (mg := mg) (base := base) F6 m_enumerate
  have G_need_letter := ok_need_letter (P := l.prog) (w := w) (mg := mg) (base := base) F7 G_place_of A_place_of X_NoLetter
  have G_is_told := ok_is_told (P := l.prog) (w := w) (mg := mg) (base := base) F8 G_is_gap A_is_gap G_place_of A_place_of m_isinstance m_tuple m_len
  have G_is_list := ok_is_list (P := l.prog) (w := w) (mg := mg) (base := base) F9 G_is_told A_is_told m_all
  have G_gap_in := ok_gap_in (P := l.prog) (w := w) (mg := mg) (base := base) F10 
  have G_gap_of := ok_gap_of (P := l.prog) (w := w) (mg := mg) (base := base) F11 G_need_letter A_need_letter G_gap_in A_gap_in
  have G_rows_of := ok_rows_of (P := l.prog) (w := w) (mg := mg) (base := base) F12 G_letters_of A_letters_of G_gap_in A_gap_in m_tuple
  have G_from_rows := ok_from_rows (P := l.prog) (w := w) (mg := mg) (base := base) F13 G_letters_of A_letters_of m_zip m_tuple
  have G_all_pairs := ok_all_pairs (P := l.prog) (w := w) (mg := mg) (base := base) F14 G_letters_of A_letters_of
  have G_changed := ok_changed (P := l.prog) (w := w) (mg := mg) (base := base) F15 G_all_pairs A_all_pairs G_gap_in A_gap_in m_tuple
  have G_is_sign := ok_is_sign (P := l.prog) (w := w) (mg := mg) (base := base) F16 G_place_of A_place_of
  have G_is_text := ok_is_text (P := l.prog) (w := w) (mg := mg) (base := base) F17 G_is_sign A_is_sign m_isinstance m_str m_all
  have G_need_text := ok_need_text (P := l.prog) (w := w) (mg := mg) (base := base) F18 G_is_text A_is_text X_NoLine
  have G_sign_width := ok_sign_width (P := l.prog) (w := w) (mg := mg) (base := base) F19 G_place_of A_place_of
  have G_between := ok_between (P := l.prog) (w := w) (mg := mg) (base := base) F20 G_gap_in A_gap_in
  have G_begins_in := ok_begins_in (P := l.prog) (w := w) (mg := mg) (base := base) F21 G_sign_width A_sign_width G_between A_between m_enumerate m_tuple
  have G_begins := ok_begins (P := l.prog) (w := w) (mg := mg) (base := base) F22 G_need_text A_need_text G_begins_in A_begins_in
  have G_need_fresh := ok_need_fresh (P := l.prog) (w := w) (mg := mg) (base := base) F23 G_is_letter A_is_letter G_place_of A_place_of X_NoLetter
  have G_need_room := ok_need_room (P := l.prog) (w := w) (mg := mg) (base := base) F24 m_len c_MOST_LETTERS X_TooMany
  have G_with_letter := ok_with_letter (P := l.prog) (w := w) (mg := mg) (base := base) F25 G_need_fresh A_need_fresh G_is_wide A_is_wide G_need_room A_need_room X_NoNumber
  have G_with_like := ok_with_like (P := l.prog) (w := w) (mg := mg) (base := base) F26 G_need_fresh A_need_fresh G_need_letter A_need_letter G_need_room A_need_room G_letters_of A_letters_of G_gap_in A_gap_in G_from_rows A_from_rows
  have G_without_letter := ok_without_letter (P := l.prog) (w := w) (mg := mg) (base := base) F27 G_need_letter A_need_letter m_len m_tuple X_NoLetter
  have G_with_gap := ok_with_gap (P := l.prog) (w := w) (mg := mg) (base := base) F28 G_need_letter A_need_letter G_is_gap A_is_gap G_letters_of A_letters_of G_gap_in A_gap_in G_from_rows A_from_rows X_NoGap
  have G_is_moved := ok_is_moved (P := l.prog) (w := w) (mg := mg) (base := base) F29 G_between A_between m_zip m_any
  have G_moved_lines := ok_moved_lines (P := l.prog) (w := w) (mg := mg) (base := base) F30 G_need_text A_need_text G_is_moved A_is_moved m_isinstance m_tuple m_enumerate X_NoLine
  have G_grouped := ok_grouped (P := l.prog) (w := w) (mg := mg) (base := base) F31 m_zip m_tuple
  have G_left_parting := ok_left_parting (P := l.prog) (w := w) (mg := mg) (base := base) F32 G_grouped A_grouped G_rows_of A_rows_of G_letters_of A_letters_of
  have G_columns_of := ok_columns_of (P := l.prog) (w := w) (mg := mg) (base := base) F33 G_letters_of A_letters_of G_gap_in A_gap_in m_tuple
  have G_right_parting := ok_right_parting (P := l.prog) (w := w) (mg := mg) (base := base) F34 G_grouped A_grouped G_columns_of A_columns_of G_letters_of A_letters_of
  have G_law_box := ok_law_box (P := l.prog) (w := w) (mg := mg) (base := base) F35 m_len m_abs
  have G_law_take := ok_law_take (P := l.prog) (w := w) (mg := mg) (base := base) F36 m_divmod
  have G_law_face := ok_law_face (P := l.prog) (w := w) (mg := mg) (base := base) F37 G_law_take A_law_take m_list m_range m_len m_tuple
  have G_law_letters := ok_law_letters (P := l.prog) (w := w) (mg := mg) (base := base) F38 
  have G_law_rows := ok_law_rows (P := l.prog) (w := w) (mg := mg) (base := base) F39 G_law_take A_law_take m_range
  have G_law_list := ok_law_list (P := l.prog) (w := w) (mg := mg) (base := base) F40 G_law_letters A_law_letters m_zip m_tuple
  have G_law_pairs := ok_law_pairs (P := l.prog) (w := w) (mg := mg) (base := base) F41 G_law_list A_law_list G_law_rows A_law_rows m_len
  have G_law_text := ok_law_text (P := l.prog) (w := w) (mg := mg) (base := base) F42 G_law_letters A_law_letters G_law_take A_law_take m_range m_len
  have G_law_fresh := ok_law_fresh (P := l.prog) (w := w) (mg := mg) (base := base) F43 G_law_letters A_law_letters G_law_take A_law_take m_len
  have G_law := ok_law (P := l.prog) (w := w) (mg := mg) (base := base) F44 G_law_box A_law_box G_law_face A_law_face G_law_pairs A_law_pairs G_law_letters A_law_letters G_law_take A_law_take G_law_fresh A_law_fresh G_with_like A_with_like G_is_face A_is_face G_is_list A_is_list G_left_parting A_left_parting G_right_parting A_right_parting G_without_letter A_without_letter G_with_letter A_with_letter G_gap_of A_gap_of G_with_gap A_with_gap G_changed A_changed G_law_text A_law_text G_begins A_begins G_moved_lines A_moved_lines m_range m_len m_min m_max m_repr m_tuple m_dict
  exact G_law
end DV.k75

set_option maxHeartbeats 4000000
namespace DV
open PySem
/-! What a data-level program promises: plain rules. -/
def R.wp {α : Type} (r : R α) (P : α → Sto → Prop) (E : Str → Sto → Prop) : Prop :=
  match r with
  | .ok a S => P a S
  | .ex c S => E c S
  | .no => False
structure K where
  nx : En → Sto → Prop
  rt : D → Sto → Prop := fun _ _ => False
  bk : En → Sto → Prop := fun _ _ => False
  ct : En → Sto → Prop := fun _ _ => False
  ex : Str → Sto → Prop := fun _ _ => False
def F.wp (f : F) (N : K) : Prop :=
  match f with
  | .nx σ S => N.nx σ S
  | .rt d S => N.rt d S
  | .bk σ S => N.bk σ S
  | .ct σ S => N.ct σ S
  | .ex c S => N.ex c S
  | .no => False
abbrev noE : Str → Sto → Prop := fun _ _ => False
section
variable {α β : Type} {P : α → Sto → Prop} {E : Str → Sto → Prop} {N : K} {σ : En} {S : Sto}
@[simp ↓] theorem wp_ok (a : α) (S : Sto) : (R.ok a S).wp P E = P a S := id rfl
@[simp ↓] theorem wp_ex (c : Str) (S : Sto) : (R.ex c S : R α).wp P E = E c S := id rfl
@[simp ↓] theorem wp_no : (R.no : R α).wp P E = False := id rfl
@[simp ↓] theorem wp_nx : (F.nx σ S).wp N = N.nx σ S := id rfl
@[simp ↓] theorem wp_rt (d : D) : (F.rt d S).wp N = N.rt d S := id rfl
@[simp ↓] theorem wp_bk : (F.bk σ S).wp N = N.bk σ S := id rfl
@[simp ↓] theorem wp_ct : (F.ct σ S).wp N = N.ct σ S := id rfl
@[simp ↓] theorem wp_fex (c : Str) : (F.ex c S).wp N = N.ex c S := id rfl
@[simp ↓] theorem wp_fno : F.no.wp N = False := id rfl
@[simp ↓] theorem wp_bind (r : R β) (k : β → Sto → R α) : (r.bind k).wp P E = r.wp (fun a S => (k a S).wp P E) E := by cases r <;> rfl
@[simp ↓] theorem wp_run (r : R β) (k : β → Sto → F) : (r.run k).wp N = r.wp (fun a S => (k a S).wp N) N.ex := by cases r <;> rfl
theorem R.wp.mono {r : R α} {P' : α → Sto → Prop} {E' : Str → Sto → Prop} (h : r.wp P E) (hp : ∀ a S, P a S → P' a S) (he : ∀ c S, E c S → E' c S) : r.wp P' E' := by
  cases r with
  | ok a S => exact hp _ _ h
  | ex c S => exact he _ _ h
  | no => exact h
theorem R.wp.to {r : R α} {P' : α → Sto → Prop} (h : r.wp P noE) (hp : ∀ a S, P a S → P' a S) : r.wp P' E := h.mono hp fun _ _ h => h.elim
theorem R.wp.out {r : R α} (h : r.wp P noE) : ∃ a S, r = .ok a S ∧ P a S := by
  cases r with
  | ok a S => exact ⟨a, S, rfl, h⟩
  | ex c S => exact h.elim
  | no => exact h.elim
theorem F.wp.mono {f : F} {N' : K} (h : f.wp N) (h1 : ∀ σ S, N.nx σ S → N'.nx σ S) (h2 : ∀ d S, N.rt d S → N'.rt d S) (h3 : ∀ σ S, N.bk σ S → N'.bk σ S) (h4 : ∀ σ S, N.ct σ S → N'.ct σ S) (h5 : ∀ c S, N.ex c S → N'.ex c S) : f.wp N' := by
  cases f with
  | nx σ S => exact h1 _ _ h
  | rt d S => exact h2 _ _ h
  | bk σ S => exact h3 _ _ h
  | ct σ S => exact h4 _ _ h
  | ex c S => exact h5 _ _ h
  | no => exact h
/-! ### statements -/
@[simp ↓] theorem wp_seq (a b : Sx) : (seqS a b σ S).wp N = (a σ S).wp { N with nx := fun σ S => (b σ S).wp N } := by
  unfold seqS
  cases a σ S <;> rfl
@[simp ↓] theorem wp_pass : (passS σ S).wp N = N.nx σ S := id rfl
@[simp ↓] theorem wp_brk : (brkS σ S).wp N = N.bk σ S := id rfl
@[simp ↓] theorem wp_cnt : (cntS σ S).wp N = N.ct σ S := id rfl
@[simp ↓] theorem wp_asg (e : Ex) (g : Tg) : (asgS e g σ S).wp N = (e σ S).wp (fun d S1 => (g d σ S1).wp (fun σ2 S2 => N.nx σ2 S2) N.ex) N.ex := by
  unfold asgS
  rw [wp_run]
  congr 1
  funext d S1
  rw [wp_run]
  rfl
@[simp ↓] theorem wp_par (is : List Nat) (a : Ax) : (parS is a σ S).wp N = (a σ S).wp (fun ds S1 => N.nx (setAll is ds σ) S1) N.ex := by
  unfold parS
  rw [wp_run]
  rfl
@[simp ↓] theorem wp_expr (e : Ex) : (exprS e σ S).wp N = (e σ S).wp (fun _ S1 => N.nx σ S1) N.ex := by
  unfold exprS
  rw [wp_run]
  rfl
@[simp ↓] theorem wp_ret (e : Ex) : (retS e σ S).wp N = (e σ S).wp (fun d S1 => N.rt d S1) N.ex := by
  unfold retS
  rw [wp_run]
  rfl
@[simp ↓] theorem wp_if (c : Tx) (a b : Sx) : (ifS c a b σ S).wp N = (c σ S).wp (fun k S1 => (if k = true then a σ S1 else b σ S1).wp N) N.ex := by
  unfold ifS
  rw [wp_run]
theorem wp_ite {f g : F} {p : Prop} [Decidable p] : (if p then f else g).wp N = if p then f.wp N else g.wp N := by split <;> rfl
theorem wp_iteR {f g : R α} {p : Prop} [Decidable p] : (if p then f else g).wp P E = if p then f.wp P E else g.wp P E := by split <;> rfl
@[simp ↓] theorem wp_raise (c : Str) : (raiseS c σ S).wp N = N.ex c S := id rfl
@[simp ↓] theorem wp_for (it : It) (g : Tg) (b : Sx) : (forS it g b σ S).wp N = (it σ S).wp (fun xs S1 => (forL g b xs σ S1).wp N) N.ex := by
  unfold forS
  rw [wp_run]
/-- a walk: I of what has been walked -/
theorem wp_forL {g : Tg} {b : Sx} {xs : List D} (I : List D → En → Sto → Prop) (h0 : I [] σ S)
    (hs : ∀ pre x post σ S, xs = pre ++ x :: post → I pre σ S → (g x σ S).wp (fun σ1 S1 => (b σ1 S1).wp { N with nx := fun σ2 S2 => I (pre ++ [x]) σ2 S2, ct := fun σ2 S2 => I (pre ++ [x]) σ2 S2, bk := fun σ2 S2 => N.nx σ2 S2 }) N.ex)
    (he : ∀ σ S, I xs σ S → N.nx σ S) : (forL g b xs σ S).wp N := by
  have key : ∀ (post pre : List D) (σ : En) (S : Sto), xs = pre ++ post → I pre σ S → (forL g b post σ S).wp N := by
    intro post
    induction post with
    | nil =>
      intro pre σ S e h
      rw [List.append_nil] at e
      subst e
      exact he σ S h
    | cons x post ih =>
      intro pre σ S e h
      have z := hs pre x post σ S e h
      have e2 : xs = (pre ++ [x]) ++ post := by rw [e]; simp
      unfold forL
      cases hg : g x σ S with
      | ok σ1 S1 =>
        rw [hg] at z
        have z2 : (b σ1 S1).wp _ := z
        simp only
        cases hb : b σ1 S1 with
        | nx σ2 S2 => rw [hb] at z2; exact ih _ σ2 S2 e2 z2
        | ct σ2 S2 => rw [hb] at z2; exact ih _ σ2 S2 e2 z2
        | bk σ2 S2 => rw [hb] at z2; exact z2
        | rt d S2 => rw [hb] at z2; exact z2
        | ex c S2 => rw [hb] at z2; exact z2
        | no => rw [hb] at z2; exact z2
      | ex c S1 => rw [hg] at z; exact z
      | no => rw [hg] at z; exact z
  exact key xs [] σ S rfl h0
/-- a comprehension that may change the store: I of what has been walked and what has been made -/
theorem wp_lcL {g : Tg} {c : Tx} {e : Ex} {xs : List D} {P : List D → Sto → Prop} {E : Str → Sto → Prop} (I : List D → List D → Sto → Prop) (h0 : I [] [] S)
    (hs : ∀ pre x post acc S, xs = pre ++ x :: post → I pre acc S → (g x σ S).wp (fun σ1 S1 => (c σ1 S1).wp (fun k S2 => if k = true then (e σ1 S2).wp (fun d S3 => I (pre ++ [x]) (acc ++ [d]) S3) noE else I (pre ++ [x]) acc S2) noE) noE)
    (he : ∀ acc S, I xs acc S → P acc S) : (lcL g c e σ xs S).wp P E := by
  have key : ∀ (post pre acc : List D) (S : Sto), xs = pre ++ post → I pre acc S → (lcL g c e σ post S).wp (fun ds S' => I xs (acc ++ ds) S') E := by
    intro post
    induction post with
    | nil =>
      intro pre acc S e h
      rw [List.append_nil] at e
      subst e
      show I xs (acc ++ []) S
      rw [List.append_nil]
      exact h
    | cons x post ih =>
      intro pre acc S e1 h
      have z := hs pre x post acc S e1 h
      have e2 : xs = (pre ++ [x]) ++ post := by rw [e1]; simp
      unfold lcL
      cases hg : g x σ S with
      | ex c S1 => rw [hg] at z; exact z.elim
      | no => rw [hg] at z; exact z.elim
      | ok σ1 S1 =>
        rw [hg, wp_ok] at z
        simp only
        cases hc : c σ1 S1 with
        | ex c S1 => rw [hc] at z; exact z.elim
        | no => rw [hc] at z; exact z.elim
        | ok k S2 =>
          rw [hc, wp_ok] at z
          simp only
          cases k with
          | false =>
            simp only [Bool.false_eq_true, if_false] at z ⊢
            exact ih _ _ _ e2 z
          | true =>
            simp only [if_true] at z ⊢
            cases hd : e σ1 S2 with
            | ex c S1 => rw [hd] at z; exact z.elim
            | no => rw [hd] at z; exact z.elim
            | ok d S3 =>
              rw [hd, wp_ok] at z
              simp only
              rw [wp_bind]
              refine (ih _ _ _ e2 z).mono (fun ds S' h => ?_) fun _ _ h => h
              show I xs (acc ++ d :: ds) S'
              have : acc ++ d :: ds = acc ++ [d] ++ ds := by simp
              rw [this]
              exact h
  exact (key xs [] [] S rfl h0).mono (fun a S h => he _ _ h) fun _ _ h => h
/-- a comprehension that changes nothing -/
theorem lcL_pure {g : Tg} {c : Tx} {e : Ex} {xs : List D} (p : D → Bool) (f : D → D)
    (h : ∀ x ∈ xs, ∃ σ1, g x σ S = .ok σ1 S ∧ c σ1 S = .ok (p x) S ∧ (p x = true → e σ1 S = .ok (f x) S)) : lcL g c e σ xs S = .ok ((xs.filter p).map f) S := by
  induction xs with
  | nil => rfl
  | cons x xs ih =>
    obtain ⟨σ1, h1, h2, h3⟩ := h x (List.mem_cons_self ..)
    have ih := ih fun y hy => h y (List.mem_cons_of_mem _ hy)
    unfold lcL
    rw [h1]
    simp only [h2]
    cases hp : p x with
    | false => simp [ih, hp]
    | true => simp [h3 hp, ih, hp]
/-! ### expressions -/
@[simp ↓] theorem wp_cons (e : Ex) (r : Ax) {P : List D → Sto → Prop} : (consA e r σ S).wp P E = (e σ S).wp (fun d S1 => (r σ S1).wp (fun ds S2 => P (d :: ds) S2) E) E := by
  unfold consA
  rw [wp_bind]
  congr 1
  funext d S1
  rw [wp_bind]
  rfl
@[simp ↓] theorem wp_nil {P : List D → Sto → Prop} : (nilA σ S).wp P E = P [] S := id rfl
@[simp ↓] theorem wp_c (d : PyData) {P : D → Sto → Prop} : (cE d σ S).wp P E = P (.py d) S := id rfl
@[simp ↓] theorem wp_op (g : D → D → Sto → R D) (a b : Ex) {P : D → Sto → Prop} : (opE g a b σ S).wp P E = (a σ S).wp (fun x S1 => (b σ S1).wp (fun y S2 => (g x y S2).wp P E) E) E := by
  unfold opE
  rw [wp_bind]
  congr 1
  funext d S1
  rw [wp_bind]
@[simp ↓] theorem wp_op1 (g : D → Sto → R D) (a : Ex) {P : D → Sto → Prop} : (op1 g a σ S).wp P E = (a σ S).wp (fun x S1 => (g x S1).wp P E) E := by
  unfold op1
  rw [wp_bind]
@[simp ↓] theorem wp_call (g : List D → Sto → R D) (a : Ax) {P : D → Sto → Prop} : (callE g a σ S).wp P E = (a σ S).wp (fun ds S1 => (g ds S1).wp P E) E := by
  unfold callE
  rw [wp_bind]
@[simp ↓] theorem wp_callL (g : List D → Sto → R (List D)) (a : Ax) {P : List D → Sto → Prop} : (callL g a σ S).wp P E = (a σ S).wp (fun ds S1 => (g ds S1).wp P E) E := by
  unfold callL
  rw [wp_bind]
@[simp ↓] theorem wp_methL (g : D → List D → Sto → R D) (o : Ex) (a : Ax) {P : D → Sto → Prop} : (methL g o a σ S).wp P E = (o σ S).wp (fun x S1 => if lsOk S1 x = true then (a σ S1).wp (fun ds S2 => (g x ds S2).wp P E) E else False) E := by
  unfold methL
  rw [wp_bind]
  congr 1
  funext d S1
  rw [wp_iteR, wp_bind]
  rfl
@[simp ↓] theorem wp_tup (a : Ax) {P : D → Sto → Prop} : (tupE a σ S).wp P E = (a σ S).wp (fun ds S1 => match pysOf ds with
  | some ps => P (.py (.tuple ps)) S1
  | none => False) E := by
  unfold tupE
  rw [wp_bind]
  congr 1
  funext d S1
  cases pysOf d <;> rfl
@[simp ↓] theorem wp_frz (a : Ax) {P : D → Sto → Prop} : (frzE a σ S).wp P E = (a σ S).wp (fun ds S1 => match pysOf ds with
  | some ps => P (.py (.list ps)) S1
  | none => False) E := by
  unfold frzE frz
  rw [wp_bind]
  congr 1
  funext d S1
  cases pysOf d <;> rfl
@[simp ↓] theorem wp_thw (a : Ax) {P : D → Sto → Prop} : (thwE a σ S).wp P E = (a σ S).wp (fun ds S1 => P (.obj S1.length) (S1 ++ [.lst ds])) E := by
  unfold thwE thw
  rw [wp_bind]
  rfl
@[simp ↓] theorem wp_lcX (it : It) (vs : List Nat) (g : Tg) (c : Tx) (e : Ex) {P : List D → Sto → Prop} : (lcX it vs g c e σ S).wp P E = (it σ S).wp (fun xs S1 => (lcL g c e (wipeD σ vs) xs S1).wp P E) E := by
  unfold lcX
  rw [wp_bind]
@[simp ↓] theorem wp_val (a : Ex) {P : Bool → Sto → Prop} : (valT a σ S).wp P E = (a σ S).wp (fun x S1 => ∃ k, x = .py (.bool k) ∧ P k S1) E := by
  unfold valT
  rw [wp_bind]
  congr 1
  funext d S1
  split
  · exact propext ⟨fun h => ⟨_, rfl, h⟩, fun ⟨k, e, h⟩ => by cases e; exact h⟩
  · rename_i hn
    exact propext ⟨fun h => h.elim, fun ⟨k, e, h⟩ => (hn k e).elim⟩
@[simp ↓] theorem wp_andT (a b : Tx) {P : Bool → Sto → Prop} : (andT a b σ S).wp P E = (a σ S).wp (fun k S1 => if k = true then (b σ S1).wp P E else P false S1) E := by
  unfold andT
  rw [wp_bind]
  congr 1
  funext d S1
  split <;> rfl
@[simp ↓] theorem wp_orT (a b : Tx) {P : Bool → Sto → Prop} : (orT a b σ S).wp P E = (a σ S).wp (fun k S1 => if k = true then P true S1 else (b σ S1).wp P E) E := by
  unfold orT
  rw [wp_bind]
  congr 1
  funext d S1
  split <;> rfl
@[simp ↓] theorem wp_notT (a : Tx) {P : Bool → Sto → Prop} : (notT a σ S).wp P E = (a σ S).wp (fun k S1 => P (!k) S1) E := by
  unfold notT
  rw [wp_bind]
  rfl
@[simp ↓] theorem wp_yes {P : Bool → Sto → Prop} : (yesT σ S).wp P E = P true S := id rfl
@[simp ↓] theorem wp_ifE (c : Tx) (a b : Ex) {P : D → Sto → Prop} : (ifE c a b σ S).wp P E = (c σ S).wp (fun k S1 => if k = true then (a σ S1).wp P E else (b σ S1).wp P E) E := by
  unfold ifE
  rw [wp_bind]
  congr 1
  funext d S1
  split <;> rfl
@[simp] theorem var_zero (d : D) (r : En) : varE 0 (some d :: r) S = .ok d S := id rfl
@[simp] theorem var_succ (i : Nat) (x : Option D) (r : En) : varE (i + 1) (x :: r) S = varE i r S := id rfl
@[simp ↓] theorem wp_nm (i : Nat) (d : D) {P : En → Sto → Prop} : (nmG i d σ S).wp P E = P (σ.set i (some d)) S := id rfl
@[simp ↓] theorem wp_tupG (n : Nat) (r : List D → En → Sto → R En) (ps : List PyData) {P : En → Sto → Prop} : (tupG n r (.py (.tuple ps)) σ S).wp P E = if ps.length = n then (r (ps.map .py) σ S).wp P E else False := by
  unfold tupG
  rw [wp_iteR]
  rfl
@[simp ↓] theorem wp_consG (g : Tg) (r : List D → En → Sto → R En) (d : D) (ds : List D) {P : En → Sto → Prop} : (consG g r (d :: ds) σ S).wp P E = (g d σ S).wp (fun σ1 S1 => (r ds σ1 S1).wp P E) E := by
  unfold consG
  rw [wp_bind]
@[simp ↓] theorem wp_nilG {P : En → Sto → Prop} : (nilG [] σ S).wp P E = P σ S := id rfl
def seqD : D → Option (List PyData)
  | .py (.list ds) => some ds
  | .py (.tuple ds) => some ds
  | _ => none
@[simp] theorem seqD_list (ds : List PyData) : seqD (.py (.list ds)) = some ds := id rfl
@[simp] theorem seqD_tuple (ds : List PyData) : seqD (.py (.tuple ds)) = some ds := id rfl
@[simp ↓] theorem wp_seqI (e : Ex) {P : List D → Sto → Prop} : (seqI e σ S).wp P E = (e σ S).wp (fun d S1 => ∃ ds, seqD d = some ds ∧ P (ds.map .py) S1) E := by
  unfold seqI
  rw [wp_bind]
  congr 1
  funext d S1
  rcases d with d | n | n
  · cases d
    case list ds => exact propext ⟨fun h => ⟨ds, rfl, h⟩, fun ⟨_, e, h⟩ => by cases e; exact h⟩
    case tuple ds => exact propext ⟨fun h => ⟨ds, rfl, h⟩, fun ⟨_, e, h⟩ => by cases e; exact h⟩
    all_goals exact propext ⟨fun h => h.elim, fun ⟨_, e, _⟩ => by cases e⟩
  · exact propext ⟨fun h => h.elim, fun ⟨_, e, _⟩ => by cases e⟩
  · exact propext ⟨fun h => h.elim, fun ⟨_, e, _⟩ => by cases e⟩
@[simp ↓] theorem wp_rng1 (e : Ex) {P : List D → Sto → Prop} : (rng1I e σ S).wp P E = (e σ S).wp (fun d S1 => ∃ j, d = .py (.int j) ∧ (-(2 ^ 62) ≤ j ∧ j ≤ 16777216) ∧ P (rngV 0 j.toNat) S1) E := by
  unfold rng1I
  rw [wp_bind]
  congr 1
  funext d S1
  split
  · rw [wp_iteR]
    split
    · rename_i h
      exact propext ⟨fun p => ⟨_, rfl, h, p⟩, fun ⟨j, e, _, p⟩ => by cases e; exact p⟩
    · rename_i h
      exact propext ⟨fun p => p.elim, fun ⟨j, e, h', p⟩ => by cases e; exact h h'⟩
  · rename_i hn
    exact propext ⟨fun h => h.elim, fun ⟨k, e, _, h⟩ => (hn k e).elim⟩
@[simp ↓] theorem wp_zip (a b : Ex) {P : List D → Sto → Prop} : (zipI a b σ S).wp P E = (a σ S).wp (fun x S1 => (b σ S1).wp (fun y S2 => ∃ xs ys, pyWalk S2 x = some xs ∧ pyWalk S2 y = some ys ∧ P ((xs.zip ys).map fun p => D.py (.tuple [p.1, p.2])) S2) E) E := by
  unfold zipI
  rw [wp_bind]
  congr 1
  funext d S1
  rw [wp_bind]
  congr 1
  funext d2 S2
  split
  · rename_i h1 h2
    exact propext ⟨fun p => ⟨_, _, h1, h2, p⟩, fun ⟨_, _, e1, e2, p⟩ => by rw [h1] at e1; rw [h2] at e2; cases e1; cases e2; exact p⟩
  · rename_i hn
    exact propext ⟨fun h => h.elim, fun ⟨_, _, e1, e2, _⟩ => (hn _ _ e1 e2).elim⟩
/-! ### operators upon known values -/
section
variable {i j : Int} {S : Sto}
@[simp] theorem addD_int : addD (.py (.int i)) (.py (.int j)) S = .ok (.py (.int (i + j))) S := id rfl
@[simp] theorem subD_int : subD (.py (.int i)) (.py (.int j)) S = .ok (.py (.int (i - j))) S := id rfl
@[simp] theorem mulD_l (h : -(2 ^ 64) < i ∧ i < 2 ^ 64) : mulD (.py (.int i)) (.py (.int j)) S = .ok (.py (.int (i * j))) S := if_pos (.inl h)
@[simp] theorem mulD_r (h : -(2 ^ 64) < j ∧ j < 2 ^ 64) : mulD (.py (.int i)) (.py (.int j)) S = .ok (.py (.int (i * j))) S := if_pos (.inr h)
@[simp] theorem fdivD_int (h : 0 < j ∧ j < 1073741824) : fdivD (.py (.int i)) (.py (.int j)) S = .ok (.py (.int (i / j))) S := if_pos h
@[simp] theorem modD_int (h : 0 < j) : modD (.py (.int i)) (.py (.int j)) S = .ok (.py (.int (i % j))) S := if_pos h
@[simp] theorem divmodD_int (h : 0 < j ∧ j < 1073741824) : divmodD [.py (.int i), .py (.int j)] S = .ok (.py (.tuple [.int (i / j), .int (i % j)])) S := if_pos h
@[simp] theorem negD_int : negD (.py (.int i)) S = .ok (.py (.int (-i))) S := id rfl
@[simp] theorem eqD_int : eqD (.py (.int i)) (.py (.int j)) S = .ok (.py (.bool (decide (i = j)))) S := id rfl
@[simp] theorem neD_int : neD (.py (.int i)) (.py (.int j)) S = .ok (.py (.bool (!decide (i = j)))) S := id rfl
@[simp] theorem eqD_str {x y : Str} : eqD (.py (.str x)) (.py (.str y)) S = .ok (.py (.bool (decide (x = y)))) S := id rfl
@[simp] theorem neD_str {x y : Str} : neD (.py (.str x)) (.py (.str y)) S = .ok (.py (.bool (!decide (x = y)))) S := id rfl
@[simp] theorem ltD_int : ltD (.py (.int i)) (.py (.int j)) S = .ok (.py (.bool (decide (i < j)))) S := id rfl
@[simp] theorem cmpI_int {p : Int → Int → Bool} : cmpI p (.py (.int i)) (.py (.int j)) S = .ok (.py (.bool (p i j))) S := id rfl
@[simp] theorem lenD_list {ds : List PyData} : lenD [.py (.list ds)] S = .ok (.py (.int (ds.length : Nat))) S := by simp [lenD, seqOf]
@[simp] theorem lenD_tuple {ds : List PyData} : lenD [.py (.tuple ds)] S = .ok (.py (.int (ds.length : Nat))) S := by simp [lenD, seqOf]
theorem lenD_obj {n : Nat} {ds : List D} (h : S[n]? = some (.lst ds)) : lenD [.obj n] S = .ok (.py (.int (ds.length : Nat))) S := by simp [lenD, seqOf, h]
@[simp] theorem tupleD_list {ds : List PyData} : tupleD [.py (.list ds)] S = .ok (.py (.tuple ds)) S := by simp [tupleD, seqOf]
theorem tupleD_obj {n : Nat} {ds : List PyData} (h : S[n]? = some (.lst (ds.map .py))) : tupleD [.obj n] S = .ok (.py (.tuple ds)) S := by simp [tupleD, seqOf, h]
@[simp] theorem listD_list {ds : List PyData} : listD [.py (.list ds)] S = .ok (ds.map .py) S := by simp [listD, seqOf]
@[simp] theorem max2D_int : max2D [.py (.int i), .py (.int j)] S = .ok (.py (.int (if j > i then j else i))) S := id rfl
@[simp] theorem min2D_int : min2D [.py (.int i), .py (.int j)] S = .ok (.py (.int (if j < i then j else i))) S := id rfl
@[simp] theorem absD_int : absD [.py (.int i)] S = .ok (.py (.int (if i < 0 then -i else i))) S := id rfl
theorem atI_nat {α : Type} {xs : List α} (k : Nat) (x : α) (h : xs[k]? = some x) : L2.atI xs (k : Int) = some x := L2.atI_nat h
theorem itemD_list {ds : List PyData} (k : Nat) {d : PyData} (h : ds[k]? = some d) : itemD (.py (.list ds)) (.py (.int k)) S = .ok (.py d) S := by
  simp [itemD, seqOf, atI_nat k (D.py d) (xs := ds.map .py) (by simp [h])]
theorem itemD_tuple {ds : List PyData} (k : Nat) {d : PyData} (h : ds[k]? = some d) : itemD (.py (.tuple ds)) (.py (.int k)) S = .ok (.py d) S := by
  simp [itemD, seqOf, atI_nat k (D.py d) (xs := ds.map .py) (by simp [h])]
theorem itemD_obj {n : Nat} {ds : List D} (hn : S[n]? = some (.lst ds)) (k : Nat) {d : D} (h : ds[k]? = some d) : itemD (.obj n) (.py (.int k)) S = .ok d S := by
  simp [itemD, seqOf, hn, atI_nat k d h]
@[simp] theorem itemD_l0 {a : PyData} {r : List PyData} : itemD (.py (.list (a :: r))) (.py (.int 0)) S = .ok (.py a) S := itemD_list 0 rfl
@[simp] theorem itemD_l1 {a b : PyData} {r : List PyData} : itemD (.py (.list (a :: b :: r))) (.py (.int 1)) S = .ok (.py b) S := itemD_list 1 rfl
@[simp] theorem itemD_t0 {a : PyData} {r : List PyData} : itemD (.py (.tuple (a :: r))) (.py (.int 0)) S = .ok (.py a) S := itemD_tuple 0 rfl
@[simp] theorem itemD_t1 {a b : PyData} {r : List PyData} : itemD (.py (.tuple (a :: b :: r))) (.py (.int 1)) S = .ok (.py b) S := itemD_tuple 1 rfl
@[simp] theorem itemD_t2 {a b c : PyData} {r : List PyData} : itemD (.py (.tuple (a :: b :: c :: r))) (.py (.int 2)) S = .ok (.py c) S := itemD_tuple 2 rfl
theorem appendD_obj {n : Nat} {ds : List D} {d : D} (h : S[n]? = some (.lst ds)) (hl : ds.length < sizeLine) : appendD (.obj n) [d] S = .ok (.py .none) (S.set n (.lst (ds ++ [d]))) := by simp [appendD, h, hl]
@[simp] theorem lsOk_list {ds : List PyData} : lsOk S (.py (.list ds)) = true := id rfl
theorem lsOk_obj {n : Nat} {ds : List D} (h : S[n]? = some (.lst ds)) : lsOk S (.obj n) = true := by simp [lsOk, h]
@[simp] theorem pw_list {ds : List PyData} : pyWalk S (.py (.list ds)) = some ds := id rfl
@[simp] theorem pw_tuple {ds : List PyData} : pyWalk S (.py (.tuple ds)) = some ds := id rfl
end
@[simp] theorem pysOf_comp {α : Type} (f : α → PyData) (l : List α) : pysOf (l.map (D.py ∘ f)) = some (l.map f) := by
  rw [← List.map_map, pysOf_map]
@[simp] theorem pysOf_fun {α : Type} (f : α → PyData) (l : List α) : pysOf (l.map fun x => D.py (f x)) = some (l.map f) := pysOf_comp f l
theorem listD_str {x : Str} {S : Sto} (h : x.length ≤ sizeLine) : listD [.py (.str x)] S = .ok (x.cps.toList.map fun c => D.py (.str ⟨#[c]⟩)) S := if_pos h
@[simp] theorem setAll_nil (ds : List D) (σ : En) : setAll [] ds σ = σ := id rfl
@[simp] theorem setAll_cons (i : Nat) (is : List Nat) (d : D) (ds : List D) (σ : En) : setAll (i :: is) (d :: ds) σ = setAll is ds (σ.set i (some d)) := id rfl
@[simp] theorem wipe_nil (σ : En) : wipeD σ [] = σ := id rfl
@[simp] theorem wipe_cons (σ : En) (v : Nat) (vs : List Nat) : wipeD σ (v :: vs) = (wipeD σ vs).set v none := id rfl
theorem popD_at {n : Nat} {ds : List D} {i : Int} {d : D} {S : Sto} (h : S[n]? = some (.lst ds)) (hi : 0 ≤ i ∧ i < 2 ^ 62) (hd : ds[i.toNat]? = some d) : popD (.obj n) [.py (.int i)] S = .ok d (S.set n (.lst (ds.eraseIdx i.toNat))) := by
  simp only [popD, h, hd]
  rw [if_pos hi]
theorem wp_eq {α : Type} {r : R α} {v : α} {S : Sto} (h : r.wp (fun a T => a = v ∧ T = S) noE) : r = .ok v S := by
  obtain ⟨a, T, e, rfl, rfl⟩ := h.out
  exact e
theorem wp_of {α : Type} {r : R α} {v : α} {S : Sto} {P : α → Sto → Prop} {E : Str → Sto → Prop} (h : r = .ok v S) (q : P v S) : r.wp P E := by rw [h]; exact q
theorem wp_pure {g : Tg} {c : Tx} {e : Ex} {xs : List D} {σ : En} {S : Sto} {P : List D → Sto → Prop} {E : Str → Sto → Prop} (p : D → Bool) (f : D → D)
    (h : ∀ x ∈ xs, ∃ σ1, g x σ S = .ok σ1 S ∧ c σ1 S = .ok (p x) S ∧ (p x = true → e σ1 S = .ok (f x) S)) (q : P ((xs.filter p).map f) S) : (lcL g c e σ xs S).wp P E := wp_of (lcL_pure p f h) q
/-- one name, no test -/
theorem wp_pure1 {i : Nat} {e : Ex} {xs : List D} {σ : En} {S : Sto} {P : List D → Sto → Prop} {E : Str → Sto → Prop} (f : D → D)
    (h : ∀ x ∈ xs, e (σ.set i (some x)) S = .ok (f x) S) (q : P (xs.map f) S) : (lcL (nmG i) yesT e σ xs S).wp P E :=
  wp_pure (fun _ => true) f (fun x hx => ⟨_, rfl, rfl, fun _ => h x hx⟩) (by rw [List.filter_eq_self.mpr fun _ _ => rfl]; exact q)
theorem slot_any {σ l : En} {i : Nat} (h : σ.set i none = l) : ∃ y, σ = l.set i y := by
  subst h
  by_cases hi : i < σ.length
  · refine ⟨σ[i], ?_⟩
    rw [List.set_set, List.set_getElem_self]
  · exact ⟨none, by rw [List.set_set, List.set_eq_of_length_le (by omega)]⟩
theorem itemD_listI {ds : List PyData} {i : Int} {d : PyData} {S : Sto} (h0 : 0 ≤ i) (h : ds[i.toNat]? = some d) : itemD (.py (.list ds)) (.py (.int i)) S = .ok (.py d) S := by
  obtain ⟨k, rfl⟩ : ∃ k : Nat, i = k := ⟨i.toNat, by omega⟩
  exact itemD_list k h
theorem itemD_tupleI {ds : List PyData} {i : Int} {d : PyData} {S : Sto} (h0 : 0 ≤ i) (h : ds[i.toNat]? = some d) : itemD (.py (.tuple ds)) (.py (.int i)) S = .ok (.py d) S := by
  obtain ⟨k, rfl⟩ : ∃ k : Nat, i = k := ⟨i.toNat, by omega⟩
  exact itemD_tuple k h
/-! ### an item is set -/
def ixP (x k d : D) (σ : En) (S2 : Sto) : R En := match x, k with
  | .obj n, .py (.int k) => (match S2[n]? with
    | some (.lst ds) => (match L2.ixN ds.length k with
      | some j => .ok σ (S2.set n (.lst (ds.set j d)))
      | none => .no)
    | _ => .no)
  | _, _ => .no
@[simp ↓] theorem wp_ix (o i : Ex) (d : D) {σ : En} {S : Sto} {P : En → Sto → Prop} {E : Str → Sto → Prop} : (ixG o i d σ S).wp P E = (o σ S).wp (fun x S1 => (i σ S1).wp (fun k S2 => (ixP x k d σ S2).wp P E) E) E := by
  unfold ixG
  rw [wp_bind]
  congr 1
  funext x S1
  rw [wp_bind]
  rfl
theorem ixP_obj {n k : Nat} {ds : List D} {d : D} {σ : En} {S : Sto} (h : S[n]? = some (.lst ds)) (hk : k < ds.length) : ixP (.obj n) (.py (.int k)) d σ S = .ok σ (S.set n (.lst (ds.set k d))) := by
  have : L2.ixN ds.length (k : Int) = some k := by simp [L2.ixN]; omega
  simp [ixP, h, this]
theorem ixP_0 {n : Nat} {a : D} {ds : List D} {d : D} {σ : En} {S : Sto} (h : S[n]? = some (.lst (a :: ds))) : ixP (.obj n) (.py (.int 0)) d σ S = .ok σ (S.set n (.lst (d :: ds))) := ixP_obj (k := 0) h (by simp)
theorem ixP_1 {n : Nat} {a b : D} {ds : List D} {d : D} {σ : En} {S : Sto} (h : S[n]? = some (.lst (a :: b :: ds))) : ixP (.obj n) (.py (.int 1)) d σ S = .ok σ (S.set n (.lst (a :: d :: ds))) := ixP_obj (k := 1) h (by simp)
@[simp] theorem exists_bool {P : Bool → Prop} {d : Bool} : (∃ k, D.py (.bool d) = D.py (.bool k) ∧ P k) = P d := propext ⟨fun ⟨k, e, h⟩ => by cases e; exact h, fun h => ⟨d, rfl, h⟩⟩
@[simp ↓] theorem wp_zip3 (a b c : Ex) {σ : En} {S : Sto} {P : List D → Sto → Prop} {E : Str → Sto → Prop} : (zip3I a b c σ S).wp P E = (a σ S).wp (fun x S1 => (b σ S1).wp (fun y S2 => (c σ S2).wp (fun z S3 => ∃ xs ys zs, pyWalk S3 x = some xs ∧ pyWalk S3 y = some ys ∧ pyWalk S3 z = some zs ∧ P ((xs.zip (ys.zip zs)).map fun p => D.py (.tuple [p.1, p.2.1, p.2.2])) S3) E) E) E := by
  unfold zip3I
  rw [wp_bind]
  congr 1
  funext d S1
  rw [wp_bind]
  congr 1
  funext d2 S2
  rw [wp_bind]
  congr 1
  funext d3 S3
  split
  · rename_i h1 h2 h3
    exact propext ⟨fun p => ⟨_, _, _, h1, h2, h3, p⟩, fun ⟨_, _, _, e1, e2, e3, p⟩ => by rw [h1] at e1; rw [h2] at e2; rw [h3] at e3; cases e1; cases e2; cases e3; exact p⟩
  · rename_i hn
    exact propext ⟨fun h => h.elim, fun ⟨_, _, _, e1, e2, e3, _⟩ => (hn _ _ _ e1 e2 e3).elim⟩
@[simp] theorem zip3_mmm {α β γ : Type} (f : α → PyData) (g : β → PyData) (h : γ → PyData) (xs : List α) (ys : List β) (zs : List γ) : ((xs.map f).zip ((ys.map g).zip (zs.map h))).map (fun p => D.py (.tuple [p.1, p.2.1, p.2.2])) = (xs.zip (ys.zip zs)).map fun p => D.py (.tuple [f p.1, g p.2.1, h p.2.2]) := by
  rw [List.zip_map, List.zip_map, List.map_map]
  rfl
@[simp ↓] theorem wp_forL_nil {g : Tg} {b : Sx} {σ : En} {S : Sto} {N : K} : (forL g b [] σ S).wp N = N.nx σ S := id rfl
@[simp ↓] theorem wp_forL_cons {g : Tg} {b : Sx} {σ : En} {S : Sto} {N : K} {x : D} {xs : List D} : (forL g b (x :: xs) σ S).wp N =
    (g x σ S).wp (fun σ1 S1 => (b σ1 S1).wp { N with nx := fun σ2 S2 => (forL g b xs σ2 S2).wp N, ct := fun σ2 S2 => (forL g b xs σ2 S2).wp N, bk := fun σ2 S2 => N.nx σ2 S2 }) N.ex := by
  rw [forL]
  cases g x σ S with
  | ok σ1 S1 =>
    simp only [wp_ok]
    cases b σ1 S1 <;> rfl
  | ex c S1 => rfl
  | no => rfl
@[simp ↓] theorem wp_enum (a : Ex) {σ : En} {S : Sto} {P : List D → Sto → Prop} {E : Str → Sto → Prop} : (enumI a σ S).wp P E = (a σ S).wp (fun x S1 => ∃ xs, pyWalk S1 x = some xs ∧ P (xs.zipIdx.map fun p => D.py (.tuple [.int (p.2 : Nat), p.1])) S1) E := by
  unfold enumI
  rw [wp_bind]
  congr 1
  funext d S1
  split
  · rename_i h1
    exact propext ⟨fun p => ⟨_, h1, p⟩, fun ⟨_, e1, p⟩ => by rw [h1] at e1; cases e1; exact p⟩
  · rename_i hn
    exact propext ⟨fun h => h.elim, fun ⟨_, e1, _⟩ => by rw [hn] at e1; cases e1⟩
@[simp] theorem enum_m {α : Type} (f : α → PyData) (xs : List α) : ((xs.map f).zipIdx).map (fun p => D.py (.tuple [.int (p.2 : Nat), p.1])) = xs.zipIdx.map fun p => D.py (.tuple [.int (p.2 : Nat), f p.1]) := by
  rw [List.zipIdx_map, List.map_map]
  rfl
section
variable {a b c : Ex} {σ : En} {S : Sto} {P : D → Sto → Prop} {E : Str → Sto → Prop}
@[simp ↓] theorem wp_andE : (andE a b σ S).wp P E = (a σ S).wp (fun x S1 => ∃ k, x = .py (.bool k) ∧ if k = true then (b σ S1).wp P E else P (.py (.bool false)) S1) E := by
  unfold andE
  rw [wp_bind]
  congr 1
  funext x S1
  rcases x with d | n | n
  · cases d
    case bool k => cases k <;> exact propext ⟨fun h => ⟨_, rfl, by simpa using h⟩, fun ⟨k, e, h⟩ => by cases e; simpa using h⟩
    all_goals exact propext ⟨fun h => h.elim, fun ⟨k, e, _⟩ => by cases e⟩
  · exact propext ⟨fun h => h.elim, fun ⟨k, e, _⟩ => by cases e⟩
  · exact propext ⟨fun h => h.elim, fun ⟨k, e, _⟩ => by cases e⟩
@[simp ↓] theorem wp_orE : (orE a b σ S).wp P E = (a σ S).wp (fun x S1 => ∃ k, x = .py (.bool k) ∧ if k = true then P (.py (.bool true)) S1 else (b σ S1).wp P E) E := by
  unfold orE
  rw [wp_bind]
  congr 1
  funext x S1
  rcases x with d | n | n
  · cases d
    case bool k => cases k <;> exact propext ⟨fun h => ⟨_, rfl, by simpa using h⟩, fun ⟨k, e, h⟩ => by cases e; simpa using h⟩
    all_goals exact propext ⟨fun h => h.elim, fun ⟨k, e, _⟩ => by cases e⟩
  · exact propext ⟨fun h => h.elim, fun ⟨k, e, _⟩ => by cases e⟩
  · exact propext ⟨fun h => h.elim, fun ⟨k, e, _⟩ => by cases e⟩
@[simp ↓] theorem wp_notE : (notE a σ S).wp P E = (a σ S).wp (fun x S1 => ∃ k, x = .py (.bool k) ∧ P (.py (.bool (!k))) S1) E := by
  unfold notE
  rw [wp_bind]
  congr 1
  funext x S1
  split
  · exact propext ⟨fun h => ⟨_, rfl, h⟩, fun ⟨k, e, h⟩ => by cases e; exact h⟩
  · rename_i hn
    exact propext ⟨fun h => h.elim, fun ⟨k, e, _⟩ => (hn k e).elim⟩
@[simp ↓] theorem wp_chain {g g' : D → D → Sto → R D} : (chainE g g' a b c σ S).wp P E = (a σ S).wp (fun x S1 => (b σ S1).wp (fun y S2 => (g x y S2).wp (fun z S3 => ∃ k, z = .py (.bool k) ∧ if k = true then (c σ S3).wp (fun w S4 => (g' y w S4).wp P E) E else P (.py (.bool false)) S3) E) E) E := by
  unfold chainE
  rw [wp_bind]
  congr 1
  funext x S1
  rw [wp_bind]
  congr 1
  funext y S2
  rw [wp_bind]
  congr 1
  funext z S3
  rcases z with d | n | n
  · cases d
    case bool k => cases k <;> exact propext ⟨fun h => ⟨_, rfl, by simpa [wp_bind] using h⟩, fun ⟨k, e, h⟩ => by cases e; simpa [wp_bind] using h⟩
    all_goals exact propext ⟨fun h => h.elim, fun ⟨k, e, _⟩ => by cases e⟩
  · exact propext ⟨fun h => h.elim, fun ⟨k, e, _⟩ => by cases e⟩
  · exact propext ⟨fun h => h.elim, fun ⟨k, e, _⟩ => by cases e⟩
@[simp] theorem isiD_none {T : String} : isiD T (.py .none) S = .ok (.py (.bool (isB "NoneType" T))) S := id rfl
@[simp] theorem isiD_bool {T : String} {k : Bool} : isiD T (.py (.bool k)) S = .ok (.py (.bool (isB "bool" T))) S := id rfl
@[simp] theorem isiD_int {T : String} {i : Int} : isiD T (.py (.int i)) S = .ok (.py (.bool (isB "int" T))) S := id rfl
@[simp] theorem isiD_str {T : String} {x : Str} : isiD T (.py (.str x)) S = .ok (.py (.bool (isB "str" T))) S := id rfl
@[simp] theorem isiD_list {T : String} {x : List PyData} : isiD T (.py (.list x)) S = .ok (.py (.bool (isB "list" T))) S := id rfl
@[simp] theorem isiD_tuple {T : String} {x : List PyData} : isiD T (.py (.tuple x)) S = .ok (.py (.bool (isB "tuple" T))) S := id rfl
@[simp] theorem isNon_int {i : Int} : isNon (.int i) = false := id rfl
@[simp] theorem isNon_none : isNon .none = true := id rfl
@[simp] theorem isND_py {d : PyData} : isND (.py d) (.py .none) S = .ok (.py (.bool (isNon d))) S := id rfl
@[simp] theorem notND_py {d : PyData} : notND (.py d) (.py .none) S = .ok (.py (.bool (!isNon d))) S := id rfl
theorem boolsOf_map : ∀ bs : List Bool, boolsOf (bs.map .bool) = some bs
  | [] => rfl
  | b :: bs => by
    show (boolsOf (bs.map .bool)).map (b :: ·) = _
    rw [boolsOf_map bs]
    rfl
theorem intsOf_map : ∀ bs : List Int, intsOf (bs.map .int) = some bs
  | [] => rfl
  | b :: bs => by
    show (intsOf (bs.map .int)).map (b :: ·) = _
    rw [intsOf_map bs]
    rfl
@[simp] theorem allD_bools {bs : List Bool} : allD [.py (.list (bs.map .bool))] S = .ok (.py (.bool (bs.all id))) S := by simp only [allD, boolsOf_map]
@[simp] theorem anyD_bools {bs : List Bool} : anyD [.py (.list (bs.map .bool))] S = .ok (.py (.bool (bs.any id))) S := by simp only [anyD, boolsOf_map]
@[simp] theorem sumD_ints {bs : List Int} : sumD [.py (.list (bs.map .int))] S = .ok (.py (.int bs.sum)) S := by simp only [sumD, intsOf_map]
end
/-! ### the last list of the store -/
section
variable {S : Sto} {o o' : O} {ds : List D} {d : D} {σ : En}
@[simp] theorem last_get : (S ++ [o])[S.length]? = some o := by simp
@[simp] theorem last_set : (S ++ [o]).set S.length o' = S ++ [o'] := by simp [List.set_append_right]
theorem appendD_last (h : ds.length < sizeLine) : appendD (.obj S.length) [d] (S ++ [.lst ds]) = .ok (.py .none) (S ++ [.lst (ds ++ [d])]) := by
  rw [appendD_obj last_get h, last_set]
@[simp] theorem lsOk_last : lsOk (S ++ [.lst ds]) (.obj S.length) = true := lsOk_obj last_get
theorem tupleD_last {ps : List PyData} : tupleD [.obj S.length] (S ++ [.lst (ps.map .py)]) = .ok (.py (.tuple ps)) (S ++ [.lst (ps.map .py)]) := tupleD_obj last_get
theorem fix_last {i : Nat} {ps : List PyData} {N : K} (hi : σ[i]? = some (some (.obj S.length))) (q : N.nx (σ.set i (some (.py (.list ps)))) (S ++ [.gone])) : (fixS i σ (S ++ [.lst (ps.map .py)])).wp N := by
  unfold fixS
  simp only [hi, last_get, pysOf_map, last_set]
  exact q
/-- S and one list more -/
def stL (S : Sto) (ds : List PyData) : Sto := S ++ [.lst (ds.map .py)]
theorem stL_nil : S ++ [.lst []] = stL S [] := rfl
@[simp] theorem stL_get {ds : List PyData} : (stL S ds)[S.length]? = some (.lst (ds.map .py)) := last_get
@[simp] theorem stL_lsOk {ds : List PyData} : lsOk (stL S ds) (.obj S.length) = true := lsOk_last
theorem stL_app {ds : List PyData} {d : PyData} (h : ds.length < sizeLine) : appendD (.obj S.length) [.py d] (stL S ds) = .ok (.py .none) (stL S (ds ++ [d])) := by
  unfold stL
  rw [appendD_last (by simpa using h)]
  simp
@[simp] theorem stL_tuple {ds : List PyData} : tupleD [.obj S.length] (stL S ds) = .ok (.py (.tuple ds)) (stL S ds) := tupleD_last
@[simp] theorem stL_len {ds : List PyData} : lenD [.obj S.length] (stL S ds) = .ok (.py (.int (ds.length : Nat))) (stL S ds) := by rw [lenD_obj stL_get, List.length_map]
theorem stL_fix {i : Nat} {ps : List PyData} {N : K} (hi : σ[i]? = some (some (.obj S.length))) (q : N.nx (σ.set i (some (.py (.list ps)))) (S ++ [.gone])) : (fixS i σ (stL S ps)).wp N := fix_last hi q
theorem stL_set {ds es : List PyData} : (stL S ds).set S.length (.lst (es.map .py)) = stL S es := last_set
@[simp] theorem stL_length {ds : List PyData} : (stL S ds).length = S.length + 1 := by simp [stL]
def lstAt (S : Sto) (n : Nat) : Option (List D) := match S[n]? with
  | some (.lst ds) => some ds
  | _ => none
theorem lstAt_of {n : Nat} (h : S[n]? = some (.lst ds)) : lstAt S n = some ds := by simp [lstAt, h]
theorem lstAt_get {n : Nat} (h : lstAt S n = some ds) : S[n]? = some (.lst ds) := by
  unfold lstAt at h
  split at h
  · rename_i ds' e
    cases h
    exact e
  · cases h
@[simp] theorem stL_lstAt {es : List PyData} : lstAt (stL S es) S.length = some (es.map .py) := lstAt_of stL_get
@[simp ↓] theorem wp_ext (e : Ex) (a : Ax) {P : D → Sto → Prop} {E : Str → Sto → Prop} : (extE e a σ S).wp P E = (e σ S).wp (fun x S1 => ∃ n es, x = .obj n ∧ lstAt S1 n = some es ∧ (a σ S1).wp (fun ds S2 => ∃ es2, lstAt S2 n = some es2 ∧ es2.length + ds.length ≤ sizeLine ∧ P (.py .none) (S2.set n (.lst (es2 ++ ds)))) E) E := by
  unfold extE
  rw [wp_bind]
  congr 1
  funext x S1
  rcases x with x | n | n
  · exact propext ⟨fun h => h.elim, fun ⟨_, _, e, _⟩ => by cases e⟩
  · cases h1 : S1[n]? with
    | none => exact propext ⟨fun h => by simp only [h1] at h; exact h.elim, fun ⟨_, _, e, h2, _⟩ => by cases e; rw [lstAt_get h2] at h1; cases h1⟩
    | some o =>
      cases o with
      | gone => exact propext ⟨fun h => by simp only [h1] at h; exact h.elim, fun ⟨_, _, e, h2, _⟩ => by cases e; rw [lstAt_get h2] at h1; cases h1⟩
      | tab _ _ => exact propext ⟨fun h => by simp only [h1] at h; exact h.elim, fun ⟨_, _, e, h2, _⟩ => by cases e; rw [lstAt_get h2] at h1; cases h1⟩
      | dt _ => exact propext ⟨fun h => by simp only [h1] at h; exact h.elim, fun ⟨_, _, e, h2, _⟩ => by cases e; rw [lstAt_get h2] at h1; cases h1⟩
      | dk _ => exact propext ⟨fun h => by simp only [h1] at h; exact h.elim, fun ⟨_, _, e, h2, _⟩ => by cases e; rw [lstAt_get h2] at h1; cases h1⟩
      | ins _ _ => exact propext ⟨fun h => by simp only [h1] at h; exact h.elim, fun ⟨_, _, e, h2, _⟩ => by cases e; rw [lstAt_get h2] at h1; cases h1⟩
      | tpl _ => exact propext ⟨fun h => by simp only [h1] at h; exact h.elim, fun ⟨_, _, e, h2, _⟩ => by cases e; rw [lstAt_get h2] at h1; cases h1⟩
      | lst es =>
        simp only [h1, wp_bind]
        refine propext ⟨fun h => ⟨n, es, rfl, lstAt_of h1, h.mono (fun ds S2 h => ?_) fun _ _ h => h⟩, fun ⟨m, es', e, h2, h⟩ => ?_⟩
        · cases h3 : S2[n]? with
          | none => simp only [h3] at h; exact h.elim
          | some o =>
            cases o with
            | gone => simp only [h3] at h; exact h.elim
            | tab _ _ => simp only [h3] at h; exact h.elim
            | dt _ => simp only [h3] at h; exact h.elim
            | dk _ => simp only [h3] at h; exact h.elim
            | ins _ _ => simp only [h3] at h; exact h.elim
            | tpl _ => simp only [h3] at h; exact h.elim
            | lst es2 =>
              simp only [h3] at h
              by_cases hl : es2.length + ds.length ≤ sizeLine
              · rw [if_pos hl] at h
                exact ⟨es2, lstAt_of h3, hl, h⟩
              · rw [if_neg hl] at h
                exact h.elim
        · cases e
          refine h.mono (fun ds S2 ⟨es2, h3, hl, h⟩ => ?_) fun _ _ h => h
          simp only [lstAt_get h3]
          rw [if_pos hl]
          exact h
  · exact propext ⟨fun h => h.elim, fun ⟨_, _, e, _⟩ => by cases e⟩
end
@[simp] theorem zip_mm {α β : Type} (f : α → PyData) (g : β → PyData) (xs : List α) (ys : List β) : ((xs.map f).zip (ys.map g)).map (fun p => D.py (.tuple [p.1, p.2])) = (xs.zip ys).map fun p => D.py (.tuple [f p.1, g p.2]) := by
  rw [List.zip_map, List.map_map]
  rfl
/-! ### defs -/
/-- what is left of the store when a def is done -/
structure Cut (S S' T : Sto) : Prop where
  le : S.length ≤ S'.length
  cut : T = S'.take S.length
  sub : ∀ (i : Nat) (o : O), i < S.length → S'[i]? = some o → S[i]? = some o ∨ o.pure = true
theorem Cut.self {S : Sto} : Cut S S S := ⟨Nat.le_refl _, (List.take_length).symm, fun i o _ h => .inl h⟩
theorem Cut.app {S T : Sto} : Cut S (S ++ T) S := ⟨by simp, by simp, fun i o hi h => .inl (by rwa [List.getElem?_append_left hi] at h)⟩
theorem Cut.stL {S : Sto} {ds : List PyData} : Cut S (stL S ds) S := Cut.app
theorem gc_cut {γ : Type} {p : Prop} {S S' T : Sto} {k : Sto → γ} (hp : p) (h : Cut S S' T) : gc p S S' k = k T := by
  unfold gc
  rw [if_pos ⟨hp, h.le, h.sub⟩, h.cut]
theorem wp_fn {n : Nat} {b : Sx} {ds : List D} {S : Sto} {Q : D → Sto → Prop} {E : Str → Sto → Prop}
    (h : (b (init n ds) S).wp { nx := fun _ S' => ∃ T, Cut S S' T ∧ Q (.py .none) T, rt := fun d S' => ∃ T, Cut S S' T ∧ d.pure = true ∧ Q d T, ex := fun c S' => ∃ T, Cut S S' T ∧ E c T }) : (fnF n b ds S).wp Q E := by
  unfold fnF fnR
  cases hb : b (init n ds) S with
  | nx σ S' =>
    rw [hb] at h
    obtain ⟨T, c, q⟩ := h
    simp only [gc_cut (p := True) trivial c]
    exact q
  | rt d S' =>
    rw [hb] at h
    obtain ⟨T, c, p, q⟩ := h
    simp only [gc_cut p c]
    exact q
  | ex c S' =>
    rw [hb] at h
    obtain ⟨T, c, q⟩ := h
    simp only [gc_cut (p := True) trivial c]
    exact q
  | bk σ S' => rw [hb] at h; exact h.elim
  | ct σ S' => rw [hb] at h; exact h.elim
  | no => rw [hb] at h; exact h.elim
/-- a def whose answer may be a list that is changed -/
theorem wp_fnM {n : Nat} {b : Sx} {ds : List D} {S : Sto} {Q : D → Sto → Prop} {E : Str → Sto → Prop}
    (h : (b (init n ds) S).wp { nx := fun _ _ => False, rt := fun d S' => d.pure = false ∧ Q d S' }) : (fnF n b ds S).wp Q E := by
  unfold fnF fnR
  cases hb : b (init n ds) S with
  | rt d S' =>
    rw [hb] at h
    obtain ⟨p, q⟩ := h
    show (gc (d.pure = true) S S' fun T => R.ok d T).wp Q E
    unfold gc
    rw [if_neg (by rw [p]; simp)]
    exact q
  | nx σ S' => rw [hb] at h; exact h.elim
  | ex c S' => rw [hb] at h; exact h.elim
  | bk σ S' => rw [hb] at h; exact h.elim
  | ct σ S' => rw [hb] at h; exact h.elim
  | no => rw [hb] at h; exact h.elim
/-- a def that makes nothing but its answer -/
theorem fn_eq {n : Nat} {b : Sx} {ds : List D} {S : Sto} {d : D} (h : (fnF n b ds S).wp (fun x T => x = d ∧ T = S) noE) : fnF n b ds S = .ok d S := by
  obtain ⟨a, T, e, rfl, rfl⟩ := h.out
  exact e
end
end DV

set_option maxHeartbeats 4000000
namespace DV
open PySem
/-! The box of the law's random numbers, and what is drawn from it. -/
/-- at n stands a box -/
def BoxAt (S : Sto) (n : Nat) : Prop := ∃ a b : Int, S[n]? = some (.lst [.py (.int a), .py (.int b)])
/-- but for n nothing of S has changed -/
structure Ch (n : Nat) (S S' : Sto) : Prop where
  le : S.length ≤ S'.length
  same : ∀ i, i < S.length → i ≠ n → S'[i]? = S[i]?
  box : BoxAt S' n
theorem BoxAt.lt {S : Sto} {n : Nat} (h : BoxAt S n) : n < S.length := by
  obtain ⟨a, b, e⟩ := h
  exact (List.getElem?_eq_some_iff.mp e).1
theorem Ch.refl {S : Sto} {n : Nat} (h : BoxAt S n) : Ch n S S := ⟨Nat.le_refl _, fun _ _ _ => rfl, h⟩
theorem Ch.trans {S S1 S2 : Sto} {n : Nat} (h : Ch n S S1) (h2 : Ch n S1 S2) : Ch n S S2 :=
  ⟨Nat.le_trans h.le h2.le, fun i hi ne => (h2.same i (Nat.lt_of_lt_of_le hi h.le) ne).trans (h.same i hi ne), h2.box⟩
theorem Ch.at_ {S S' : Sto} {n m : Nat} {o : O} (h : Ch n S S') (e : S[m]? = some o) (ne : m ≠ n) : S'[m]? = some o :=
  (h.same m (List.getElem?_eq_some_iff.mp e).1 ne).trans e
theorem Ch.set {S : Sto} {n : Nat} {a b : Int} (h : n < S.length) : Ch n S (S.set n (.lst [.py (.int a), .py (.int b)])) :=
  ⟨by simp, fun i hi ne => by rw [List.getElem?_set_ne (Ne.symm ne)], a, b, by simp [h]⟩
theorem Ch.app {S T : Sto} {n : Nat} (h : BoxAt S n) : Ch n S (S ++ T) :=
  ⟨by simp, fun i hi _ => by rw [List.getElem?_append_left hi], by
    obtain ⟨a, b, e⟩ := h
    exact ⟨a, b, by rw [List.getElem?_append_left (List.getElem?_eq_some_iff.mp e).1]; exact e⟩⟩
/-- a list of one's own is changed -/
theorem Ch.own {S S' : Sto} {n m : Nat} {o : O} (h : Ch n S S') (hm : S.length ≤ m) (hn : n < S.length) : Ch n S (S'.set m o) :=
  ⟨by rw [List.length_set]; exact h.le, fun i hi ne => by rw [List.getElem?_set_ne (by omega)]; exact h.same i hi ne, by
    obtain ⟨a, b, e⟩ := h.box
    exact ⟨a, b, by rw [List.getElem?_set_ne (by omega)]; exact e⟩⟩
theorem Ch.cut {S S' : Sto} {n : Nat} (h : Ch n S S') (hn : n < S.length) : ∃ T, Cut S S' T ∧ Ch n S T ∧ T.length = S.length := by
  refine ⟨S'.take S.length, ⟨h.le, rfl, fun i o hi e => ?_⟩, ⟨by rw [List.length_take]; have := h.le; omega, fun i hi ne => ?_, ?_⟩, by rw [List.length_take]; have := h.le; omega⟩
  · by_cases q : i = n
    · subst q
      obtain ⟨a, b, e2⟩ := h.box
      rw [e] at e2
      cases e2
      exact .inr rfl
    · exact .inl ((h.same i hi q).symm.trans e)
  · rw [List.getElem?_take_of_lt hi]
    exact h.same i hi ne
  · obtain ⟨a, b, e⟩ := h.box
    exact ⟨a, b, by rw [List.getElem?_take_of_lt hn]; exact e⟩
/-- a law's draw -/
theorem take_ok {S : Sto} {n : Nat} {many : Int} (h : BoxAt S n) (h0 : 0 < many) (h1 : many < 1073741824) :
    (F_law_take [.obj n, .py (.int many)] S).wp (fun d S' => ∃ r, d = .py (.int r) ∧ 0 ≤ r ∧ r < many ∧ Ch n S S' ∧ S'.length = S.length) noE := by
  have hn := h.lt
  obtain ⟨a, b, e⟩ := h
  have fin : ∀ (r x y : Int), 0 ≤ r → r < many → ∃ T, Cut S (S.set n (.lst [.py (.int x), .py (.int y)])) T ∧ (D.py (.int r)).pure = true ∧ ∃ r', D.py (.int r) = .py (.int r') ∧ 0 ≤ r' ∧ r' < many ∧ Ch n S T ∧ T.length = S.length := fun r x y h1 h2 => by
    obtain ⟨T, c, q, l⟩ := (Ch.set (a := x) (b := y) hn).cut hn
    exact ⟨T, c, rfl, r, rfl, h1, h2, q, l⟩
  unfold F_law_take b_law_take
  refine wp_fn ?_
  have i0 : itemD (.obj n) (.py (.int 0)) S = .ok (.py (.int a)) S := itemD_obj e 0 rfl
  have i1 : itemD (.obj n) (.py (.int 1)) S = .ok (.py (.int b)) S := itemD_obj e 1 rfl
  by_cases ha : 0 < a
  · simp [init, i0, ha, h0, h1, ixP_0 e]
    have := fin (a % many) (a / many) b (Int.emod_nonneg _ (by omega)) (Int.emod_lt_of_pos _ h0)
    simpa using this
  · simp [init, i0, i1, ha, ixP_1 e]
    have b0 : 0 ≤ (b * 48271 + 11) % 2147483647 := Int.emod_nonneg _ (by decide)
    have b1 : (b * 48271 + 11) % 2147483647 < 2147483647 := Int.emod_lt_of_pos _ (by decide)
    generalize (b * 48271 + 11) % 2147483647 = c at *
    have j1 : itemD (.obj n) (.py (.int 1)) (S.set n (.lst [.py (.int a), .py (.int c)])) = .ok (.py (.int c)) _ := itemD_obj (ds := [.py (.int a), .py (.int c)]) (by simp [hn]) 1 rfl
    have d0 : 0 ≤ c / 1009 := Int.ediv_nonneg b0 (by decide)
    have d1 : c / 1009 ≤ 2147483647 := by omega
    have q1 : -(2 ^ 64) < c / 1009 + 1 ∧ c / 1009 + 1 < 2 ^ 64 := by omega
    have q2 : ∀ x S, mulD (.py (.int x)) (.py (.int (c / 1009 + 1))) S = .ok (.py (.int (x * (c / 1009 + 1)))) S := fun x S => mulD_r q1
    simp [j1, q2, h0]
    have z := fin ((c / 1009 + 1) * (c / 1009 + 1) * (c / 1009 + 1) % 2147483629 / 61 % many) a c (Int.emod_nonneg _ (by omega)) (Int.emod_lt_of_pos _ h0)
    simpa using z
/-- the box of a script's number -/
theorem box_ok {S : Sto} {ns : List Int} {k : Nat} (hk : k < 1000000) :
    (F_law_box [.py (.list (ns.map .int)), .py (.int k)] S).wp (fun d S' => d = .obj S.length ∧ ∃ a b : Int, S' = S ++ [.lst [.py (.int a), .py (.int b)]]) noE := by
  unfold F_law_box b_law_box
  refine wp_fnM ?_
  have hk1 : -(2 ^ 64) < (k : Int) ∧ (k : Int) < 2 ^ 64 := by omega
  have m1 : ∀ x S, mulD (.py (.int x)) (.py (.int k)) S = .ok (.py (.int (x * k))) S := fun x S => mulD_r hk1
  by_cases hl : k < ns.length
  · have it : itemD (.py (.list (ns.map .int))) (.py (.int k)) S = .ok (.py (.int ns[k])) S := itemD_list k (by simp [hl])
    simp [init, m1, hl, it, wp_ite, D.pure]
    omega
  · simp [init, m1, hl, wp_ite, D.pure]
    try omega
end DV

set_option maxHeartbeats 4000000
namespace DV
open PySem
/-! Faces drawn from the box. -/
abbrev lt (c : Nat) : PyData := .str ⟨#[c]⟩
abbrev encL (p : Nat × Int) : PyData := .tuple [lt p.1, .int p.2]
structure Face where
  w : Int
  ls : List (Nat × Int)
abbrev Face.py (f : Face) : PyData := .tuple [.int f.w, .tuple (f.ls.map encL)]
structure Face.Good (f : Face) (lo hi : Int) : Prop where
  w0 : 1 ≤ f.w
  w1 : f.w ≤ 99
  lo : lo ≤ (f.ls.length : Int)
  hi : (f.ls.length : Int) ≤ hi
  nd : (f.ls.map (·.1)).Nodup
  ok : ∀ p ∈ f.ls, 97 ≤ p.1 ∧ p.1 ≤ 122 ∧ 10 ≤ p.2 ∧ p.2 ≤ 99
theorem alphabet : ("abcdefghijklmnopqrstuvwxyz" : Str).cps.toList = (List.range 26).map (97 + ·) := by decide +kernel
theorem list_alphabet (S : Sto) : listD [.py (.str "abcdefghijklmnopqrstuvwxyz")] S = .ok (((List.range 26).map (97 + ·)).map fun c => D.py (lt c)) S := by
  rw [listD_str (by decide +kernel), alphabet, List.map_map]
theorem nodup_pop : ∀ {l : List Nat} {r c : Nat}, l.Nodup → l[r]? = some c → c ∉ l.eraseIdx r ∧ (l.eraseIdx r).Nodup
  | [], r, c, _, hc => by simp at hc
  | a :: l, 0, c, h, hc => by
    simp at hc
    subst hc
    exact List.nodup_cons.mp h
  | a :: l, r + 1, c, h, hc => by
    rw [List.nodup_cons] at h
    have hc : l[r]? = some c := by simpa using hc
    have ih := nodup_pop h.2 hc
    have mc := List.mem_of_getElem? hc
    show c ∉ a :: l.eraseIdx r ∧ (a :: l.eraseIdx r).Nodup
    rw [List.nodup_cons, List.mem_cons, not_or]
    exact ⟨⟨fun e => h.1 (e ▸ mc), ih.1⟩, fun m => h.1 (List.mem_of_mem_eraseIdx m), ih.2⟩
def PoolI (n : Nat) (S T : Sto) (acc : List D) (k : Nat) : Prop :=
  Ch n S T ∧ ∃ (ls : List (Nat × Int)) (pl : List Nat), acc = ls.map (fun p => D.py (encL p)) ∧ T[S.length]? = some (.lst (pl.map fun c => D.py (lt c))) ∧ ls.length = k ∧ pl.length + k = 26 ∧ pl.Nodup ∧ (ls.map (·.1)).Nodup ∧
    (∀ p ∈ ls, p.1 ∉ pl ∧ 97 ≤ p.1 ∧ p.1 ≤ 122 ∧ 10 ≤ p.2 ∧ p.2 ≤ 99) ∧ ∀ c ∈ pl, 97 ≤ c ∧ c ≤ 122
theorem eraseIdx_map {α β : Type} (f : α → β) : ∀ (l : List α) (r : Nat), (l.map f).eraseIdx r = (l.eraseIdx r).map f
  | [], _ => rfl
  | _ :: _, 0 => rfl
  | a :: l, r + 1 => congrArg (f a :: ·) (eraseIdx_map f l r)
theorem face_ok {S : Sto} {n : Nat} {lo hi : Int} (h : BoxAt S n) (h0 : 0 ≤ lo) (h1 : lo ≤ hi) (h2 : hi ≤ 26) :
    (F_law_face [.obj n, .py (.int lo), .py (.int hi)] S).wp (fun d S' => ∃ f : Face, d = .py f.py ∧ f.Good lo hi ∧ Ch n S S' ∧ S'.length = S.length) noE := by
  have hn := h.lt
  unfold F_law_face b_law_face
  refine wp_fn ?_
  simp [init, list_alphabet]
  refine (take_ok (n := n) (many := hi - lo + 1) (Ch.app h).box (by omega) (by omega)).to ?_
  rintro d S1 ⟨m, rfl, m0, m1, c1, l1⟩
  have hp : S1[S.length]? = some (.lst (((List.range 26).map (97 + ·)).map fun c => D.py (lt c))) := c1.at_ (by simp) (by omega)
  have c1 := (Ch.app (T := [.lst (List.map ((fun c => D.py (lt c)) ∘ fun x => 97 + x) (List.range 26))]) h).trans c1
  simp at l1 ⊢
  refine ⟨by omega, ?_⟩
  refine wp_lcL (fun pre acc T => PoolI n S T acc pre.length) ?_ ?_ ?_
  · refine ⟨c1, [], (List.range 26).map (97 + ·), rfl, hp, rfl, by decide, by decide, by decide, by simp, by decide⟩
  · rintro pre x post acc T hxs ⟨cT, ls, pl, rfl, hpl, hl, hlen, ndp, ndl, hls, hcs⟩
    have hlp : pre.length + post.length + 1 = (lo + m).toNat := by
      have := congrArg List.length hxs
      simp [rngV] at this
      omega
    have pos : 0 < (pl.length : Int) := by omega
    have cnt : lenD [.obj S.length] T = _ := lenD_obj hpl
    simp [cnt, lsOk_obj hpl]
    refine (take_ok (n := n) (many := pl.length) cT.box pos (by omega)).to ?_
    rintro d T1 ⟨r, rfl, r0, r1, cT1, _⟩
    have hr : r.toNat < pl.length := by omega
    have hpl1 := cT1.at_ hpl (by omega)
    have hpop := popD_at (i := r) (d := D.py (lt pl[r.toNat])) hpl1 ⟨r0, by omega⟩ (by simp [hr])
    simp [hpop]
    refine (take_ok (n := n) (many := 90) ((cT.trans cT1).own (o := .lst ((pl.map fun c => D.py (lt c)).eraseIdx r.toNat)) (Nat.le_refl _) hn).box (by decide) (by decide)).to ?_
    rintro d T2 ⟨q, rfl, q0, q1, cT2, _⟩
    have np := nodup_pop ndp (List.getElem?_eq_getElem hr)
    have hT2 := cT2.at_ (m := S.length) (o := .lst ((pl.map fun c => D.py (lt c)).eraseIdx r.toNat)) (by rw [List.getElem?_set_self]; have := cT1.le; have := cT.le; have := (List.getElem?_eq_some_iff.mp hpl1).1; omega) (by omega)
    simp
    refine ⟨((cT.trans cT1).own (Nat.le_refl _) hn).trans cT2, ls ++ [(pl[r.toNat], 10 + q)], pl.eraseIdx r.toNat, by simp, ?_, by simp [hl], ?_, np.2, ?_, ?_, fun c hc => hcs c (List.mem_of_mem_eraseIdx hc)⟩
    · rw [hT2]
      rw [eraseIdx_map]
    · rw [List.length_eraseIdx_of_lt hr]
      omega
    · rw [List.map_append, List.nodup_append]
      refine ⟨ndl, by simp, fun a ha b hb => ?_⟩
      simp at hb
      subst hb
      obtain ⟨p, hp1, rfl⟩ := List.mem_map.mp ha
      intro e
      exact (hls p hp1).1 (e ▸ List.getElem_mem hr)
    · intro p hp1
      rw [List.mem_append] at hp1
      rcases hp1 with hp1 | hp1
      · obtain ⟨z1, z2⟩ := hls p hp1
        exact ⟨fun h => z1 (List.mem_of_mem_eraseIdx h), z2⟩
      · simp at hp1
        subst hp1
        obtain ⟨y1, y2⟩ := hcs _ (List.getElem_mem hr)
        exact ⟨np.1, y1, y2, by omega, by omega⟩
  · rintro acc T ⟨cT, ls, pl, rfl, hpl, hl, hlen, ndp, ndl, hls, hcs⟩
    have e : ls.map (fun p => D.py (encL p)) = (ls.map encL).map .py := by simp
    rw [e]
    simp
    refine (take_ok (n := n) (many := 99) cT.box (by decide) (by decide)).to ?_
    rintro d T1 ⟨q, rfl, q0, q1, cT1, _⟩
    obtain ⟨T2, k1, k2, k3⟩ := (cT.trans cT1).cut hn
    simp
    refine ⟨T2, k1, rfl, ⟨1 + q, ls⟩, ⟨rfl, rfl⟩, ⟨by simp; omega, by simp; omega, ?_, ?_, ndl, fun p hp1 => (hls p hp1).2⟩, k2, k3⟩
    · simp [hl, rngV]
      omega
    · simp [hl, rngV]
      omega
end DV

set_option maxHeartbeats 4000000
namespace DV
open PySem
/-! Draws by a comprehension; rows of lists that are changed. -/
abbrev pyi (i : Int) : D := .py (.int i)
theorem draws {α : Type} {n i : Nat} {S : Sto} {σ : En} {e : Ex} {xs : List D} {E : Str → Sto → Prop} (f : α → PyData) (p : α → Prop) (hb : BoxAt S n)
    (h : ∀ x S', x ∈ xs → Ch n S S' → (e (σ.set i (some x)) S').wp (fun d S2 => ∃ r, d = .py (f r) ∧ p r ∧ Ch n S' S2) noE) :
    (lcL (nmG i) yesT e σ xs S).wp (fun ds S' => ∃ rs : List α, ds = rs.map (fun r => .py (f r)) ∧ rs.length = xs.length ∧ (∀ r ∈ rs, p r) ∧ Ch n S S') E := by
  refine wp_lcL (fun pre acc T => ∃ rs : List α, acc = rs.map (fun r => .py (f r)) ∧ rs.length = pre.length ∧ (∀ r ∈ rs, p r) ∧ Ch n S T) ⟨[], rfl, rfl, by simp, .refl hb⟩ ?_ fun _ _ h => h
  rintro pre x post acc T hxs ⟨rs, rfl, hl, hp, c⟩
  rw [wp_nm, wp_yes, if_pos rfl]
  refine (h x T (by rw [hxs]; simp) c).to ?_
  rintro d S2 ⟨r, rfl, pr, c2⟩
  refine ⟨rs ++ [r], by simp, by simp [hl], fun y hy => ?_, c.trans c2⟩
  rw [List.mem_append] at hy
  rcases hy with hy | hy
  · exact hp y hy
  · rw [List.mem_singleton] at hy
    rw [hy]
    exact pr
theorem nodup_get {α : Type} {l : List α} (h : l.Nodup) {i j : Nat} {x : α} (h1 : l[i]? = some x) (h2 : l[j]? = some x) : i = j := by
  obtain ⟨p, e1⟩ := List.getElem?_eq_some_iff.mp h1
  obtain ⟨q, e2⟩ := List.getElem?_eq_some_iff.mp h2
  rcases Nat.lt_trichotomy i j with z | z | z
  · exact (List.pairwise_iff_getElem.mp h i j p q z (e1.trans e2.symm)).elim
  · exact z
  · exact (List.pairwise_iff_getElem.mp h j i q p z (e2.trans e1.symm)).elim
/-- rows that are changed -/
structure Grid (S : Sto) (lo m : Nat) (ids : List Nat) (rows : List (List Int)) : Prop where
  top : S[m]? = some (.lst (ids.map .obj))
  nd : ids.Nodup
  len : ids.length = rows.length
  own : ∀ i ∈ ids, lo ≤ i ∧ i ≠ m
  row : ∀ (j id : Nat) (r : List Int), ids[j]? = some id → rows[j]? = some r → S[id]? = some (.lst (r.map pyi))
  lo : lo ≤ m
theorem lcL_rows {i : Nat} {σ : En} {a : Ax} {f : D → List Int} : ∀ {xs : List D} {S : Sto}, (∀ x ∈ xs, ∀ S', a (σ.set i (some x)) S' = .ok ((f x).map pyi) S') →
    lcL (nmG i) yesT (thwE a) σ xs S = .ok ((List.range' S.length xs.length).map .obj) (S ++ xs.map fun x => .lst ((f x).map pyi))
  | [], S, _ => by simp [lcL]
  | x :: xs, S, h => by
    have e := h x (List.mem_cons_self ..) S
    unfold lcL
    simp only [nmG, yesT, if_true, thwE, thw, e, bind_ok]
    have ih := lcL_rows (i := i) (σ := σ) (a := a) (f := f) (xs := xs) (S := S ++ [.lst ((f x).map pyi)]) fun y hy => h y (List.mem_cons_of_mem _ hy)
    rw [ih]
    simp [List.range'_succ]
theorem lcL_rowsR {i : Nat} {σ : En} {a : Ax} {xs : List D} {S : Sto} {rows : List (List Int)} (f : D → List Int) (hr : xs.map f = rows) (h : ∀ x ∈ xs, ∀ S', a (σ.set i (some x)) S' = .ok ((f x).map pyi) S') :
    lcL (nmG i) yesT (thwE a) σ xs S = .ok ((List.range' S.length rows.length).map .obj) (S ++ rows.map fun r => .lst (r.map pyi)) := by
  subst hr
  rw [lcL_rows h, List.length_map, List.map_map]
  rfl
theorem lcL_rowsM {α : Type} {i : Nat} {σ : En} {a : Ax} {ls : List α} {S : Sto} (enc : α → D) (f : α → List Int) (h : ∀ x ∈ ls, ∀ S', a (σ.set i (some (enc x))) S' = .ok ((f x).map pyi) S') :
    lcL (nmG i) yesT (thwE a) σ (ls.map enc) S = .ok ((List.range' S.length (ls.map f).length).map .obj) (S ++ (ls.map f).map fun r => .lst (r.map pyi)) := by
  induction ls generalizing S with
  | nil => simp [lcL]
  | cons x xs ih =>
    have e := h x (List.mem_cons_self ..) S
    rw [List.map_cons]
    unfold lcL
    simp only [nmG, yesT, if_true, thwE, thw, e, bind_ok]
    have ih := ih (S := S ++ [.lst ((f x).map pyi)]) fun y hy => h y (List.mem_cons_of_mem _ hy)
    rw [ih]
    simp [List.range'_succ]
theorem Grid.new {S : Sto} {lo : Nat} {rows : List (List Int)} (hlo : lo ≤ S.length) :
    Grid (S ++ (rows.map fun r => O.lst (r.map pyi)) ++ [.lst ((List.range' S.length rows.length).map .obj)]) lo (S.length + rows.length) (List.range' S.length rows.length) rows := by
  refine ⟨?_, List.nodup_range', by simp, fun i hi => ?_, fun j id r h1 h2 => ?_, by omega⟩
  · rw [List.getElem?_append_right (by simp)]
    simp
  · rw [List.mem_range'_1] at hi
    omega
  · have hj := (List.getElem?_eq_some_iff.mp h2).1
    rw [List.getElem?_range' hj] at h1
    have h1 : S.length + j = id := by simpa using h1
    subst h1
    rw [List.append_assoc, List.getElem?_append_right (by omega), List.getElem?_append_left (by simp; omega)]
    simp [h2]
theorem Grid.ch {S S' : Sto} {n lo m : Nat} {ids : List Nat} {rows : List (List Int)} (h : Grid S lo m ids rows) (c : Ch n S S') (hn : n < lo) : Grid S' lo m ids rows := by
  have hlo := h.lo
  refine ⟨c.at_ h.top (by omega), h.nd, h.len, h.own, fun j id r e1 e2 => c.at_ (h.row j id r e1 e2) ?_, hlo⟩
  have := (h.own id (List.mem_of_getElem? e1)).1
  omega
/-- the list at m, whose rows are objects -/
theorem Grid.get {S : Sto} {lo m a : Nat} {ids : List Nat} {rows : List (List Int)} (h : Grid S lo m ids rows) (ha : a < rows.length) : itemD (.obj m) (.py (.int a)) S = .ok (.obj (ids[a]'(h.len ▸ ha))) S :=
  itemD_obj h.top a (by simp [h.len, ha])
theorem Grid.at_ {S : Sto} {lo m a : Nat} {ids : List Nat} {rows : List (List Int)} (h : Grid S lo m ids rows) (ha : a < rows.length) : S[ids[a]'(h.len ▸ ha)]? = some (.lst (rows[a].map pyi)) :=
  h.row a _ _ (List.getElem?_eq_getElem _) (List.getElem?_eq_getElem ha)
theorem Grid.set {S : Sto} {lo m a : Nat} {ids : List Nat} {rows : List (List Int)} (h : Grid S lo m ids rows) (ha : a < rows.length) (r : List Int) : Grid (S.set (ids[a]'(h.len ▸ ha)) (.lst (r.map pyi))) lo m ids (rows.set a r) := by
  have ha' : a < ids.length := h.len ▸ ha
  have e1 : ids[a]? = some ids[a] := List.getElem?_eq_getElem ha'
  have m1 := h.own _ (List.getElem_mem ha')
  refine ⟨by rw [List.getElem?_set_ne m1.2]; exact h.top, h.nd, by simp [h.len], h.own, fun j id q e2 e3 => ?_, h.lo⟩
  by_cases hj : a = j
  · subst hj
    rw [e1] at e2
    cases e2
    rw [List.getElem?_set_self ha] at e3
    cases e3
    rw [List.getElem?_set_self]
    exact (List.getElem?_eq_some_iff.mp (h.at_ ha)).1
  · rw [List.getElem?_set_ne hj] at e3
    have ne : ids[a] ≠ id := by
      intro e
      exact hj (nodup_get h.nd e1 (e ▸ e2))
    rw [List.getElem?_set_ne ne]
    exact h.row j id q e2 e3
/-- an item of a row is set -/
theorem Grid.put {S : Sto} {lo m a b : Nat} {ids : List Nat} {rows : List (List Int)} {v : Int} {σ : En} (h : Grid S lo m ids rows) (ha : a < rows.length) (hb : b < rows[a].length) :
    ixP (.obj (ids[a]'(h.len ▸ ha))) (.py (.int b)) (.py (.int v)) σ S = .ok σ (S.set (ids[a]'(h.len ▸ ha)) (.lst ((rows[a].set b v).map pyi))) := by
  rw [ixP_obj (h.at_ ha) (by simpa using hb), List.map_set]
theorem fixL_ok : ∀ {ids : List Nat} {rows : List (List Int)} {S : Sto}, ids.Nodup → ids.length = rows.length → (∀ (j id : Nat) (r : List Int), ids[j]? = some id → rows[j]? = some r → S[id]? = some (.lst (r.map pyi))) →
    ∃ S', fixL S (ids.map .obj) = some (rows.map fun r => .list (r.map .int), S') ∧ S'.length = S.length ∧ ∀ i, i ∉ ids → S'[i]? = S[i]?
  | [], [], S, _, _, _ => ⟨S, rfl, rfl, fun _ _ => rfl⟩
  | id :: ids, r :: rows, S, hn, hl, h => by
    have e := h 0 id r rfl rfl
    have hn := List.nodup_cons.mp hn
    obtain ⟨S', e1, e2, e3⟩ := fixL_ok (ids := ids) (rows := rows) (S := S.set id .gone) hn.2 (by simpa using hl) fun j id2 r2 h1 h2 => by
      rw [List.getElem?_set_ne (fun (e : id = id2) => hn.1 (e ▸ List.mem_of_getElem? h1))]
      exact h (j + 1) id2 r2 h1 h2
    refine ⟨S', ?_, by rw [e2]; simp, fun i hi => ?_⟩
    · have pe : pysOf (r.map pyi) = some (r.map PyData.int) := pysOf_fun PyData.int r
      simp only [List.map, fixL, e, pe, e1, Option.map]
    · rw [List.mem_cons, not_or] at hi
      rw [e3 i hi.2, List.getElem?_set_ne (Ne.symm hi.1)]
abbrev encR (rows : List (List Int)) : PyData := .list (rows.map fun r => .list (r.map .int))
@[simp] theorem seqD_encR (R : List (List Int)) : seqD (.py (encR R)) = some (R.map fun r => .list (r.map .int)) := id rfl
@[simp] theorem walk_encR (R : List (List Int)) (S : Sto) : pyWalk S (.py (encR R)) = some (R.map fun r => .list (r.map .int)) := id rfl
theorem Grid.fix {S : Sto} {lo m i : Nat} {ids : List Nat} {rows : List (List Int)} {σ : En} {N : K} (h : Grid S lo m ids rows) (hi : σ[i]? = some (some (.obj m))) (q : ∀ S', S'.length = S.length → (∀ j, j < lo → S'[j]? = S[j]?) → N.nx (σ.set i (some (.py (encR rows)))) S') : (fix2S i σ S).wp N := by
  have hlo := h.lo
  obtain ⟨S', e1, e2, e3⟩ := fixL_ok (S := S.set m .gone) h.nd h.len fun j id r a b => by
    rw [List.getElem?_set_ne (Ne.symm (h.own id (List.mem_of_getElem? a)).2)]
    exact h.row j id r a b
  unfold fix2S
  simp only [hi, h.top, e1]
  refine q S' (by rw [e2]; simp) fun j hj => ?_
  rw [e3 j (fun z => by have := (h.own j z).1; omega), List.getElem?_set_ne (by omega)]
structure Rows (rows : List (List Int)) (many : Nat) : Prop where
  len : rows.length = many
  row : ∀ r ∈ rows, r.length = many
  bnd : ∀ r ∈ rows, ∀ x ∈ r, -9 ≤ x ∧ x ≤ 9
theorem Rows.set {rows : List (List Int)} {many a b : Nat} {v : Int} (h : Rows rows many) (ha : a < rows.length) (h1 : -9 ≤ v) (h2 : v ≤ 9) : Rows (rows.set a (rows[a].set b v)) many := by
  have hm : rows[a] ∈ rows := List.getElem_mem ha
  refine ⟨by rw [List.length_set]; exact h.len, fun r hr => ?_, fun r hr x hx => ?_⟩
  · rcases List.mem_or_eq_of_mem_set hr with q | rfl
    · exact h.row r q
    · rw [List.length_set]
      exact h.row _ hm
  · rcases List.mem_or_eq_of_mem_set hr with q | rfl
    · exact h.bnd r q x hx
    · rcases List.mem_or_eq_of_mem_set hx with q | rfl
      · exact h.bnd _ hm x q
      · exact ⟨h1, h2⟩
/-- what lies below is as it was -/
theorem Ch.low {n : Nat} {S T T' : Sto} (c : Ch n S T) (hn : n < S.length) (hl : T'.length = T.length) (h : ∀ j, j < S.length → T'[j]? = T[j]?) : Ch n S T' :=
  ⟨by rw [hl]; exact c.le, fun i hi ne => (h i hi).trans (c.same i hi ne), by
    obtain ⟨a, b, e⟩ := c.box
    exact ⟨a, b, (h n hn).trans e⟩⟩
end DV

set_option maxHeartbeats 4000000
namespace DV
open PySem
theorem rows_ok {S : Sto} {n many : Nat} (h : BoxAt S n) (h0 : 0 < many) (h1 : many ≤ 64) :
    (F_law_rows [.obj n, .py (.int many)] S).wp (fun d S' => ∃ rows, d = .py (encR rows) ∧ Rows rows many ∧ Ch n S S' ∧ S'.length = S.length) noE := by
  have hn := h.lt
  have tk : ∀ {T : Sto} (m : Int), Ch n S T → 0 < m → m < 1073741824 → (F_law_take [.obj n, .py (.int m)] T).wp (fun d S2 => ∃ r, d = .py (PyData.int r) ∧ (0 ≤ r ∧ r < m) ∧ Ch n T S2) noE := fun m c a b =>
    (take_ok c.box a b).to fun d S2 ⟨r, e, r0, r1, c2, _⟩ => ⟨r, e, ⟨r0, r1⟩, c2⟩
  unfold F_law_rows b_law_rows
  refine wp_fn ?_
  simp [init]
  refine ⟨by omega, ?_⟩
  refine (draws PyData.int (fun r => 0 ≤ r ∧ r < 3) h fun x S' _ c => ?_).to ?_
  · simp
    exact tk 3 c (by decide) (by decide)
  rintro _ S1 ⟨fs, rfl, lf, bf, c1⟩
  simp
  refine ⟨by omega, ?_⟩
  refine (draws PyData.int (fun r => 0 ≤ r ∧ r < 3) c1.box fun x S' _ c => ?_).to ?_
  · simp
    exact tk 3 (c1.trans c) (by decide) (by decide)
  rintro _ S2 ⟨ss, rfl, ls, bs, c2⟩
  simp [pysOf]
  have near : ∀ (r : Int) (T : Sto), 0 ≤ r ∧ r < 7 → ∃ x, itemD (.py (.list [.int 0, .int 0, .int 1, .int (-1), .int 9, .int (-9), .int 4])) (.py (.int r)) T = .ok (.py (.int x)) T ∧ -9 ≤ x ∧ x ≤ 9 := by
    intro r T hr
    have : r = 0 ∨ r = 1 ∨ r = 2 ∨ r = 3 ∨ r = 4 ∨ r = 5 ∨ r = 6 := by omega
    rcases this with rfl | rfl | rfl | rfl | rfl | rfl | rfl
    · exact ⟨_, itemD_list 0 rfl, by decide⟩
    · exact ⟨_, itemD_list 1 rfl, by decide⟩
    · exact ⟨_, itemD_list 2 rfl, by decide⟩
    · exact ⟨_, itemD_list 3 rfl, by decide⟩
    · exact ⟨_, itemD_list 4 rfl, by decide⟩
    · exact ⟨_, itemD_list 5 rfl, by decide⟩
    · exact ⟨_, itemD_list 6 rfl, by decide⟩
  refine (draws (fun g : List Int => .list (g.map .int)) (fun g => g.length = 3 ∧ ∀ x ∈ g, -9 ≤ x ∧ x ≤ 9) c2.box fun x S' _ c => ?_).to ?_
  · simp
    refine (draws PyData.int (fun r => -9 ≤ r ∧ r ≤ 9) c.box fun x S3 _ c3 => ?_).to ?_
    · simp
      refine (tk 7 ((c1.trans c2).trans (c.trans c3)) (by decide) (by decide)).to ?_
      rintro _ S4 ⟨r, rfl, hr, c4⟩
      obtain ⟨v, e1, e2⟩ := near r S4 hr
      exact wp_of e1 ⟨v, rfl, e2, c4⟩
    · rintro _ S3 ⟨rs, rfl, hl, hb, c3⟩
      simp
      exact ⟨rs, rfl, ⟨by simpa [rngV] using hl, hb⟩, c3⟩
  rintro _ S3 ⟨gs, rfl, lg, bg, c3⟩
  have lg : gs.length = 3 := by simpa [rngV] using lg
  have c3 := (c1.trans c2).trans c3
  simp
  refine wp_of (lcL_rowsR (rows := fs.map fun a => ss.map fun b => (gs[a.toNat]?.getD [])[b.toNat]?.getD 0) (fun x => match x with
    | .py (.int a) => ss.map fun b => (gs[a.toNat]?.getD [])[b.toNat]?.getD 0
    | _ => []) (by simp) fun x hx S' => wp_eq ?_) ?_
  · rw [List.mem_map] at hx
    obtain ⟨a, ha, rfl⟩ := hx
    have ba := bf a ha
    have ga : a.toNat < gs.length := by omega
    have bga := bg _ (List.getElem_mem ga)
    simp
    refine wp_pure1 (fun y => match y with
      | .py (.int b) => pyi ((gs[a.toNat]?.getD [])[b.toNat]?.getD 0)
      | _ => y) (fun y hy => wp_eq ?_) ?_
    · rw [List.mem_map] at hy
      obtain ⟨b, hb, rfl⟩ := hy
      have bb := bs b hb
      have gb : b.toNat < gs[a.toNat].length := by omega
      have i1 : ∀ T, itemD (.py (.list (gs.map fun g => .list (g.map .int)))) (.py (.int a)) T = .ok (.py (.list (gs[a.toNat].map .int))) T := fun T => itemD_listI ba.1 (by simp [ga])
      have i2 : ∀ T, itemD (.py (.list (gs[a.toNat].map .int))) (.py (.int b)) T = .ok (.py (.int gs[a.toNat][b.toNat])) T := fun T => itemD_listI bb.1 (by simp [gb])
      simp [i1, i2, ga, gb]
    · simp [Function.comp_def]
  have R0 : Rows (fs.map fun a => ss.map fun b => (gs[a.toNat]?.getD [])[b.toNat]?.getD 0) many := by
    refine ⟨by simp [lf, rngV], fun r hr => ?_, fun r hr x hx => ?_⟩
    · obtain ⟨a, ha, rfl⟩ := List.mem_map.mp hr
      simp [ls, rngV]
    · obtain ⟨a, ha, rfl⟩ := List.mem_map.mp hr
      obtain ⟨b, hb, rfl⟩ := List.mem_map.mp hx
      have ba := bf a ha
      have ga : a.toNat < gs.length := by omega
      have bga := bg _ (List.getElem_mem ga)
      have bb := bs b hb
      have gb : b.toNat < gs[a.toNat].length := by omega
      simp [ga, gb]
      exact bga.2 _ (List.getElem_mem gb)
  generalize (fs.map fun a => ss.map fun b => (gs[a.toNat]?.getD [])[b.toNat]?.getD 0) = rows at *
  have G := Grid.new (S := S3) (lo := S.length) (rows := rows) c3.le
  have c4 : Ch n S (S3 ++ (rows.map fun r => O.lst (r.map pyi)) ++ [.lst ((List.range' S3.length rows.length).map .obj)]) := by
    rw [List.append_assoc]
    exact c3.trans (Ch.app c3.box)
  have em : S3.length + rows.length = (S3 ++ (rows.map fun r => O.lst (r.map pyi))).length := by simp
  rw [em] at G
  generalize hm : (S3 ++ (rows.map fun r => O.lst (r.map pyi))).length = m at *
  generalize S3 ++ (rows.map fun r => O.lst (r.map pyi)) ++ [.lst ((List.range' S3.length rows.length).map .obj)] = T0 at *
  refine (tk 4 c4 (by decide) (by decide)).to ?_
  rintro _ S5 ⟨j, rfl, hj, c5⟩
  simp
  refine ⟨by omega, ?_⟩
  refine wp_forL (fun _ σ T => σ.set 7 none = _ ∧ Ch n S T ∧ ∃ ids rows, Rows rows many ∧ Grid T S.length m ids rows) ⟨rfl, c4.trans c5, _, rows, R0, G.ch c5 hn⟩ ?_ ?_
  · rintro pre x post σ T _ ⟨hσ, cT, ids, rows, RT, GT⟩
    obtain ⟨y, rfl⟩ := slot_any hσ
    simp
    refine (tk 19 cT (by decide) (by decide)).to ?_
    rintro _ T1 ⟨v, rfl, hv, c6⟩
    simp
    refine (tk many (cT.trans c6) (by omega) (by omega)).to ?_
    rintro _ T2 ⟨a, rfl, ha, c7⟩
    have G2 := (GT.ch c6 hn).ch c7 hn
    obtain ⟨k, rfl⟩ : ∃ k : Nat, a = k := ⟨a.toNat, by omega⟩
    have hk : k < rows.length := by rw [RT.len]; omega
    simp [G2.get hk]
    refine (tk many ((cT.trans c6).trans c7) (by omega) (by omega)).to ?_
    rintro _ T3 ⟨b, rfl, hb, c8⟩
    obtain ⟨q, rfl⟩ : ∃ q : Nat, b = q := ⟨b.toNat, by omega⟩
    have hq : q < rows[k].length := by rw [RT.row _ (List.getElem_mem hk)]; omega
    have G3 := G2.ch c8 hn
    have hid : S.length ≤ ids[k]'(G3.len ▸ hk) := (G3.own _ (List.getElem_mem _)).1
    refine wp_of (G3.put hk hq) ⟨rfl, (((cT.trans c6).trans c7).trans c8).own hid hn, ids, _, RT.set hk (by omega) (by omega), G3.set hk _⟩
  · rintro σ T ⟨hσ, cT, ids, rows, RT, GT⟩
    obtain ⟨y, rfl⟩ := slot_any hσ
    simp
    refine GT.fix rfl fun S' hl hs => ?_
    obtain ⟨U, k1, k2, k3⟩ := (cT.low hn hl hs).cut hn
    simp
    exact ⟨U, k1, rfl, rows, rfl, RT, k2, k3⟩
end DV

set_option maxHeartbeats 4000000
namespace DV
open PySem
/-! Lists of gaps, known letters. -/
section
variable {α : Type} {g : Tg} {b : Sx} {σ : En} {S : Sto} {N : K}
theorem wp_forM (f : α → D) {ls : List α} (I : List α → En → Sto → Prop) (h0 : I [] σ S)
    (hs : ∀ pre x post σ S, ls = pre ++ x :: post → I pre σ S → (g (f x) σ S).wp (fun σ1 S1 => (b σ1 S1).wp { N with nx := fun σ2 S2 => I (pre ++ [x]) σ2 S2, ct := fun σ2 S2 => I (pre ++ [x]) σ2 S2, bk := fun σ2 S2 => N.nx σ2 S2 }) N.ex)
    (he : ∀ σ S, I ls σ S → N.nx σ S) : (forL g b (ls.map f) σ S).wp N := by
  refine wp_forL (fun pre σ S => ∃ p : List α, pre = p.map f ∧ p.length ≤ ls.length ∧ p = ls.take p.length ∧ I p σ S) ⟨[], rfl, Nat.zero_le _, by simp, h0⟩ ?_ ?_
  · rintro pre x post σ S e ⟨p, rfl, hl, ht, hI⟩
    obtain ⟨l1, l2, e1, e2, e3⟩ := List.map_eq_append_iff.mp e
    obtain ⟨y, l3, e4, e5, e6⟩ := List.map_eq_cons_iff.mp e3
    have lp : l1.length = p.length := by have := congrArg List.length e2; simpa using this
    have ep : p = l1 := by rw [ht, e1, ← lp, List.take_left]
    subst ep
    subst e5
    have e9 : ls = (p ++ [y]) ++ l3 := by rw [e1, e4]; simp
    refine (hs p y l3 σ S (by rw [e1, e4]) hI).mono (fun σ1 S1 h => h.mono (fun σ2 S2 h => ?_) (fun _ _ h => h) (fun _ _ h => h) (fun σ2 S2 h => ?_) fun _ _ h => h) fun _ _ h => h
    · exact ⟨p ++ [y], by simp, by rw [e9]; simp, by rw [e9, List.take_left], h⟩
    · exact ⟨p ++ [y], by simp, by rw [e9]; simp, by rw [e9, List.take_left], h⟩
  · rintro σ S ⟨p, e, hl, ht, hI⟩
    have lp : p.length = ls.length := by have := congrArg List.length e; simpa using this.symm
    rw [lp, List.take_length] at ht
    exact he σ S (ht ▸ hI)
theorem wp_pureM {c : Tx} {e : Ex} {P : List D → Sto → Prop} {E : Str → Sto → Prop} {ls : List α} (f : α → D) (p : α → Bool) (h : α → D)
    (hs : ∀ x ∈ ls, (g (f x) σ S).wp (fun σ1 S1 => (c σ1 S1).wp (fun k S2 => k = p x ∧ S2 = S ∧ (k = true → (e σ1 S).wp (fun d S3 => d = h x ∧ S3 = S) noE)) noE) noE) (q : P ((ls.filter p).map h) S) : (lcL g c e σ (ls.map f) S).wp P E := by
  refine wp_of ?_ q
  clear q
  induction ls with
  | nil => rfl
  | cons x xs ih =>
    obtain ⟨σ1, S1, h1, hs1⟩ := (hs x (List.mem_cons_self ..)).out
    obtain ⟨k, S2, h2, rfl, rfl, hs2⟩ := hs1.out
    have ih := ih fun y hy => hs y (List.mem_cons_of_mem _ hy)
    rw [List.map_cons]
    unfold lcL
    rw [h1]
    simp only [h2]
    cases hp : p x with
    | false => simp [ih, hp]
    | true =>
      obtain ⟨d, S3, h3, rfl, rfl⟩ := (hs2 hp).out
      simp [h3, ih, hp]
/-- one name, no test -/
theorem wp_pureM1 {i : Nat} {e : Ex} {P : List D → Sto → Prop} {E : Str → Sto → Prop} {ls : List α} (f : α → D) (h : α → D)
    (hs : ∀ x ∈ ls, e (σ.set i (some (f x))) S = .ok (h x) S) (q : P (ls.map h) S) : (lcL (nmG i) yesT e σ (ls.map f) S).wp P E :=
  wp_pureM f (fun _ => true) h (fun x hx => ⟨rfl, rfl, fun _ => wp_of (hs x hx) ⟨rfl, rfl⟩⟩) (by rw [List.filter_eq_self.mpr fun _ _ => rfl]; exact q)
end
abbrev Pair := Nat × Nat × Int
abbrev encT (p : Pair) : PyData := .tuple [lt p.1, lt p.2.1, .int p.2.2]
abbrev encP (ps : List Pair) : PyData := .tuple (ps.map encT)
@[simp] theorem seqD_encP (ps : List Pair) : seqD (.py (encP ps)) = some (ps.map encT) := id rfl
@[simp] theorem walk_encP (ps : List Pair) (S : Sto) : pyWalk S (.py (encP ps)) = some (ps.map encT) := id rfl
def Face.lets (f : Face) : List Nat := f.ls.map (·.1)
@[simp] theorem lets_length (f : Face) : f.lets.length = f.ls.length := by simp [Face.lets]
theorem letters_of_eq (f : Face) (S : Sto) : F_letters_of [.py f.py] S = .ok (.py (.tuple (f.lets.map lt))) S := by
  unfold F_letters_of b_letters_of
  refine fn_eq (wp_fn ?_)
  simp [init]
  refine wp_pureM1 (D.py ∘ encL) (fun p => .py (lt p.1)) (fun x _ => wp_eq (by simp)) ?_
  simp
  exact ⟨S, .self, rfl, by simp [Face.lets], rfl⟩
theorem law_letters_eq (f : Face) (S : Sto) : F_law_letters [.py f.py] S = .ok (.py (.list (f.lets.map lt))) S := by
  unfold F_law_letters b_law_letters
  refine fn_eq (wp_fn ?_)
  simp [init]
  refine wp_pureM1 (D.py ∘ encL) (fun p => .py (lt p.1)) (fun x _ => wp_eq (by simp)) ?_
  simp
  exact ⟨S, .self, rfl, by simp [Face.lets], rfl⟩
def gapIn (ps : List Pair) (l r : Nat) : Int := match ps.find? (fun p => p.1 = l ∧ p.2.1 = r) with
  | some p => p.2.2
  | none => 0
theorem slot2 {σ l : En} {i j : Nat} (h : (σ.set j none).set i none = l) : ∃ x y, σ = (l.set i x).set j y := by
  obtain ⟨x, h⟩ := slot_any h
  obtain ⟨y, h⟩ := slot_any h
  exact ⟨x, y, h⟩
theorem slot3 {σ l : En} {i j k : Nat} (h : ((σ.set k none).set j none).set i none = l) : ∃ x y z, σ = ((l.set i x).set j y).set k z := by
  obtain ⟨x, h⟩ := slot_any h
  obtain ⟨y, z, h⟩ := slot2 h
  exact ⟨x, y, z, h⟩
theorem slot4 {σ l : En} {i j k m : Nat} (h : (((σ.set m none).set k none).set j none).set i none = l) : ∃ x y z w, σ = (((l.set i x).set j y).set k z).set m w := by
  obtain ⟨x, h⟩ := slot_any h
  obtain ⟨y, z, w, h⟩ := slot3 h
  exact ⟨x, y, z, w, h⟩
def NoHit (l r : Nat) (ps : List Pair) : Prop := ∀ p ∈ ps, ¬ (p.1 = l ∧ p.2.1 = r)
theorem gapIn_hit {pre post : List Pair} {l r : Nat} {x : Pair} (h : NoHit l r pre) (h1 : x.1 = l) (h2 : x.2.1 = r) : gapIn (pre ++ x :: post) l r = x.2.2 := by
  unfold gapIn
  have e : (pre ++ x :: post).find? (fun p => decide (p.1 = l ∧ p.2.1 = r)) = some x := by
    rw [List.find?_append, List.find?_eq_none.mpr (fun p hp => by simpa using h p hp)]
    simp [h1, h2]
  rw [e]
theorem gapIn_none {ps : List Pair} {l r : Nat} (h : NoHit l r ps) : gapIn ps l r = 0 := by
  unfold gapIn
  rw [List.find?_eq_none.mpr (fun p hp => by simpa using h p hp)]
theorem NoHit.snoc {pre : List Pair} {l r : Nat} {x : Pair} (h : NoHit l r pre) (hx : ¬ (x.1 = l ∧ x.2.1 = r)) : NoHit l r (pre ++ [x]) := fun p hp => by
  rw [List.mem_append, List.mem_singleton] at hp
  rcases hp with hp | rfl
  · exact h p hp
  · exact hx
theorem gap_in_eq (ps : List Pair) (l r : Nat) (S : Sto) : F_gap_in [.py (encP ps), .py (lt l), .py (lt r)] S = .ok (.py (.int (gapIn ps l r))) S := by
  unfold F_gap_in b_gap_in
  refine fn_eq (wp_fn ?_)
  simp [init]
  refine wp_forM (D.py ∘ encT) (fun pre σ T => T = S ∧ ((σ.set 3 none).set 4 none).set 5 none = _ ∧ NoHit l r pre) ⟨rfl, rfl, fun p hp => by cases hp⟩ ?_ ?_
  · rintro pre x post σ T e ⟨rfl, hσ, hp⟩
    obtain ⟨_, _, _, rfl⟩ := slot3 hσ
    clear hσ
    simp
    by_cases h1 : x.1 = l
    · by_cases h2 : x.2.1 = r
      · exact .inr ⟨h1, .inr ⟨h2, T, .self, rfl, by rw [e, gapIn_hit hp h1 h2], rfl⟩⟩
      · exact .inr ⟨h1, .inl ⟨h2, hp.snoc fun h => h2 h.2⟩⟩
    · exact .inl ⟨h1, hp.snoc fun h => h1 h.1⟩
  · rintro σ T ⟨rfl, hσ, hp⟩
    simp
    exact ⟨T, .self, rfl, (gapIn_none hp).symm, rfl⟩
/-! ### the list of rows -/
def rowA (l : Nat) (ps : List (Nat × Int)) : List Pair := (ps.filter fun p => p.2 ≠ 0).map fun p => (l, p.1, p.2)
theorem rowA_no {l : Nat} {ps : List (Nat × Int)} {y : Nat × Int} (h : y.2 = 0) : rowA l (ps ++ [y]) = rowA l ps := by simp [rowA, h]
theorem rowA_yes {l : Nat} {ps : List (Nat × Int)} {y : Nat × Int} (h : y.2 ≠ 0) : rowA l (ps ++ [y]) = rowA l ps ++ [(l, y.1, y.2)] := by simp [rowA, h]
theorem rowA_len (l : Nat) (ps : List (Nat × Int)) : (rowA l ps).length ≤ ps.length := by
  unfold rowA
  rw [List.length_map]
  exact List.length_filter_le _ _
def rowP (l : Nat) (L : List Nat) (row : List Int) : List Pair := rowA l (L.zip row)
def mlist (L : List Nat) (rows : List (List Int)) : List Pair := (L.zip rows).flatMap fun p => rowP p.1 L p.2
theorem rowP_len (l : Nat) (L : List Nat) (row : List Int) : (rowP l L row).length ≤ L.length := by
  refine Nat.le_trans (rowA_len _ _) ?_
  rw [List.length_zip]
  exact Nat.min_le_left _ _
theorem flat_len {α β : Type} (f : α → List β) (n : Nat) : ∀ (xs : List α), (∀ x ∈ xs, (f x).length ≤ n) → (xs.flatMap f).length ≤ xs.length * n
  | [], _ => by simp
  | x :: xs, h => by
    have h1 := h x (List.mem_cons_self ..)
    have h2 := flat_len f n xs fun y hy => h y (List.mem_cons_of_mem _ hy)
    rw [List.flatMap_cons, List.length_append, List.length_cons, Nat.add_mul]
    omega
def flatP (L : List Nat) (xs : List (Nat × List Int)) : List Pair := xs.flatMap fun p => rowP p.1 L p.2
theorem flatP_len {L : List Nat} {pre post : List (Nat × List Int)} {x : Nat × List Int} {rows : List (List Int)} (e : L.zip rows = pre ++ x :: post) (hL : L.length ≤ 200) : (flatP L pre).length + L.length ≤ 40000 := by
  have h1 := flat_len (fun p : Nat × List Int => rowP p.1 L p.2) L.length pre fun p _ => rowP_len _ _ _
  have h2 : pre.length < L.length := by
    have := congrArg List.length e
    rw [List.length_zip, List.length_append, List.length_cons] at this
    omega
  have h3 : pre.length * L.length ≤ pre.length * 200 := Nat.mul_le_mul_left _ hL
  unfold flatP
  omega
theorem flatP_snoc (L : List Nat) (pre : List (Nat × List Int)) (x : Nat × List Int) : flatP L (pre ++ [x]) = flatP L pre ++ rowP x.1 L x.2 := by simp [flatP]
theorem law_list_eq (f : Face) (rows : List (List Int)) (S : Sto) (h1 : f.ls.length ≤ 200) : F_law_list [.py f.py, .py (encR rows)] S = .ok (.py (encP (mlist f.lets rows))) S := by
  unfold F_law_list b_law_list
  refine fn_eq (wp_fn ?_)
  have hL : f.lets.length ≤ 200 := by simpa [Face.lets] using h1
  simp [init, law_letters_eq]
  rw [stL_nil]
  refine wp_forM _ (fun pre σ T => wipeD σ [4, 5, 6, 7] = _ ∧ T = stL S ((flatP f.lets pre).map encT)) ⟨rfl, rfl⟩ ?_ ?_
  · rintro pre x post σ T e ⟨hσ, rfl⟩
    obtain ⟨_, _, _, _, rfl⟩ := slot4 hσ
    clear hσ
    simp
    have hlen := flatP_len e hL
    refine wp_forM _ (fun pre2 σ T => wipeD σ [6, 7] = _ ∧ T = stL S ((flatP f.lets pre ++ rowA x.1 pre2).map encT)) ⟨rfl, by simp [rowA]⟩ ?_ ?_
    · rintro pre2 y post2 σ T e2 ⟨hσ, rfl⟩
      obtain ⟨_, _, rfl⟩ := slot2 hσ
      clear hσ
      by_cases hy : y.2 = 0
      · simp [hy, rowA_no]
      · have l2 := rowA_len x.1 pre2
        have l3 : pre2.length ≤ f.lets.length := by
          have := congrArg List.length e2
          rw [List.length_zip, List.length_append] at this
          omega
        have ap := stL_app (S := S) (ds := (flatP f.lets pre ++ rowA x.1 pre2).map encT) (d := encT (x.1, y.1, y.2)) (by rw [List.length_map, List.length_append, show sizeLine = 16777216 from rfl]; omega)
        simp [hy]
        rw [List.map_append] at ap
        refine wp_of ap ?_
        simp [rowA_yes hy]
    · rintro σ T ⟨hσ, rfl⟩
      obtain ⟨_, _, rfl⟩ := slot2 hσ
      clear hσ
      simp [flatP_snoc, rowP]
  · rintro σ T ⟨hσ, rfl⟩
    obtain ⟨_, _, _, _, rfl⟩ := slot4 hσ
    clear hσ
    simp
    exact ⟨S, .stL, rfl, rfl, rfl⟩
theorem from_rows_eq (f : Face) (rows : List (List Int)) (S : Sto) (h1 : f.ls.length ≤ 200) : F_from_rows [.py f.py, .py (encR rows)] S = .ok (.py (encP (mlist f.lets rows))) S := by
  unfold F_from_rows b_from_rows
  refine fn_eq (wp_fn ?_)
  have hL : f.lets.length ≤ 200 := by simpa [Face.lets] using h1
  simp [init, letters_of_eq]
  rw [stL_nil]
  refine wp_forM _ (fun pre σ T => wipeD σ [4, 5] = _ ∧ T = stL S ((flatP f.lets pre).map encT)) ⟨rfl, rfl⟩ ?_ ?_
  · rintro pre x post σ T e ⟨hσ, rfl⟩
    obtain ⟨_, _, rfl⟩ := slot2 hσ
    clear hσ
    have hlen := flatP_len e hL
    simp
    refine wp_pureM _ (fun p : Nat × Int => !decide (p.2 = 0)) (fun p => D.py (encT (x.1, p.1, p.2))) (fun y hy => by simp; exact Decidable.em _) ?_
    simp
    have l2 := rowP_len x.1 f.lets x.2
    refine ⟨?_, ?_⟩
    · unfold rowP rowA at l2
      simp at l2
      rw [show sizeLine = 16777216 from rfl]
      omega
    · have e3 : List.map (D.py ∘ encT) (flatP f.lets pre) ++ List.map (fun p => D.py (encT (x.1, p.1, p.2))) (List.filter (fun p => !decide (p.2 = 0)) (f.lets.zip x.2)) = ((flatP f.lets (pre ++ [x])).map encT).map .py := by
        rw [flatP_snoc]
        simp [rowP, rowA]
      rw [e3, stL_set]
  · rintro σ T ⟨hσ, rfl⟩
    obtain ⟨_, _, rfl⟩ := slot2 hσ
    clear hσ
    simp
    exact ⟨S, .stL, rfl, rfl, rfl⟩
end DV

set_option maxHeartbeats 4000000
namespace DV
open PySem
/-! Data that may be shown and compared. -/
structure Fit (d : PyData) (k w : Nat) : Prop where
  sh : d.showable = true
  hd : d.hasDict = false
  dp : d.depth ≤ k
  ls : PyData.leavesShort 13 d = true
  bk : d.bulk ≤ w
  ly : d.canLay0 = true
structure FitL (ds : List PyData) (k w : Nat) : Prop where
  sh : PyData.showableAll ds = true
  hd : PyData.hasDictAll ds = false
  dp : PyData.depthAll ds ≤ k
  ls : PyData.leavesShortAll 13 ds = true
  bk : PyData.bulkAll ds ≤ w
  ly : PyData.canLayAll0 ds = true
theorem Fit.int {i : Int} (h1 : -999999999999 ≤ i) (h2 : i ≤ 999999999999) : Fit (.int i) 0 0 := by
  refine ⟨?_, PyData.hasDict.eq_3 i, by rw [PyData.depth.eq_6]; exact Nat.le_refl _, ?_, by rw [PyData.bulk.eq_7]; exact Nat.le_refl _, PyData.canLay0.eq_3 i⟩
  · rw [PyData.showable.eq_4, decide_eq_true_eq]
    by_cases h : i.natAbs = 0
    · rw [h]
      decide
    · rw [Nat.log2_lt h]
      exact Nat.lt_of_lt_of_le (show i.natAbs < 2 ^ 40 by omega) (Nat.pow_le_pow_right (by decide) (by decide))
  · rw [PyData.leavesShort.eq_3, decide_eq_true_eq]
    exact PyData.shown_int_le2 h1 h2
theorem Fit.bool (b : Bool) : Fit (.bool b) 0 0 :=
  ⟨PyData.showable.eq_2 b, PyData.hasDict.eq_2 b, by rw [PyData.depth.eq_5]; exact Nat.le_refl _, PyData.leavesShort.eq_2 13 b, by rw [PyData.bulk.eq_6]; exact Nat.le_refl _, PyData.canLay0.eq_2 b⟩
theorem Fit.none : Fit .none 0 0 :=
  ⟨PyData.showable.eq_1, PyData.hasDict.eq_1, by rw [PyData.depth.eq_4]; exact Nat.le_refl _, PyData.leavesShort.eq_1 13, by rw [PyData.bulk.eq_5]; exact Nat.le_refl _, PyData.canLay0.eq_1⟩
theorem Fit.str {x : Str} {n : Nat} (h : ∀ c ∈ x.cps.toList, c < 1114112) (hn : x.cps.size ≤ n) : Fit (.str x) 0 n := by
  refine ⟨PyData.showable.eq_3 x, PyData.hasDict.eq_4 x, ?_, ?_, by rw [PyData.bulk.eq_1]; exact hn, ?_⟩
  · rw [PyData.depth.eq_7]
    exact Nat.le_refl _
  · rw [PyData.leavesShort.eq_4, List.all_eq_true]
    intro c hc
    have := h c hc
    exact decide_eq_true (by omega)
  · rw [PyData.canLay0.eq_4]
    unfold PyData.strOk
    rw [← Array.all_toList, List.all_eq_true]
    intro c hc
    exact decide_eq_true (h c hc)
theorem Fit.lt {c : Nat} (h : c < 1114112) : Fit (DV.lt c) 0 1 := Fit.str (by simpa using h) (by simp)
theorem FitL.nil {k w : Nat} : FitL [] k w := ⟨PyData.showableAll.eq_1, PyData.hasDictAll.eq_1, by rw [PyData.depthAll.eq_1]; exact Nat.zero_le _, PyData.leavesShortAll.eq_1 13, by rw [PyData.bulkAll.eq_1]; exact Nat.zero_le _, PyData.canLayAll0.eq_1⟩
theorem FitL.cons {d : PyData} {ds : List PyData} {k w w' : Nat} (h : Fit d k w) (hs : FitL ds k w') : FitL (d :: ds) k (w + 1 + w') := by
  refine ⟨?_, ?_, ?_, ?_, ?_, ?_⟩
  · rw [PyData.showableAll.eq_2, h.sh, hs.sh]
    rfl
  · rw [PyData.hasDictAll.eq_2, h.hd, hs.hd]
    rfl
  · rw [PyData.depthAll.eq_2]
    exact Nat.max_le.mpr ⟨h.dp, hs.dp⟩
  · rw [PyData.leavesShortAll.eq_2, h.ls, hs.ls]
    rfl
  · rw [PyData.bulkAll.eq_2]
    have := h.bk
    have := hs.bk
    omega
  · rw [PyData.canLayAll0.eq_2, h.ly, hs.ly]
    rfl
theorem Fit.mono {d : PyData} {k k' w w' : Nat} (h : Fit d k w) (hk : k ≤ k') (hw : w ≤ w') : Fit d k' w' := ⟨h.sh, h.hd, Nat.le_trans h.dp hk, h.ls, Nat.le_trans h.bk hw, h.ly⟩
theorem FitL.mono {d : List PyData} {k k' w w' : Nat} (h : FitL d k w) (hk : k ≤ k') (hw : w ≤ w') : FitL d k' w' := ⟨h.sh, h.hd, Nat.le_trans h.dp hk, h.ls, Nat.le_trans h.bk hw, h.ly⟩
theorem FitL.all {k w : Nat} : ∀ {ds : List PyData}, (∀ d ∈ ds, Fit d k w) → FitL ds k (ds.length * (w + 1))
  | [], _ => .nil
  | d :: ds, h => by
    have := FitL.cons (h d (List.mem_cons_self ..)) (FitL.all fun e he => h e (List.mem_cons_of_mem _ he))
    refine this.mono (Nat.le_refl _) ?_
    rw [List.length_cons, Nat.add_mul]
    omega
theorem Fit.list {ds : List PyData} {k w : Nat} (h : FitL ds k w) : Fit (.list ds) (k + 1) w := by
  refine ⟨by rw [PyData.showable.eq_5]; exact h.sh, by rw [PyData.hasDict.eq_5]; exact h.hd, by rw [PyData.depth.eq_1]; exact Nat.succ_le_succ h.dp, by rw [PyData.leavesShort.eq_5]; exact h.ls, by rw [PyData.bulk.eq_2]; exact h.bk, by rw [PyData.canLay0.eq_5]; exact h.ly⟩
theorem Fit.tuple {ds : List PyData} {k w : Nat} (h : FitL ds k w) : Fit (.tuple ds) (k + 1) w := by
  refine ⟨by rw [PyData.showable.eq_6]; exact h.sh, by rw [PyData.hasDict.eq_6]; exact h.hd, by rw [PyData.depth.eq_2]; exact Nat.succ_le_succ h.dp, by rw [PyData.leavesShort.eq_6]; exact h.ls, by rw [PyData.bulk.eq_3]; exact h.bk, by rw [PyData.canLay0.eq_6]; exact h.ly⟩
theorem Fit.listN {ds : List PyData} {k w m : Nat} (h : ∀ d ∈ ds, Fit d k w) (hm : ds.length ≤ m) : Fit (.list ds) (k + 1) (m * (w + 1)) := (Fit.list (FitL.all h)).mono (Nat.le_refl _) (Nat.mul_le_mul_right _ hm)
theorem Fit.tupleN {ds : List PyData} {k w m : Nat} (h : ∀ d ∈ ds, Fit d k w) (hm : ds.length ≤ m) : Fit (.tuple ds) (k + 1) (m * (w + 1)) := (Fit.tuple (FitL.all h)).mono (Nat.le_refl _) (Nat.mul_le_mul_right _ hm)
theorem Fit.shaped {d : PyData} {k w : Nat} (h : Fit d k w) (hk : k ≤ 64) : SeqAt.shaped d = true := by
  unfold SeqAt.shaped
  rw [h.ly, Bool.true_and, decide_eq_true_eq]
  exact Nat.le_trans h.dp hk
theorem Fit.repr {d : PyData} {k w : Nat} (h : Fit d k w) (hk : k ≤ 60) (hw : w ≤ 2 ^ 20) (S : Sto) : reprD [.py d] S = .ok (.py (.str d.shown)) S := by
  have e : deep S 8 (.py d) = some d := rfl
  unfold reprD
  simp only [e]
  rw [if_pos ⟨h.sh, h.hd, Nat.le_trans h.dp hk, PyData.shown_fits_bulk (by decide) (by decide) h.ls (Nat.le_trans h.bk hw)⟩]
/-- letters, pairs, rows -/
theorem fit_encT {p : Pair} (h1 : p.1 < 1114112) (h2 : p.2.1 < 1114112) (h3 : -999999999999 ≤ p.2.2) (h4 : p.2.2 ≤ 999999999999) : Fit (encT p) 1 5 :=
  (Fit.tuple (.cons (Fit.lt h1) (.cons (Fit.lt h2) (.cons (Fit.int h3 h4) (FitL.nil (w := 0)))))).mono (by decide) (by decide)
end DV

set_option maxHeartbeats 4000000
namespace DV
open PySem
/-! All pairs, gaps told by their list. -/
theorem zip_at {α β : Type} {xs : List α} {ys : List β} {i : Nat} {x : α} {y : β} (h1 : xs[i]? = some x) (h2 : ys[i]? = some y) : (xs.zip ys)[i]? = some (x, y) := by
  rw [List.getElem?_zip_eq_some]
  exact ⟨h1, h2⟩
theorem mem_zip_at {α β : Type} {xs : List α} {ys : List β} {p : α × β} (h : p ∈ xs.zip ys) : ∃ i : Nat, xs[i]? = some p.1 ∧ ys[i]? = some p.2 := by
  obtain ⟨i, hi⟩ := List.getElem?_of_mem h
  exact ⟨i, List.getElem?_zip_eq_some.mp hi⟩
theorem gapIn_of {ps : List Pair} {l r : Nat} {g : Int} (h : ∀ p ∈ ps, p.1 = l → p.2.1 = r → p.2.2 = g) (h0 : g ≠ 0 → ∃ p ∈ ps, p.1 = l ∧ p.2.1 = r) : gapIn ps l r = g := by
  unfold gapIn
  cases e : ps.find? (fun p => decide (p.1 = l ∧ p.2.1 = r)) with
  | some p =>
    have h1 := List.find?_some e
    have h2 := List.mem_of_find?_eq_some e
    simp at h1
    exact h p h2 h1.1 h1.2
  | none =>
    rw [List.find?_eq_none] at e
    by_cases hg : g = 0
    · exact hg.symm
    · obtain ⟨p, hp, h1, h2⟩ := h0 hg
      exact (e p hp (by simp [h1, h2])).elim
theorem mem_mlist {L : List Nat} {rows : List (List Int)} {p : Pair} (h : p ∈ mlist L rows) : ∃ (i j : Nat) (row : List Int), L[i]? = some p.1 ∧ rows[i]? = some row ∧ L[j]? = some p.2.1 ∧ row[j]? = some p.2.2 ∧ p.2.2 ≠ 0 := by
  unfold mlist rowP rowA at h
  rw [List.mem_flatMap] at h
  obtain ⟨x, hx, hp⟩ := h
  rw [List.mem_map] at hp
  obtain ⟨y, hy, rfl⟩ := hp
  rw [List.mem_filter] at hy
  obtain ⟨i, h1, h2⟩ := mem_zip_at hx
  obtain ⟨j, h3, h4⟩ := mem_zip_at hy.1
  exact ⟨i, j, x.2, h1, h2, h3, h4, by simpa using hy.2⟩
theorem mlist_has {L : List Nat} {rows : List (List Int)} {i j l r : Nat} {row : List Int} {g : Int} (h1 : L[i]? = some l) (h2 : rows[i]? = some row) (h3 : L[j]? = some r) (h4 : row[j]? = some g) (hg : g ≠ 0) : (l, r, g) ∈ mlist L rows := by
  unfold mlist rowP rowA
  rw [List.mem_flatMap]
  refine ⟨(l, row), List.mem_of_getElem? (zip_at h1 h2), ?_⟩
  rw [List.mem_map]
  refine ⟨(r, g), ?_, rfl⟩
  rw [List.mem_filter]
  exact ⟨List.mem_of_getElem? (zip_at h3 h4), by simpa using hg⟩
theorem gap_mlist {L : List Nat} {rows : List (List Int)} {i j l r : Nat} {row : List Int} {g : Int} (hn : L.Nodup) (h1 : L[i]? = some l) (h2 : rows[i]? = some row) (h3 : L[j]? = some r) (h4 : row[j]? = some g) : gapIn (mlist L rows) l r = g := by
  refine gapIn_of (fun p hp e1 e2 => ?_) fun hg => ⟨(l, r, g), mlist_has h1 h2 h3 h4 hg, rfl, rfl⟩
  obtain ⟨i', j', row', k1, k2, k3, k4, _⟩ := mem_mlist hp
  rw [e1] at k1
  rw [e2] at k3
  have := nodup_get hn h1 k1
  subst this
  have := nodup_get hn h3 k3
  subst this
  rw [h2] at k2
  cases k2
  rw [h4] at k4
  exact (Option.some.inj k4).symm
/-! the data of lists -/
theorem Face.Good.mem {f : Face} {lo hi : Int} (h : f.Good lo hi) {c : Nat} (hc : c ∈ f.lets) : 97 ≤ c ∧ c ≤ 122 := by
  obtain ⟨p, hp, rfl⟩ := List.mem_map.mp hc
  exact ⟨(h.ok p hp).1, (h.ok p hp).2.1⟩
/-! ### all pairs -/
abbrev encLL (p : Nat × Nat) : PyData := .tuple [lt p.1, lt p.2]
def allP (L M : List Nat) : List (Nat × Nat) := L.flatMap fun l => M.map fun r => (l, r)
theorem all_pairs_eq (f : Face) (S : Sto) (h1 : f.ls.length ≤ 200) : F_all_pairs [.py f.py] S = .ok (.py (.list ((allP f.lets f.lets).map encLL))) S := by
  unfold F_all_pairs b_all_pairs
  refine fn_eq (wp_fn ?_)
  have hL : f.lets.length ≤ 200 := by simpa [Face.lets] using h1
  simp [init, letters_of_eq]
  rw [stL_nil]
  refine wp_forM (D.py ∘ lt) (fun pre σ T => wipeD σ [2] = _ ∧ T = stL S ((allP pre f.lets).map encLL)) ⟨rfl, rfl⟩ ?_ ?_
  · rintro pre x post σ T e ⟨hσ, rfl⟩
    obtain ⟨_, rfl⟩ := slot_any hσ
    clear hσ
    simp [letters_of_eq]
    refine wp_pureM1 (D.py ∘ lt) (fun r => D.py (encLL (x, r))) (fun y _ => wp_eq (by simp)) ?_
    have hlen := flat_len (fun l => f.lets.map fun r => (l, r)) 200 pre fun _ _ => by simpa using hL
    have hp : pre.length ≤ 200 := by
      have := congrArg List.length e
      rw [List.length_append, List.length_cons] at this
      omega
    simp
    refine ⟨?_, ?_⟩
    · rw [show sizeLine = 16777216 from rfl]
      unfold allP
      omega
    · have e3 : List.map (D.py ∘ encLL) (allP pre f.lets) ++ List.map (fun r => D.py (encLL (x, r))) f.lets = ((allP (pre ++ [x]) f.lets).map encLL).map .py := by
        simp [allP]
      rw [e3, stL_set]
  · rintro σ T ⟨hσ, rfl⟩
    obtain ⟨_, rfl⟩ := slot_any hσ
    clear hσ
    simp
    refine stL_fix rfl ?_
    simp
    exact ⟨.app, rfl⟩
def mchanged (L : List Nat) (P Q : List Pair) : List (Nat × Nat) := (allP L L).filter fun p => gapIn P p.1 p.2 ≠ gapIn Q p.1 p.2
theorem changed_eq (f : Face) (P Q : List Pair) (S : Sto) (h1 : f.ls.length ≤ 200) : F_changed [.py f.py, .py (encP P), .py (encP Q)] S = .ok (.py (.tuple ((mchanged f.lets P Q).map encLL))) S := by
  unfold F_changed b_changed
  refine fn_eq (wp_fn ?_)
  have hL : f.lets.length ≤ 200 := by simpa [Face.lets] using h1
  simp [init, all_pairs_eq _ _ h1]
  rw [stL_nil]
  refine wp_forM (D.py ∘ encLL) (fun pre σ T => wipeD σ [4, 5] = _ ∧ T = stL S ((pre.filter fun p => gapIn P p.1 p.2 ≠ gapIn Q p.1 p.2).map encLL)) ⟨rfl, rfl⟩ ?_ ?_
  · rintro pre x post σ T e ⟨hσ, rfl⟩
    obtain ⟨_, _, rfl⟩ := slot2 hσ
    clear hσ
    have hlen := flat_len (fun l => f.lets.map fun r => (l, r)) 200 f.lets fun _ _ => by simpa using hL
    have hp : pre.length ≤ 40000 := by
      have := congrArg List.length e
      unfold allP at this
      rw [List.length_append, List.length_cons] at this
      omega
    have hq := List.length_filter_le (fun p : Nat × Nat => decide (gapIn P p.1 p.2 ≠ gapIn Q p.1 p.2)) pre
    by_cases hx : gapIn P x.1 x.2 = gapIn Q x.1 x.2
    · simp [gap_in_eq, hx]
    · have ap := stL_app (S := S) (ds := (pre.filter fun p => gapIn P p.1 p.2 ≠ gapIn Q p.1 p.2).map encLL) (d := encLL x) (by rw [List.length_map, show sizeLine = 16777216 from rfl]; omega)
      simp [gap_in_eq, hx]
      simp at ap
      refine wp_of ap ?_
      simp
  · rintro σ T ⟨hσ, rfl⟩
    obtain ⟨_, _, rfl⟩ := slot2 hσ
    clear hσ
    simp
    exact ⟨S, .stL, rfl, by simp [mchanged], rfl⟩
/-! ### what has changed, row by row -/
theorem map_fst_zip {α β : Type} : ∀ {xs : List α} {ys : List β}, xs.length ≤ ys.length → (xs.zip ys).map Prod.fst = xs
  | [], _, _ => by simp
  | _ :: _, [], h => by simp at h
  | x :: xs, y :: ys, h => by
    have := map_fst_zip (xs := xs) (ys := ys) (by simpa using h)
    simp [this]
/-- rows turned about -/
def turnR (n : Nat) (R : List (List Int)) : List (List Int) := (List.range n).map fun j => R.map fun row => row.getD j 0
theorem Rows.turn {R : List (List Int)} {n : Nat} (h : Rows R n) : Rows (turnR n R) n := by
  refine ⟨by simp [turnR], fun r hr => ?_, fun r hr x hx => ?_⟩
  · obtain ⟨j, _, rfl⟩ := List.mem_map.mp hr
    simpa using h.len
  · obtain ⟨j, hj, rfl⟩ := List.mem_map.mp hr
    obtain ⟨row, hrow, rfl⟩ := List.mem_map.mp hx
    have hl := h.row _ hrow
    rw [List.mem_range] at hj
    have : j < row.length := by omega
    simp [this]
    exact h.bnd _ hrow _ (List.getElem_mem this)
end DV

set_option maxHeartbeats 4000000
namespace DV
open PySem
/-! The law's own loop over its script. -/
def Keep0 (sc : D) (n : Nat) (σ : En) : Prop := ∃ ys : En, σ = some sc :: ys ∧ ys.length = n
theorem Keep0.mk {sc : D} {n : Nat} {ys : En} (h : ys.length = n) : Keep0 sc n (some sc :: ys) := ⟨ys, rfl, h⟩
theorem explode {α : Type} {n : Nat} {r : List α} (h : r.length = n + 1) : ∃ y r', r = y :: r' ∧ r'.length = n := by
  cases r with
  | nil => cases h
  | cons y r' => exact ⟨y, r', rfl, by simpa using h⟩
theorem nil_of {α : Type} {r : List α} (h : r.length = 0) : r = [] := List.eq_nil_of_length_eq_zero h
theorem law_all {n : Nat} {c : Int} {b : Sx} {ns : List Int} (hc : 1 ≤ c) (hc2 : c ≤ 60)
    (hb : ∀ (k : Nat) (ys : En) (S : Sto) (m : Nat), BoxAt S m → ys.length = n → k < 64 → (b (some (.py (.list (ns.map .int))) :: some (.py (.int k)) :: some (.obj m) :: ys) S).wp { nx := fun σ _ => Keep0 (.py (.list (ns.map .int))) (n + 2) σ, ct := fun σ _ => Keep0 (.py (.list (ns.map .int))) (n + 2) σ }) :
    ∃ S', fnF (n + 3) (seqS (forS (rng1I (callE max2D (consA (cE (.int 1)) (consA (callE min2D (consA (callE lenD (consA (varE 0) nilA)) (consA (cE (.int c)) nilA))) nilA)))) (nmG 1)
      (seqS (asgS (callE F_law_box (consA (varE 0) (consA (varE 1) nilA))) (nmG 2)) b)) (retS (cE (.bool true)))) [.py (.list (ns.map .int))] [] = .ok (.py (.bool true)) S' := by
  have key : (fnF (n + 3) (seqS (forS (rng1I (callE max2D (consA (cE (.int 1)) (consA (callE min2D (consA (callE lenD (consA (varE 0) nilA)) (consA (cE (.int c)) nilA))) nilA)))) (nmG 1)
      (seqS (asgS (callE F_law_box (consA (varE 0) (consA (varE 1) nilA))) (nmG 2)) b)) (retS (cE (.bool true)))) [.py (.list (ns.map .int))] []).wp (fun d _ => d = .py (.bool true)) noE := by
    refine wp_fn ?_
    have hi : init (n + 3) [.py (.list (ns.map .int))] = some (.py (.list (ns.map .int))) :: List.replicate (n + 2) none := rfl
    rw [hi]
    simp
    refine ⟨by split <;> split <;> omega, ?_⟩
    refine wp_forL (fun pre σ _ => Keep0 (.py (.list (ns.map .int))) (n + 2) σ) (.mk (by simp)) ?_ ?_
    · rintro pre x post σ S e ⟨ys, rfl, hy⟩
      obtain ⟨y1, r1, rfl, h1⟩ := explode hy
      obtain ⟨y2, r2, rfl, h2⟩ := explode h1
      have hx : ∃ k : Nat, x = .py (.int k) ∧ k < 64 := by
        have hm : x ∈ rngV 0 (if (if c < (ns.length : Int) then c else (ns.length : Int)) > 1 then (if c < (ns.length : Int) then c else (ns.length : Int)) else 1).toNat := by
          have e' := e
          simp at e' ⊢
          rw [e']
          simp
        unfold rngV at hm
        rw [List.mem_map] at hm
        obtain ⟨k, hk, rfl⟩ := hm
        rw [List.mem_range] at hk
        refine ⟨k, by simp, ?_⟩
        split at hk <;> split at hk <;> omega
      obtain ⟨k, rfl, hk⟩ := hx
      simp
      refine (box_ok (ns := ns) (k := k) (by omega)).to ?_
      rintro d S1 ⟨rfl, a, b', rfl⟩
      have hbx : BoxAt (S ++ [.lst [.py (.int a), .py (.int b')]]) S.length := ⟨a, b', last_get⟩
      exact (hb k r2 _ _ hbx h2 hk).mono (fun _ _ h => h) (fun _ _ h => h.elim) (fun _ _ h => h.elim) (fun _ _ h => h) fun _ _ h => h.elim
    · rintro σ S _
      exact ⟨⟨_, Nat.zero_le _, rfl, fun i o hi => absurd hi (by simp)⟩, rfl⟩
  obtain ⟨a, T, e, rfl⟩ := key.out
  exact ⟨T, e⟩
end DV

set_option maxHeartbeats 4000000
namespace DV
open PySem
/-! Rows of gaps; letters by marks. -/
theorem rows_of_eq (f : Face) (P : List Pair) (S : Sto) : F_rows_of [.py f.py, .py (encP P)] S = .ok (.py (.tuple (f.lets.map fun l => .tuple (f.lets.map fun r => .int (gapIn P l r))))) S := by
  unfold F_rows_of b_rows_of
  refine fn_eq (wp_fn ?_)
  simp [init, letters_of_eq]
  refine wp_pureM1 (D.py ∘ lt) (fun l => D.py (.tuple (f.lets.map fun r => .int (gapIn P l r)))) (fun l _ => wp_eq ?_) ?_
  · simp
    refine wp_pureM1 (D.py ∘ lt) (fun r => D.py (.int (gapIn P l r))) (fun r _ => wp_eq (by simp [gap_in_eq])) ?_
    simp
  · simp
    exact ⟨.self, rfl⟩
theorem columns_of_eq (f : Face) (P : List Pair) (S : Sto) : F_columns_of [.py f.py, .py (encP P)] S = .ok (.py (.list (f.lets.map fun r => .tuple (f.lets.map fun l => .int (gapIn P l r))))) S := by
  unfold F_columns_of b_columns_of
  refine fn_eq (wp_fn ?_)
  simp [init, letters_of_eq]
  refine wp_pureM1 (D.py ∘ lt) (fun r => D.py (.tuple (f.lets.map fun l => .int (gapIn P l r)))) (fun l _ => wp_eq ?_) ?_
  · simp
    refine wp_pureM1 (D.py ∘ lt) (fun r => D.py (.int (gapIn P r l))) (fun r _ => wp_eq (by simp [gap_in_eq])) ?_
    simp
  · simp
    exact ⟨.self, rfl⟩
/-! ### == of lists of whole numbers -/
theorem eqvAll_ints : ∀ (a b : List Int), PyData.eqvAll (a.map PyData.int) (b.map PyData.int) = decide (a = b)
  | [], [] => rfl
  | [], _ :: _ => rfl
  | _ :: _, [] => rfl
  | x :: a, y :: b => by
    show PyData.eqvAll (.int x :: a.map PyData.int) (.int y :: b.map PyData.int) = _
    rw [PyData.eqvAll.eq_2, PyData.eqv.eq_5, eqvAll_ints a b]
    by_cases h : x = y <;> by_cases h2 : a = b <;> simp [h, h2]
abbrev tupI (r : List Int) : PyData := .tuple (r.map .int)
theorem eqv_tupI (a b : List Int) : PyData.eqv (tupI a) (tupI b) = decide (a = b) := by rw [PyData.eqv.eq_8, eqvAll_ints]
theorem fit_ints {r : List Int} (h : ∀ x ∈ r, -999999999 ≤ x ∧ x ≤ 999999999) (hl : r.length ≤ 2000) : ∀ d ∈ r.map PyData.int, Fit d 0 0 := fun d hd => by
  obtain ⟨x, hx, rfl⟩ := List.mem_map.mp hd
  have := h x hx
  exact Fit.int (by omega) (by omega)
theorem fit_tupI {r : List Int} (h : ∀ x ∈ r, -999999999 ≤ x ∧ x ≤ 999999999) (hl : r.length ≤ 2000) : Fit (tupI r) 1 2000 := (Fit.tupleN (fit_ints h hl) (m := 2000) (by simpa using hl)).mono (by decide) (by decide)
/-- marks that may be compared -/
structure Mk (M : List (List Int)) : Prop where
  len : M.length ≤ 200
  row : ∀ r ∈ M, r.length ≤ 2000
  bnd : ∀ r ∈ M, ∀ x ∈ r, -999999999 ≤ x ∧ x ≤ 999999999
/-- how marks are held -/
structure Enc (e : List Int → PyData) : Prop where
  eqv : ∀ a b, PyData.eqv (e a) (e b) = decide (a = b)
  fit : ∀ r : List Int, (∀ x ∈ r, -999999999 ≤ x ∧ x ≤ 999999999) → r.length ≤ 2000 → Fit (e r) 1 2000
  flat : ∀ a b, flatD (e a) (e b) = none
theorem enc_tup : Enc tupI := ⟨eqv_tupI, fun _ => fit_tupI, fun _ _ => rfl⟩
theorem Enc.eq {e : List Int → PyData} (h : Enc e) {a b : List Int} (ha : (∀ x ∈ a, -999999999 ≤ x ∧ x ≤ 999999999) ∧ a.length ≤ 2000) (hb : (∀ x ∈ b, -999999999 ≤ x ∧ x ≤ 999999999) ∧ b.length ≤ 2000) (S : Sto) : eqD (.py (e a)) (.py (e b)) S = .ok (.py (.bool (decide (a = b)))) S := by
  have hf := h.flat a b
  simp only [eqD, eqB, hf]
  rw [if_pos ⟨(h.fit a ha.1 ha.2).shaped (by decide), (h.fit b hb.1 hb.2).shaped (by decide)⟩, h.eqv]
theorem Enc.fitL {e : List Int → PyData} (h : Enc e) {M : List (List Int)} (hM : Mk M) : Fit (.list (M.map e)) 2 402000 :=
  (Fit.listN (k := 1) (w := 2000) (m := 200) (fun d hd => by
    obtain ⟨r, hr, rfl⟩ := List.mem_map.mp hd
    exact h.fit r (hM.bnd r hr) (hM.row r hr)) (by rw [List.length_map]; exact hM.len)).mono (by decide) (by decide)
/-! ### each mark once -/
def firsts (M : List (List Int)) : List (List Int) := M.foldl (fun acc m => if m ∈ acc then acc else acc ++ [m]) []
theorem firsts_snoc (M : List (List Int)) (m : List Int) : firsts (M ++ [m]) = if m ∈ firsts M then firsts M else firsts M ++ [m] := by
  unfold firsts
  rw [List.foldl_append]
  rfl
theorem mem_fold {m : List Int} : ∀ {M acc : List (List Int)}, m ∈ M.foldl (fun acc m => if m ∈ acc then acc else acc ++ [m]) acc ↔ m ∈ acc ∨ m ∈ M
  | [], acc => by simp
  | x :: M, acc => by
    rw [List.foldl_cons, mem_fold]
    split
    · rename_i h
      rw [List.mem_cons]
      exact ⟨fun z => z.elim .inl fun q => .inr (.inr q), fun z => z.elim .inl fun q => q.elim (fun e => .inl (e ▸ h)) .inr⟩
    · rw [List.mem_append, List.mem_singleton, List.mem_cons, or_assoc]
theorem mem_firsts {m : List Int} {M : List (List Int)} : m ∈ firsts M ↔ m ∈ M := by
  unfold firsts
  rw [mem_fold]
  simp
def groups (L : List Nat) (M : List (List Int)) : List (List Nat) := (firsts M).map fun m => ((L.zip M).filter fun p => p.2 = m).map (·.1)
abbrev encG (G : List (List Nat)) : PyData := .tuple (G.map fun g => .tuple (g.map lt))
theorem firsts_len : ∀ M : List (List Int), (firsts M).length ≤ M.length := by
  have key : ∀ (M acc : List (List Int)), (M.foldl (fun acc m => if m ∈ acc then acc else acc ++ [m]) acc).length ≤ acc.length + M.length := by
    intro M
    induction M with
    | nil => simp
    | cons x M ih =>
      intro acc
      rw [List.foldl_cons]
      refine Nat.le_trans (ih _) ?_
      split
      · rw [List.length_cons]
        omega
      · rw [List.length_append, List.length_cons, List.length_cons, List.length_nil]
        omega
  intro M
  have := key M []
  simpa [firsts] using this
theorem Mk.sub {M N : List (List Int)} (h : Mk M) (hl : N.length ≤ M.length) (hs : ∀ r ∈ N, r ∈ M) : Mk N := ⟨Nat.le_trans hl h.len, fun r hr => h.row r (hs r hr), fun r hr => h.bnd r (hs r hr)⟩
theorem Mk.firsts {M : List (List Int)} (h : Mk M) : Mk (firsts M) := h.sub (firsts_len M) fun _ hr => mem_firsts.mp hr
theorem Mk.pre {pre post : List (List Int)} (h : Mk (pre ++ post)) : Mk pre := h.sub (by simp) fun _ hr => List.mem_append_left _ hr
theorem mapM_deep (S : Sto) : ∀ ds : List PyData, (ds.map D.py).mapM (deep S 7) = some ds
  | [] => rfl
  | d :: ds => by
    rw [List.map_cons, List.mapM_cons, mapM_deep S ds]
    rfl
theorem deep_stL (S : Sto) (ds : List PyData) : deep (stL S ds) 8 (.obj S.length) = some (.list ds) := by
  simp only [deep, stL_get, mapM_deep]
  rfl
theorem any_eqv {e : List Int → PyData} (he : Enc e) (x : List Int) : ∀ K : List (List Int), ((K.map e).any fun z => PyData.eqv z (e x)) = decide (x ∈ K)
  | [] => rfl
  | k :: K => by
    rw [List.map_cons, List.any_cons, any_eqv he x K, he.eqv]
    by_cases h : k = x
    · simp [h]
    · simp [h, Ne.symm h]
theorem Enc.notin {e : List Int → PyData} (he : Enc e) {x : List Int} {K : List (List Int)} (hx : (∀ y ∈ x, -999999999 ≤ y ∧ y ≤ 999999999) ∧ x.length ≤ 2000) (hK : Mk K) (S : Sto) :
    notInD (.py (e x)) (.obj S.length) (stL S (K.map e)) = .ok (.py (.bool (!decide (x ∈ K)))) (stL S (K.map e)) := by
  have h1 : deep (stL S (K.map e)) 8 (.py (e x)) = some (e x) := rfl
  simp only [notInD, inS, deep_stL, h1, inB]
  rw [if_pos ⟨(he.fit x hx.1 hx.2).shaped (by decide), (he.fitL hK).shaped (by decide)⟩, any_eqv he]
/-- the marks as they are walked -/
structure Mks (d : PyData) (e : List Int → PyData) (M : List (List Int)) : Prop where
  seq : seqD (.py d) = some (M.map e)
  walk : ∀ S, pyWalk S (.py d) = some (M.map e)
theorem grouped_eq {L : PyData} {Ls : List Nat} {d : PyData} {e : List Int → PyData} {M : List (List Int)} (hL : ∀ S, pyWalk S (.py L) = some (Ls.map lt)) (hd : Mks d e M) (he : Enc e) (hM : Mk M) (S : Sto) : F_grouped [.py L, .py d] S = .ok (.py (encG (groups Ls M))) S := by
  unfold F_grouped b_grouped
  refine fn_eq (wp_fn ?_)
  simp [init, hd.seq]
  rw [stL_nil]
  have hb : ∀ {r : List Int}, r ∈ M → (∀ x ∈ r, -999999999 ≤ x ∧ x ≤ 999999999) ∧ r.length ≤ 2000 := fun hr => ⟨hM.bnd _ hr, hM.row _ hr⟩
  refine wp_forM (D.py ∘ e) (fun pre σ T => wipeD σ [3] = _ ∧ T = stL S ((firsts pre).map e)) ⟨rfl, rfl⟩ ?_ ?_
  · rintro pre x post σ T eM ⟨hσ, rfl⟩
    obtain ⟨_, rfl⟩ := slot_any hσ
    clear hσ
    have hx : x ∈ M := by rw [eM]; simp
    have hpre : Mk pre := Mk.pre (eM ▸ hM)
    have hni := he.notin (hb hx) hpre.firsts S
    have hlen := hpre.firsts.len
    by_cases hm : x ∈ firsts pre
    · simp [hni, hm, firsts_snoc]
    · have ap := stL_app (S := S) (ds := (firsts pre).map e) (d := e x) (by rw [List.length_map, show sizeLine = 16777216 from rfl]; omega)
      simp [hni, hm, firsts_snoc, ap]
  · rintro σ T ⟨hσ, rfl⟩
    obtain ⟨_, rfl⟩ := slot_any hσ
    clear hσ
    simp
    refine stL_fix rfl ?_
    simp
    refine wp_pureM1 (D.py ∘ e) (fun m => D.py (.tuple ((((Ls.zip M).filter fun p => p.2 = m).map (·.1)).map lt))) (fun m hm => wp_eq ?_) ?_
    · have hm' := hb (mem_firsts.mp hm)
      simp [hL, hd.walk]
      refine wp_pureM _ (fun p : Nat × List Int => decide (p.2 = m)) (fun p => D.py (lt p.1)) (fun p hp => ?_) ?_
      · obtain ⟨i, _, h2⟩ := mem_zip_at hp
        have q := he.eq (hb (List.mem_of_getElem? h2)) hm'
        by_cases hpm : p.2 = m
        · rw [hpm] at q
          simp [q, hpm]
        · simp [q, hpm]
      · simp [Function.comp_def]
    · simp [Function.comp_def, groups]
      exact ⟨.app, rfl⟩
theorem left_parting_eq (f : Face) (P : List Pair) (S : Sto) (hM : Mk (f.lets.map fun l => f.lets.map fun r => gapIn P l r)) : F_left_parting [.py f.py, .py (encP P)] S = .ok (.py (encG (groups f.lets (f.lets.map fun l => f.lets.map fun r => gapIn P l r)))) S := by
  unfold F_left_parting b_left_parting
  refine fn_eq (wp_fn ?_)
  simp [init, letters_of_eq, rows_of_eq]
  refine wp_of (grouped_eq (fun _ => rfl) (e := tupI) (M := f.lets.map fun l => f.lets.map fun r => gapIn P l r) ⟨by simp, by simp⟩ enc_tup hM S) ?_
  exact ⟨S, .self, rfl, rfl, rfl⟩
theorem right_parting_eq (f : Face) (P : List Pair) (S : Sto) (hM : Mk (f.lets.map fun r => f.lets.map fun l => gapIn P l r)) : F_right_parting [.py f.py, .py (encP P)] S = .ok (.py (encG (groups f.lets (f.lets.map fun r => f.lets.map fun l => gapIn P l r)))) S := by
  unfold F_right_parting b_right_parting
  refine fn_eq (wp_fn ?_)
  simp [init, letters_of_eq, columns_of_eq]
  refine wp_of (grouped_eq (fun _ => rfl) (e := tupI) (M := f.lets.map fun r => f.lets.map fun l => gapIn P l r) ⟨by simp, by simp⟩ enc_tup hM S) ?_
  exact ⟨S, .self, rfl, rfl, rfl⟩
end DV

set_option maxHeartbeats 4000000
namespace DV
open PySem
/-! The law's own gaps, marks and groups. -/
theorem eqv_lt (a b : Nat) : PyData.eqv (lt a) (lt b) = decide (a = b) := by
  rw [PyData.eqv.eq_6]
  by_cases h : a = b
  · subst h
    simp
  · simp [h]
def LP (P : List Pair) : Prop := P.length ≤ 40000 ∧ ∀ p ∈ P, p.1 ≤ 122 ∧ p.2.1 ≤ 122
def leftM (f : Face) (P : List Pair) : List (List Int) := f.lets.map fun l => f.lets.map fun r => gapIn P l r
def rightM (f : Face) (P : List Pair) : List (List Int) := f.lets.map fun r => f.lets.map fun l => gapIn P l r
/-! ### the first place of a mark -/
theorem place_enc {e : List Int → PyData} (he : Enc e) (M : List (List Int)) (x : List Int) : placeOf (M.map e) (e x) = M.findIdx? fun m => decide (m = x) := by
  unfold placeOf
  rw [List.findIdx?_map]
  congr 1
  funext m
  exact he.eqv m x
theorem Enc.index {e : List Int → PyData} (he : Enc e) {M : List (List Int)} {x : List Int} {j : Nat} (hM : Mk M) (hx : (∀ y ∈ x, -999999999 ≤ y ∧ y ≤ 999999999) ∧ x.length ≤ 2000) (hj : M.findIdx? (fun m => decide (m = x)) = some j) (S : Sto) :
    indexD (.py (.list (M.map e))) [.py (e x)] S = .ok (.py (.int (j : Nat))) S := by
  have h1 : deep S 8 (.py (.list (M.map e))) = some (.list (M.map e)) := rfl
  have h2 : deep S 8 (.py (e x)) = some (e x) := rfl
  simp only [indexD, h1, h2, place_enc he, hj]
  rw [if_pos ⟨(he.fitL hM).shaped (by decide), (he.fit x hx.1 hx.2).shaped (by decide)⟩]
theorem zipIdx_split {α : Type} {M : List α} {pre post : List (α × Nat)} {x : α × Nat} (h : M.zipIdx = pre ++ x :: post) : M = pre.map (·.1) ++ x.1 :: post.map (·.1) ∧ x.2 = pre.length := by
  have h1 := congrArg (List.map (·.1)) h
  rw [List.zipIdx_map_fst] at h1
  refine ⟨by simpa using h1, ?_⟩
  have h2 : (M.zipIdx)[pre.length]? = some x := by rw [h]; simp
  rw [List.getElem?_zipIdx] at h2
  cases hm : M[pre.length]? with
  | none => rw [hm] at h2; cases h2
  | some m =>
    rw [hm] at h2
    have := Option.some.inj h2
    rw [← this]
    simp
end DV

set_option maxHeartbeats 4000000
namespace DV
open PySem
/-! Lists of gaps that are small enough. -/
structure PG (P : List Pair) : Prop where
  len : P.length ≤ 40000
  lts : ∀ p ∈ P, p.1 ≤ 122 ∧ p.2.1 ≤ 122
  gap : ∀ p ∈ P, -999999999 ≤ p.2.2 ∧ p.2.2 ≤ 999999999
theorem PG.nil : PG [] := ⟨by simp, by simp, by simp⟩
theorem PG.lp {P : List Pair} (h : PG P) : LP P := ⟨h.len, h.lts⟩
theorem mlist_len (L : List Nat) (R : List (List Int)) (hl : L.length ≤ 200) : (mlist L R).length ≤ 40000 := by
  have h := flat_len (fun p : Nat × List Int => rowP p.1 L p.2) L.length (L.zip R) fun p _ => rowP_len _ _ _
  have h2 : (L.zip R).length ≤ L.length := by rw [List.length_zip]; exact Nat.min_le_left _ _
  have h3 : (L.zip R).length * L.length ≤ 200 * 200 := Nat.mul_le_mul (Nat.le_trans h2 hl) hl
  unfold mlist
  omega
theorem PG.mlist {L : List Nat} {R : List (List Int)} (hL : ∀ c ∈ L, c ≤ 122) (hr : ∀ r ∈ R, ∀ x ∈ r, -999999999 ≤ x ∧ x ≤ 999999999) (hl : L.length ≤ 200) : PG (mlist L R) := by
  refine ⟨mlist_len L R hl, fun p hp => ?_, fun p hp => ?_⟩
  · obtain ⟨i, j, row, k1, k2, k3, k4, _⟩ := mem_mlist hp
    exact ⟨hL _ (List.mem_of_getElem? k1), hL _ (List.mem_of_getElem? k3)⟩
  · obtain ⟨i, j, row, k1, k2, k3, k4, _⟩ := mem_mlist hp
    exact hr _ (List.mem_of_getElem? k2) _ (List.mem_of_getElem? k4)
theorem Rows.bnd9 {R : List (List Int)} {n : Nat} (h : Rows R n) : ∀ r ∈ R, ∀ x ∈ r, -999999999 ≤ x ∧ x ≤ 999999999 := fun r hr x hx => by
  have := h.bnd r hr x hx
  omega
theorem PG.fit {P : List Pair} (h : PG P) : Fit (encP P) 2 240000 := by
  refine (Fit.tupleN (k := 1) (w := 5) (m := 40000) (fun d hd => ?_) (by simpa using h.len)).mono (by decide) (by decide)
  obtain ⟨p, hp, rfl⟩ := List.mem_map.mp hd
  have a := h.lts p hp
  have b := h.gap p hp
  exact fit_encT (by omega) (by omega) (by omega) (by omega)
theorem PG.bnd {P : List Pair} (h : PG P) (l r : Nat) : -999999999 ≤ gapIn P l r ∧ gapIn P l r ≤ 999999999 := by
  unfold gapIn
  split
  · rename_i p hp
    exact h.gap p (List.mem_of_find?_eq_some hp)
  · omega
theorem PG.left {P : List Pair} (h : PG P) {f : Face} (hf : f.ls.length ≤ 200) : Mk (leftM f P) := by
  refine ⟨by simpa [leftM] using hf, fun r hr => ?_, fun r hr x hx => ?_⟩
  · obtain ⟨l, _, rfl⟩ := List.mem_map.mp hr
    simp
    omega
  · obtain ⟨l, _, rfl⟩ := List.mem_map.mp hr
    obtain ⟨q, _, rfl⟩ := List.mem_map.mp hx
    exact h.bnd _ _
theorem PG.right {P : List Pair} (h : PG P) {f : Face} (hf : f.ls.length ≤ 200) : Mk (rightM f P) := by
  refine ⟨by simpa [rightM] using hf, fun r hr => ?_, fun r hr x hx => ?_⟩
  · obtain ⟨l, _, rfl⟩ := List.mem_map.mp hr
    simp
    omega
  · obtain ⟨l, _, rfl⟩ := List.mem_map.mp hr
    obtain ⟨q, _, rfl⟩ := List.mem_map.mp hx
    exact h.bnd _ _
theorem face_fit {f : Face} {lo hi : Int} (h : f.Good lo hi) (hl : f.ls.length ≤ 200) : Fit f.py 3 2000 := by
  have h1 : Fit (.tuple (f.ls.map encL)) 2 1600 := by
    refine (Fit.tupleN (k := 1) (w := 3) (m := 200) (fun d hd => ?_) (by simpa using hl)).mono (by decide) (by decide)
    obtain ⟨p, hp, rfl⟩ := List.mem_map.mp hd
    have a := h.ok p hp
    exact (Fit.tuple (.cons (Fit.lt (by omega)) (.cons (Fit.int (by omega) (by omega)) (FitL.nil (w := 0))))).mono (by decide) (by decide)
  have w0 := h.w0
  have w1 := h.w1
  exact (Fit.tuple (.cons ((Fit.int (i := f.w) (by omega) (by omega)).mono (k' := 2) (by decide) (Nat.le_refl _)) (.cons h1 (FitL.nil (w := 0))))).mono (by decide) (by decide)
theorem law_pairs_ok {S : Sto} {n : Nat} {f : Face} (h : BoxAt S n) (h0 : 0 < f.ls.length) (h1 : f.ls.length ≤ 64) :
    (F_law_pairs [.obj n, .py f.py] S).wp (fun d S' => ∃ R, d = .py (encP (mlist f.lets R)) ∧ Rows R f.ls.length ∧ Ch n S S' ∧ S'.length = S.length) noE := by
  have hn := h.lt
  unfold F_law_pairs b_law_pairs
  refine wp_fn ?_
  simp [init]
  refine (rows_ok (n := n) (many := f.ls.length) h h0 h1).to ?_
  rintro _ S1 ⟨R, rfl, rR, c1, _⟩
  simp [law_list_eq f R _ (by omega)]
  obtain ⟨T, k1, k2, k3⟩ := c1.cut hn
  exact ⟨T, k1, rfl, R, rfl, rR, k2, k3⟩
end DV

set_option maxHeartbeats 4000000
namespace DV
open PySem
/-! Tables by classes of letters. -/
end DV

set_option maxHeartbeats 4000000
namespace DV
open PySem
/-! Letters, gaps and rows that are known. -/
theorem is_from_to_int (i lo hi : Int) (S : Sto) : F_is_from_to [.py (.int i), .py (.int lo), .py (.int hi)] S = .ok (.py (.bool (decide (lo ≤ i ∧ i ≤ hi)))) S := by
  unfold F_is_from_to b_is_from_to
  refine fn_eq (wp_fn ?_)
  simp [init, isB]
  by_cases h : lo ≤ i
  · simp [h]
    first | exact ⟨.self, rfl⟩ | exact .inr ⟨.self, rfl⟩
  · have h' : i < lo := by omega
    simp [h, h']
    exact ⟨.self, rfl⟩
theorem is_gap_int (i : Int) (S : Sto) : F_is_gap [.py (.int i)] S = .ok (.py (.bool (decide (-9 ≤ i ∧ i ≤ 9)))) S := by
  unfold F_is_gap b_is_gap
  refine fn_eq (wp_fn ?_)
  simp [init, is_from_to_int]
  exact ⟨.self, rfl⟩
theorem place_of_eq {f : Face} {c : Nat} (h : c ∈ f.lets) (S : Sto) : ∃ i : Nat, F_place_of [.py f.py, .py (lt c)] S = .ok (.py (.int i)) S := by
  have key : (F_place_of [.py f.py, .py (lt c)] S).wp (fun d T => (∃ i : Nat, d = .py (.int i)) ∧ T = S) noE := by
    unfold F_place_of b_place_of
    refine wp_fn ?_
    simp [init]
    refine wp_forM _ (fun (pre : List ((Nat × Int) × Nat)) σ T => wipeD σ [2, 3] = _ ∧ T = S ∧ ∀ p ∈ pre, p.1.1 ≠ c) ⟨rfl, rfl, by simp⟩ ?_ ?_
    · rintro pre x post σ T e ⟨hσ, rfl, hp⟩
      obtain ⟨_, _, rfl⟩ := slot2 hσ
      clear hσ
      by_cases hx : x.1.1 = c
      · simp [hx]
        exact ⟨T, .self, rfl, ⟨_, rfl⟩, rfl⟩
      · have hp' : ∀ p ∈ pre ++ [x], p.1.1 ≠ c := fun p hq => by
          rw [List.mem_append, List.mem_singleton] at hq
          rcases hq with hq | rfl
          · exact hp p hq
          · exact hx
        generalize hz : (∀ p ∈ pre ++ [x], p.1.1 ≠ c) = Z at hp' ⊢
        simp [hx]
        exact hp'
    · rintro σ T ⟨hσ, rfl, hp⟩
      exfalso
      obtain ⟨q, hq, rfl⟩ := List.mem_map.mp h
      obtain ⟨i, hi⟩ := List.getElem?_of_mem hq
      have : (q, i) ∈ f.ls.zipIdx := List.mem_of_getElem? (i := i) (by rw [List.getElem?_zipIdx, hi]; simp)
      exact hp _ this rfl
  obtain ⟨d, T, e, ⟨i, rfl⟩, rfl⟩ := key.out
  exact ⟨i, e⟩
theorem need_letter_eq {f : Face} {c : Nat} (h : c ∈ f.lets) (S : Sto) : ∃ i : Nat, F_need_letter [.py f.py, .py (lt c)] S = .ok (.py (.int i)) S := by
  obtain ⟨i, hi⟩ := place_of_eq h S
  refine ⟨i, ?_⟩
  unfold F_need_letter b_need_letter
  refine fn_eq (wp_fn ?_)
  simp [init, hi]
  exact ⟨.self, rfl⟩
theorem gap_of_eq {f : Face} {l r : Nat} (hl : l ∈ f.lets) (hr : r ∈ f.lets) (P : List Pair) (S : Sto) : F_gap_of [.py f.py, .py (encP P), .py (lt l), .py (lt r)] S = .ok (.py (.int (gapIn P l r))) S := by
  obtain ⟨i, hi⟩ := need_letter_eq hl S
  obtain ⟨j, hj⟩ := need_letter_eq hr S
  unfold F_gap_of b_gap_of
  refine fn_eq (wp_fn ?_)
  simp [init, hi, hj, gap_in_eq]
  exact ⟨.self, rfl⟩
abbrev encU (R : List (List Int)) : PyData := .tuple (R.map tupI)
@[simp] theorem seqD_encU (R : List (List Int)) : seqD (.py (encU R)) = some (R.map tupI) := id rfl
@[simp] theorem walk_encU (R : List (List Int)) (S : Sto) : pyWalk S (.py (encU R)) = some (R.map tupI) := id rfl
@[simp] theorem seqD_tupI (r : List Int) : seqD (.py (tupI r)) = some (r.map .int) := id rfl
@[simp] theorem walk_tupI (r : List Int) (S : Sto) : pyWalk S (.py (tupI r)) = some (r.map .int) := id rfl
theorem leftM_mlist {f : Face} {R : List (List Int)} (hn : f.lets.Nodup) (hR : Rows R f.ls.length) : leftM f (mlist f.lets R) = R := by
  have lR := hR.len
  have hL : f.lets.length = f.ls.length := by simp
  unfold leftM
  refine List.ext_getElem (by simp [lR]) fun i h1 h2 => ?_
  have hi : i < f.lets.length := by simpa using h1
  have rr := hR.row _ (List.getElem_mem h2)
  simp only [List.getElem_map]
  refine List.ext_getElem (by simp [rr]) fun j h3 h4 => ?_
  have hj : j < f.lets.length := by simpa using h3
  simp only [List.getElem_map]
  exact gap_mlist hn (List.getElem?_eq_getElem hi) (List.getElem?_eq_getElem h2) (List.getElem?_eq_getElem hj) (List.getElem?_eq_getElem h4)
end DV

set_option maxHeartbeats 4000000
namespace DV
open PySem
/-! Partings. -/
/-! ### the place of a letter -/
def plcD : Option Nat → PyData
  | some i => .int i
  | none => .none
theorem place_gen {f : Face} {t : PyData} {p : Nat → Bool} (h : ∀ q ∈ f.ls, ∀ S, eqD (.py (lt q.1)) (.py t) S = .ok (.py (.bool (p q.1))) S) (S : Sto) : F_place_of [.py f.py, .py t] S = .ok (.py (plcD (f.lets.findIdx? p))) S := by
  unfold F_place_of b_place_of
  refine fn_eq (wp_fn ?_)
  simp [init]
  refine wp_forM _ (fun (pre : List ((Nat × Int) × Nat)) σ T => wipeD σ [2, 3] = _ ∧ T = S ∧ ∀ q ∈ pre, p q.1.1 = false) ⟨rfl, rfl, by simp⟩ ?_ ?_
  · rintro pre x post σ T e ⟨hσ, rfl, hp⟩
    obtain ⟨_, _, rfl⟩ := slot2 hσ
    clear hσ
    obtain ⟨e1, e2⟩ := zipIdx_split e
    have hx1 : x.1 ∈ f.ls := by rw [e1]; simp
    have hq := h x.1 hx1
    cases hx : p x.1.1 with
    | true =>
      simp [hq, hx]
      refine ⟨T, .self, rfl, ?_, rfl⟩
      have hfi : f.lets.findIdx? p = some pre.length := by
        unfold Face.lets
        rw [e1, List.map_append, List.findIdx?_append, List.findIdx?_eq_none_iff.mpr]
        · simp [List.findIdx?_cons, hx]
        · intro c hc
          obtain ⟨y, hy, rfl⟩ := List.mem_map.mp hc
          obtain ⟨z, hz, rfl⟩ := List.mem_map.mp hy
          exact hp z hz
      rw [hfi, e2]
      rfl
    | false =>
      have hp' : ∀ q ∈ pre ++ [x], p q.1.1 = false := fun q hq => by
        rw [List.mem_append, List.mem_singleton] at hq
        rcases hq with hq | rfl
        · exact hp q hq
        · exact hx
      generalize hz : (∀ q ∈ pre ++ [x], p q.1.1 = false) = Z at hp' ⊢
      simp [hq, hx]
      exact hp'
  · rintro σ T ⟨hσ, rfl, hp⟩
    obtain ⟨_, _, rfl⟩ := slot2 hσ
    clear hσ
    simp
    refine ⟨T, .self, rfl, ?_, rfl⟩
    have hfi : f.lets.findIdx? p = none := by
      rw [List.findIdx?_eq_none_iff]
      intro c hc
      obtain ⟨q, hq, rfl⟩ := List.mem_map.mp hc
      obtain ⟨i, hi⟩ := List.getElem?_of_mem hq
      exact hp (q, i) (List.mem_of_getElem? (i := i) (by rw [List.getElem?_zipIdx, hi]; simp))
    rw [hfi]
    rfl
theorem place_lt {f : Face} (c : Nat) (S : Sto) : F_place_of [.py f.py, .py (lt c)] S = .ok (.py (plcD (f.lets.findIdx? fun x => decide (x = c)))) S :=
  place_gen (fun q _ S => by simp) S
abbrev plc (L : List Nat) (c : Nat) : Nat := L.idxOf c
theorem find_idxOf {L : List Nat} {c : Nat} (h : c ∈ L) : L.findIdx? (fun x => decide (x = c)) = some (plc L c) := by
  have : (fun x => decide (x = c)) = fun x => x == c := by
    funext x
    by_cases h : x = c <;> simp [h]
  rw [this]
  have h2 := List.idxOf_lt_length_of_mem h
  rw [List.findIdx?_eq_some_iff_findIdx_eq]
  exact ⟨h2, rfl⟩
theorem place_mem {f : Face} {c : Nat} (h : c ∈ f.lets) (S : Sto) : F_place_of [.py f.py, .py (lt c)] S = .ok (.py (.int (plc f.lets c : Nat))) S := by
  rw [place_lt, find_idxOf h]
  rfl
/-! ### partings -/
def hd0 (g : List Nat) : Nat := g.headD 0
structure IsPart (L : List Nat) (G : List (List Nat)) : Prop where
  ne : ∀ g ∈ G, g ≠ []
  srt : ∀ g ∈ G, (g.map (plc L)).Pairwise (· < ·)
  mem : ∀ g ∈ G, ∀ c ∈ g, c ∈ L
  heads : (G.map fun g => plc L (hd0 g)).Pairwise (· < ·)
  perm : G.flatten.Perm L
theorem plc_at {L : List Nat} (nd : L.Nodup) {i c : Nat} (h : L[i]? = some c) : plc L c = i := by
  obtain ⟨hi, rfl⟩ := List.getElem?_eq_some_iff.mp h
  exact List.Nodup.idxOf_getElem nd i hi
theorem plc_map {L : List Nat} (nd : L.Nodup) : L.map (plc L) = List.range L.length := by
  refine List.ext_getElem (by simp) fun i h1 h2 => ?_
  simp only [List.getElem_map, List.getElem_range]
  exact plc_at nd (List.getElem?_eq_getElem (by simpa using h1))
theorem plc_lt {L : List Nat} {c : Nat} (h : c ∈ L) : plc L c < L.length := List.idxOf_lt_length_of_mem h
theorem sub_srt {L g : List Nat} (nd : L.Nodup) (h : g.Sublist L) : (g.map (plc L)).Pairwise (· < ·) := by
  have h1 : (g.map (plc L)).Sublist (L.map (plc L)) := h.map _
  rw [plc_map nd] at h1
  exact List.Pairwise.sublist h1 List.pairwise_lt_range
/-! ### groups are partings -/
def grp (L : List Nat) (M : List (List Int)) (m : List Int) : List Nat := ((L.zip M).filter fun p => p.2 = m).map (·.1)
theorem groups_def (L : List Nat) (M : List (List Int)) : groups L M = (firsts M).map (grp L M) := rfl
theorem grp_sub (L : List Nat) (M : List (List Int)) (m : List Int) (hl : L.length ≤ M.length) : (grp L M m).Sublist L := by
  unfold grp
  have : ((L.zip M).filter fun p => p.2 = m).map (·.1) |>.Sublist ((L.zip M).map (·.1)) := List.filter_sublist.map _
  rw [map_fst_zip hl] at this
  exact this
theorem firsts_nodup (M : List (List Int)) : (firsts M).Nodup := by
  have key : ∀ (M acc : List (List Int)), acc.Nodup → (M.foldl (fun acc m => if m ∈ acc then acc else acc ++ [m]) acc).Nodup := by
    intro M
    induction M with
    | nil => exact fun _ h => h
    | cons x M ih =>
      intro acc h
      rw [List.foldl_cons]
      refine ih _ ?_
      split
      · exact h
      · rename_i hx
        rw [List.nodup_append]
        refine ⟨h, by simp, fun a ha b hb => ?_⟩
        rw [List.mem_singleton] at hb
        subst hb
        exact fun e => hx (e ▸ ha)
  exact key M [] List.nodup_nil
theorem mem_grp {L : List Nat} {M : List (List Int)} {m : List Int} {c : Nat} : c ∈ grp L M m ↔ ∃ i : Nat, L[i]? = some c ∧ M[i]? = some m := by
  unfold grp
  rw [List.mem_map]
  constructor
  · rintro ⟨p, hp, rfl⟩
    rw [List.mem_filter] at hp
    obtain ⟨i, h1, h2⟩ := mem_zip_at hp.1
    have : p.2 = m := by simpa using hp.2
    exact ⟨i, h1, this ▸ h2⟩
  · rintro ⟨i, h1, h2⟩
    exact ⟨(c, m), List.mem_filter.mpr ⟨List.mem_of_getElem? (zip_at h1 h2), by simp⟩, rfl⟩
/-- the first letter of a group stands where its mark is first -/
theorem grp_head {L : List Nat} {M : List (List Int)} (nd : L.Nodup) (hl : L.length = M.length) {m : List Int} (hm : m ∈ M) : plc L (hd0 (grp L M m)) = M.idxOf m := by
  have hi := List.idxOf_lt_length_of_mem hm
  have hmi : M[M.idxOf m]? = some m := by rw [List.getElem?_eq_getElem hi, List.getElem_idxOf hi]
  have hLi : M.idxOf m < L.length := by omega
  have eL : L.zip M = (L.zip M).take (M.idxOf m) ++ (L[M.idxOf m], m) :: (L.zip M).drop (M.idxOf m + 1) := by
    conv => lhs; rw [← List.take_append_drop (M.idxOf m) (L.zip M)]
    congr 1
    rw [List.drop_eq_getElem_cons (by rw [List.length_zip]; omega)]
    congr 1
    rw [List.getElem_zip]
    congr 1
    exact List.getElem_idxOf hi
  have hno : ((L.zip M).take (M.idxOf m)).filter (fun p => decide (p.2 = m)) = [] := by
    rw [List.filter_eq_nil_iff]
    intro p hp
    obtain ⟨j, hj, rfl⟩ := List.getElem_of_mem hp
    rw [List.length_take] at hj
    rw [List.getElem_take, List.getElem_zip]
    simp only [decide_eq_true_eq]
    intro e
    have hj2 : j < M.idxOf m := by omega
    have : M.idxOf m ≤ j := by
      have h3 : M.idxOf m = M.idxOf (M[j]'(by omega)) := by rw [e]
      rw [h3]
      have := List.findIdx_le_length (p := (· == M[j]'(by omega))) (xs := M)
      refine Nat.le_of_not_lt fun hlt => ?_
      have := List.not_of_lt_findIdx (p := (· == M[j]'(by omega))) hlt
      simp at this
    omega
  unfold grp hd0
  rw [eL, List.filter_append, hno, List.filter_cons]
  simp only [decide_true, if_true, List.nil_append, List.map_cons, List.headD_cons]
  exact plc_at nd (List.getElem?_eq_getElem hLi)
theorem firsts_sorted : ∀ M : List (List Int), ((firsts M).map fun m => M.idxOf m).Pairwise (· < ·) := by
  have key : ∀ (n : Nat) (M : List (List Int)), M.length = n → ((firsts M).map fun m => M.idxOf m).Pairwise (· < ·) := by
    intro n
    induction n with
    | zero =>
      intro M h
      rw [List.eq_nil_of_length_eq_zero h]
      exact List.Pairwise.nil
    | succ n ih =>
      intro M h
      have hne : M ≠ [] := fun e => by rw [e] at h; cases h
      rw [← List.dropLast_concat_getLast hne]
      generalize hN : M.dropLast = N
      generalize M.getLast hne = x
      have ih := ih N (by rw [← hN]; simp [h])
      rw [firsts_snoc]
      have old : ∀ m ∈ firsts N, (N ++ [x]).idxOf m = N.idxOf m := fun m hm => by
        rw [List.idxOf_append, if_pos (mem_firsts.mp hm)]
      split
      · rw [List.map_congr_left old]
        exact ih
      · rename_i hx
        rw [List.map_append, List.map_congr_left old, List.pairwise_append]
        refine ⟨ih, by simp, fun a ha b hb => ?_⟩
        obtain ⟨m, hm, rfl⟩ := List.mem_map.mp ha
        have hxN : x ∉ N := fun z => hx (mem_firsts.mpr z)
        simp only [List.map_cons, List.map_nil, List.mem_singleton] at hb
        subst hb
        rw [List.idxOf_append, if_neg hxN]
        have := List.idxOf_lt_length_of_mem (mem_firsts.mp hm)
        omega
  exact fun M => key _ M rfl
theorem groups_part {L : List Nat} {M : List (List Int)} (nd : L.Nodup) (hl : L.length = M.length) : IsPart L (groups L M) := by
  rw [groups_def]
  have sub : ∀ m, (grp L M m).Sublist L := fun m => grp_sub L M m (by omega)
  refine ⟨fun g hg => ?_, fun g hg => ?_, fun g hg c hc => ?_, ?_, ?_⟩
  · obtain ⟨m, hm, rfl⟩ := List.mem_map.mp hg
    obtain ⟨i, hi⟩ := List.getElem?_of_mem (mem_firsts.mp hm)
    have hiL : i < L.length := by rw [hl]; exact (List.getElem?_eq_some_iff.mp hi).1
    intro e
    have : L[i] ∈ grp L M m := mem_grp.mpr ⟨i, List.getElem?_eq_getElem hiL, hi⟩
    rw [e] at this
    cases this
  · obtain ⟨m, hm, rfl⟩ := List.mem_map.mp hg
    exact sub_srt nd (sub m)
  · obtain ⟨m, hm, rfl⟩ := List.mem_map.mp hg
    exact (sub m).subset hc
  · rw [List.map_map]
    have : ∀ m ∈ firsts M, ((fun g => plc L (hd0 g)) ∘ grp L M) m = M.idxOf m := fun m hm => grp_head nd hl (mem_firsts.mp hm)
    rw [List.map_congr_left this]
    exact firsts_sorted M
  · have nf : ((firsts M).map (grp L M)).flatten.Nodup := by
      rw [List.Nodup, List.pairwise_flatten]
      refine ⟨fun g hg => ?_, ?_⟩
      · obtain ⟨m, hm, rfl⟩ := List.mem_map.mp hg
        exact nd.sublist (sub m)
      · rw [List.pairwise_map]
        refine (firsts_nodup M).imp fun {a b} hab c h1 c' h2 e => ?_
        subst e
        obtain ⟨i, e1, e2⟩ := mem_grp.mp h1
        obtain ⟨j, e3, e4⟩ := mem_grp.mp h2
        have := nodup_get nd e1 e3
        subst this
        rw [e2] at e4
        exact hab (Option.some.inj e4)
    rw [List.perm_ext_iff_of_nodup nf nd]
    intro c
    rw [List.mem_flatten]
    constructor
    · rintro ⟨g, hg, hc⟩
      obtain ⟨m, hm, rfl⟩ := List.mem_map.mp hg
      exact (sub m).subset hc
    · intro hc
      obtain ⟨i, hi⟩ := List.getElem?_of_mem hc
      have hiM : i < M.length := by rw [← hl]; exact (List.getElem?_eq_some_iff.mp hi).1
      exact ⟨_, List.mem_map.mpr ⟨M[i], mem_firsts.mpr (List.getElem_mem hiM), rfl⟩, mem_grp.mpr ⟨i, hi, List.getElem?_eq_getElem hiM⟩⟩
end DV

set_option maxHeartbeats 4000000
namespace DV
open PySem
/-! Texts, and how wide they are. -/
abbrev tx (l : List Nat) : PyData := .str ⟨l.toArray⟩
theorem sl_big' : sizeLine = 16777216 := rfl
@[simp ↓] theorem wp_txt (e : Ex) {σ : En} {S : Sto} {P : List D → Sto → Prop} {E : Str → Sto → Prop} : (txtI e σ S).wp P E = (e σ S).wp (fun d S1 => ∃ x, d = .py (.str x) ∧ x.length ≤ 16777216 ∧ P (x.cps.toList.map fun c => D.py (.str ⟨#[c]⟩)) S1) E := by
  unfold txtI
  rw [wp_bind]
  congr 1
  funext d S1
  split
  · rw [wp_iteR]
    split
    · rename_i h
      exact propext ⟨fun p => ⟨_, rfl, h, p⟩, fun ⟨j, e, _, p⟩ => by cases e; exact p⟩
    · rename_i h
      exact propext ⟨fun p => p.elim, fun ⟨j, e, h', p⟩ => by cases e; exact h h'⟩
  · rename_i hn
    exact propext ⟨fun h => h.elim, fun ⟨k, e, _, h⟩ => (hn k e).elim⟩
theorem pw_tx {l : List Nat} (h : l.length ≤ 16777216) (S : Sto) : pyWalk S (.py (tx l)) = some (l.map lt) := by
  simp only [pyWalk]
  rw [if_pos (by simpa [Str.length] using h)]
theorem item_tx {l : List Nat} (hl : l.length ≤ 16777216) (k : Nat) {c : Nat} (h : l[k]? = some c) (S : Sto) : itemD (.py (tx l)) (.py (.int (k : Int))) S = .ok (.py (lt c)) S := by
  simp only [itemD]
  rw [if_pos (by simpa [Str.length, sl_big'] using hl)]
  rw [atI_nat k c h]
/-! ### signs -/
def Face.has (f : Face) (c : Nat) : Prop := c = 32 ∨ c ∈ f.lets
def sw (f : Face) (c : Nat) : Int := if c = 32 then f.w else ((f.ls.find? fun p => decide (p.1 = c)).map (·.2)).getD 0
def bt (P : List Pair) (a b : Nat) : Int := if a = 32 ∨ b = 32 then 0 else gapIn P a b
theorem blank_str : Str.ofString " " = ⟨#[32]⟩ := by decide +kernel
@[simp] theorem str_blank (c : Nat) : ((⟨#[c]⟩ : Str) = Str.ofString " ") = (c = 32) := by
  rw [blank_str]
  simp
theorem is_sign_eq {f : Face} {c : Nat} (h : f.has c) (S : Sto) : F_is_sign [.py f.py, .py (lt c)] S = .ok (.py (.bool true)) S := by
  unfold F_is_sign b_is_sign
  refine fn_eq (wp_fn ?_)
  by_cases hc : c = 32
  · simp [init, hc]
    exact ⟨.self, rfl⟩
  · obtain ⟨i, hi⟩ := place_of_eq (h.resolve_left hc) S
    simp [init, hc, hi]
    exact ⟨.self, rfl⟩
theorem find_w {f : Face} {c : Nat} (nd : f.lets.Nodup) {i : Nat} {p : Nat × Int} (h : f.ls[i]? = some p) (hc : p.1 = c) (n32 : c ≠ 32) : sw f c = p.2 := by
  unfold sw
  rw [if_neg n32]
  have : f.ls.find? (fun p => decide (p.1 = c)) = some p := by
    rw [List.find?_eq_some_iff_getElem]
    obtain ⟨hi, e⟩ := List.getElem?_eq_some_iff.mp h
    refine ⟨by simpa using hc, i, hi, e, fun j hj => ?_⟩
    simp only [Bool.not_eq_true', decide_eq_false_iff_not]
    intro e2
    have h1 : f.lets[j]? = some c := by
      unfold Face.lets
      rw [List.getElem?_map, List.getElem?_eq_getElem (by omega)]
      simp [e2]
    have h2 : f.lets[i]? = some c := by
      unfold Face.lets
      rw [List.getElem?_map, h]
      simp [hc]
    have := nodup_get nd h1 h2
    omega
  rw [this]
  rfl
theorem sign_width_eq {f : Face} {c : Nat} (nd : f.lets.Nodup) (h : f.has c) (b : ∀ c ∈ f.lets, 97 ≤ c) (S : Sto) : F_sign_width [.py f.py, .py (lt c)] S = .ok (.py (.int (sw f c))) S := by
  unfold F_sign_width b_sign_width
  refine fn_eq (wp_fn ?_)
  by_cases hc : c = 32
  · simp [init, hc, sw]
    exact ⟨.self, rfl⟩
  · have hm := h.resolve_left hc
    have hp := place_mem hm
    have hl := plc_lt hm
    have hl' : plc f.lets c < f.ls.length := by simpa using hl
    have e : (f.ls[plc f.lets c]).1 = c := by
      have : f.lets[plc f.lets c]? = some c := by rw [List.getElem?_eq_getElem hl]; exact congrArg some (List.getElem_idxOf hl)
      have h2 : (f.ls.map (·.1))[plc f.lets c]? = some c := this
      rw [List.getElem?_map, List.getElem?_eq_getElem hl'] at h2
      exact Option.some.inj h2
    have w := find_w nd (List.getElem?_eq_getElem hl') e hc
    have i1 : ∀ T, itemD (.py (.tuple (f.ls.map encL))) (.py (.int (plc f.lets c : Nat))) T = .ok (.py (encL f.ls[plc f.lets c])) T := fun T => itemD_tuple _ (by rw [List.getElem?_map, List.getElem?_eq_getElem hl']; rfl)
    simp [init, hc, hp, i1, w]
    exact ⟨.self, rfl⟩
theorem between_eq (P : List Pair) (a b : Nat) (S : Sto) : F_between [.py (encP P), .py (lt a), .py (lt b)] S = .ok (.py (.int (bt P a b))) S := by
  unfold F_between b_between
  refine fn_eq (wp_fn ?_)
  unfold bt
  by_cases ha : a = 32
  · simp [init, ha]
    exact ⟨.self, rfl⟩
  · by_cases hb : b = 32
    · simp [init, ha, hb]
      exact ⟨.self, rfl⟩
    · simp [init, ha, hb, gap_in_eq]
      exact ⟨.self, rfl⟩
/-- where the sign number k begins -/
def bg (f : Face) (P : List Pair) (l : List Nat) : Nat → Int
  | 0 => 0
  | k + 1 => bg f P l k + sw f (l.getD k 0) + bt P (l.getD k 0) (l.getD (k + 1) 0)
def begs (f : Face) (P : List Pair) (l : List Nat) : List Int := (List.range l.length).map (bg f P l)
theorem begins_in_eq {f : Face} {P : List Pair} {l : List Nat} (nd : f.lets.Nodup) (h : ∀ c ∈ l, f.has c) (b : ∀ c ∈ f.lets, 97 ≤ c) (hl : l.length ≤ 10000) (S : Sto) : F_begins_in [.py f.py, .py (encP P), .py (tx l)] S = .ok (.py (tupI (begs f P l))) S := by
  unfold F_begins_in b_begins_in
  refine fn_eq (wp_fn ?_)
  simp [init, pw_tx (l := l) (by omega)]
  rw [stL_nil]
  refine wp_forM _ (fun (pre : List (Nat × Nat)) σ T => wipeD σ [4, 5, 6] = _ ∧ σ[4]? = some (some (.py (.int (bg f P l (pre.length - 1))))) ∧ T = stL S (((List.range pre.length).map (bg f P l)).map .int)) ⟨rfl, rfl, rfl⟩ ?_ ?_
  · rintro pre x post σ T e ⟨hσ, h4, rfl⟩
    obtain ⟨_, _, _, rfl⟩ := slot3 hσ
    clear hσ
    obtain ⟨e1, e2⟩ := zipIdx_split e
    obtain ⟨c, i⟩ := x
    simp only at e1 e2
    subst e2
    have ll : pre.length < l.length := by
      have := congrArg List.length e1
      simp at this
      omega
    have ec : l[pre.length]? = some c := by rw [e1]; simp
    simp at h4
    subst h4
    have ap := stL_app (S := S) (ds := ((List.range pre.length).map (bg f P l)).map .int) (d := .int (bg f P l pre.length)) (by rw [List.length_map, List.length_map, List.length_range, sl_big']; omega)
    have es : ((List.range pre.length).map (bg f P l)).map PyData.int ++ [.int (bg f P l pre.length)] = ((List.range (pre ++ [(c, pre.length)]).length).map (bg f P l)).map .int := by
      rw [List.length_append, List.length_singleton, List.range_succ]
      simp
    rw [es] at ap
    by_cases h0 : pre.length = 0
    · simp [h0]
      simp [h0] at ap
      rw [ap]
      simp [bg]
    · obtain ⟨k, hk⟩ : ∃ k, pre.length = k + 1 := ⟨pre.length - 1, by omega⟩
      have hk1 : k < l.length := by omega
      have ek : l[k]? = some l[k] := List.getElem?_eq_getElem hk1
      have it := item_tx (l := l) (by omega) k ek
      have s1 := sign_width_eq nd (h _ (List.getElem_mem hk1)) b
      have b1 := between_eq P l[k] c
      have pos : (0 : Int) < ((k : Int) + 1) := by omega
      have ev : bg f P l (k + 1) = bg f P l k + sw f l[k] + bt P l[k] c := by
        rw [bg]
        have g1 : l.getD k 0 = l[k] := by simp [hk1]
        have g2 : l.getD (k + 1) 0 = c := by rw [List.getD_eq_getElem?_getD, ← hk, ec]; rfl
        rw [g1, g2]
      rw [hk] at ap ⊢
      simp [pos, it, s1, b1, ← ev]
      simp at ap
      refine wp_of ap ?_
      simp [hk]
  · rintro σ T ⟨hσ, h4, rfl⟩
    obtain ⟨_, _, _, rfl⟩ := slot3 hσ
    simp
    refine ⟨S, .stL, rfl, ?_, rfl⟩
    simp [begs]
def wd (f : Face) (P : List Pair) (l : List Nat) : Int := (l.map (sw f)).sum + ((l.zip (l.drop 1)).map fun p => bt P p.1 p.2).sum
end DV

set_option maxHeartbeats 4000000
namespace DV
open PySem
/-! Partings are known; classes. -/
structure Sm (r : List Int) : Prop where
  bnd : ∀ x ∈ r, -999999999 ≤ x ∧ x ≤ 999999999
  len : r.length ≤ 2000
theorem neD_of {d e : PyData} {k : Bool} {S : Sto} (h : eqD (.py d) (.py e) S = .ok (.py (.bool k)) S) : neD (.py d) (.py e) S = .ok (.py (.bool (!k))) S := by
  unfold eqD at h
  unfold neD
  cases hb : eqB d e with
  | none => simp only [hb] at h; cases h
  | some b => simp only [hb] at h; cases h; simp only [hb]
theorem eqD_deep {d e : PyData} (hf : flatD d e = none) (h1 : SeqAt.shaped d = true) (h2 : SeqAt.shaped e = true) (S : Sto) : eqD (.py d) (.py e) S = .ok (.py (.bool (PyData.eqv d e))) S := by
  simp only [eqD, eqB, hf]
  rw [if_pos ⟨h1, h2⟩]
@[simp] theorem wp_sumL (f : Ex) {σ : En} {S : Sto} {P : List D → Sto → Prop} {E : Str → Sto → Prop} : (sumL f σ S).wp P E = (f σ S).wp (fun d S1 => ∃ ds Ls, d = .py (.list ds) ∧ listsOf ds = some Ls ∧ Ls.flatten.length ≤ sizeLine ∧ P (Ls.flatten.map .py) S1) E := by
  unfold sumL
  rw [wp_bind]
  congr 1
  funext d S1
  rcases d with d | n | n
  · cases d
    case list ds =>
      cases h : listsOf ds with
      | none =>
        simp only [h]
        exact propext ⟨fun h => h.elim, fun ⟨_, _, e, h2, _⟩ => by cases e; rw [h] at h2; cases h2⟩
      | some Ls =>
        simp only [h]
        rw [wp_iteR]
        split
        · rename_i hz
          exact propext ⟨fun p => ⟨_, _, rfl, h, hz, p⟩, fun ⟨_, _, e, h2, _, p⟩ => by cases e; rw [h] at h2; cases h2; exact p⟩
        · rename_i hz
          exact propext ⟨fun p => p.elim, fun ⟨_, _, e, h2, z, p⟩ => by cases e; rw [h] at h2; cases h2; exact hz z⟩
    all_goals exact propext ⟨fun h => h.elim, fun ⟨_, _, e, _⟩ => by cases e⟩
  · exact propext ⟨fun h => h.elim, fun ⟨_, _, e, _⟩ => by cases e⟩
  · exact propext ⟨fun h => h.elim, fun ⟨_, _, e, _⟩ => by cases e⟩
/-- places as whole numbers -/
def plI (L : List Nat) (g : List Nat) : List Int := g.map fun c => (plc L c : Int)
@[simp] theorem plI_len (L g : List Nat) : (plI L g).length = g.length := by simp [plI]
theorem IsPart.len {L : List Nat} {G : List (List Nat)} (h : IsPart L G) : (G.map List.length).sum = L.length := by
  rw [← h.perm.length_eq, List.length_flatten]
theorem IsPart.len1 {L : List Nat} {G : List (List Nat)} (h : IsPart L G) {g : List Nat} (hg : g ∈ G) : g.length ≤ L.length := by
  rw [← h.perm.length_eq]
  exact (List.sublist_flatten_of_mem hg).length_le
theorem IsPart.len2 {L : List Nat} {G : List (List Nat)} (h : IsPart L G) : G.length ≤ L.length := by
  rw [← h.len]
  have key : ∀ G : List (List Nat), (∀ g ∈ G, g ≠ []) → G.length ≤ (G.map List.length).sum := by
    intro G
    induction G with
    | nil => simp
    | cons g G ih =>
      intro h
      have h1 := List.length_pos_iff.mpr (h g (List.mem_cons_self ..))
      have h2 := ih fun x hx => h x (List.mem_cons_of_mem _ hx)
      simp only [List.length_cons, List.map_cons, List.sum_cons]
      omega
  exact key G h.ne
end DV

set_option maxHeartbeats 4000000
namespace DV
open PySem
/-! Tables: what they tell. -/
inductive Ky where
  | l (c : Nat)
  | n (i : Nat)
  deriving DecidableEq
def encK : Ky → PyData
  | .l c => lt c
  | .n i => .int i
abbrev Exc := Ky × Ky × Int
abbrev encE (e : Exc) : PyData := .tuple [encK e.1, encK e.2.1, .int e.2.2]
theorem eq_key (a b : Ky) (S : Sto) : eqD (.py (encK a)) (.py (encK b)) S = .ok (.py (.bool (decide (a = b)))) S := by
  cases a <;> cases b <;> simp [encK, eqD, eqB, flatD, Int.ofNat_inj]
@[simp] theorem eq_kk (a b : Ky) (S : Sto) : eqD (.py (encK a)) (.py (encK b)) S = .ok (.py (.bool (decide (a = b)))) S := eq_key a b S
structure Tab where
  lefts : List (List Nat)
  rights : List (List Nat)
  gaps : List (List Int)
  exc : List Exc
abbrev Tab.py (t : Tab) : PyData := .tuple [encG t.lefts, encG t.rights, encU t.gaps, .tuple (t.exc.map encE)]
def clsIn (G : List (List Nat)) (c : Nat) : Nat := G.findIdx fun g => decide (c ∈ g)
theorem IsPart.has {L : List Nat} {G : List (List Nat)} (h : IsPart L G) {c : Nat} (hc : c ∈ L) : ∃ g ∈ G, c ∈ g := List.mem_flatten.mp (h.perm.mem_iff.mpr hc)
theorem in_tup {g : List Nat} (c : Nat) (S : Sto) : inD (.py (lt c)) (.py (.tuple (g.map lt))) S = .ok (.py (.bool (decide (c ∈ g)))) S := by
  have h1 : deep S 8 (.py (lt c)) = some (lt c) := rfl
  have h2 : deep S 8 (.py (.tuple (g.map lt))) = some (.tuple (g.map lt)) := rfl
  simp only [inD, inS, h1, h2, inB]
  have h3 : (g.map lt).all isFlat = true := by
    rw [List.all_eq_true]
    intro d hd
    obtain ⟨c, _, rfl⟩ := List.mem_map.mp hd
    rfl
  rw [if_pos ⟨rfl, h3⟩]
  have h4 : ((g.map lt).any fun z => PyData.eqv z (lt c)) = decide (c ∈ g) := by
    rw [List.any_map]
    simp only [Function.comp_def, eqv_lt]
    by_cases h : c ∈ g
    · rw [decide_eq_true h, List.any_eq_true]
      exact ⟨c, h, by simp⟩
    · rw [decide_eq_false h, List.any_eq_false]
      intro x hx
      simp
      exact fun e => h (e ▸ hx)
  rw [h4]
/-! ### what is told -/
def hit (es : List Exc) (a b : Ky) : Option Int := (es.find? fun e => decide (e.1 = a ∧ e.2.1 = b)).map (·.2.2)
structure TabOk (L : List Nat) (t : Tab) : Prop where
  lp : IsPart L t.lefts
  rp : IsPart L t.rights
  gl : t.gaps.length = t.lefts.length
  gr : ∀ r ∈ t.gaps, r.length = t.rights.length
  gb : ∀ r ∈ t.gaps, ∀ x ∈ r, -9 ≤ x ∧ x ≤ 9
/-! ### the law's own look -/
def kyB (k : Ky) : Prop := match k with
  | .l c => c ≤ 122
  | .n i => i ≤ 1000
structure ExOk (es : List Exc) : Prop where
  len : es.length ≤ 2000
  key : ∀ e ∈ es, kyB e.1 ∧ kyB e.2.1
  gap : ∀ e ∈ es, -9 ≤ e.2.2 ∧ e.2.2 ≤ 9
def Ky.isL : Ky → Bool
  | .l _ => true
  | .n _ => false
@[simp] theorem isL_l (c : Nat) : (Ky.l c).isL = true := id rfl
@[simp] theorem isL_n (c : Nat) : (Ky.n c).isL = false := id rfl
end DV

set_option maxHeartbeats 4000000
namespace DV
open PySem
/-! Tables drawn from the box; tables known. -/
/-! ### exceptions drawn -/
abbrev kk (e : Exc) : Ky × Ky := (e.1, e.2.1)
def cross (A B : List Ky) : List (Ky × Ky) := A.flatMap fun a => B.map fun b => (a, b)
def gapB (x : Int) : Prop := -9 ≤ x ∧ x ≤ 9
end DV

set_option maxHeartbeats 4000000
namespace DV
open PySem
/-! Exceptions in order; tables known. -/
def keyI (L : List Nat) : Ky × Ky → List Int
  | (.l a, .l b) => [0, plc L a, plc L b]
  | (.l a, .n j) => [1, plc L a, j]
  | (.n i, .l b) => [2, i, plc L b]
  | (.n i, .n j) => [3, i, j]
def allK (L : List Nat) (nl nr : Nat) : List (Ky × Ky) := cross (L.map .l) (L.map .l) ++ (cross (L.map .l) ((List.range nr).map .n) ++ cross ((List.range nl).map .n) (L.map .l))
theorem lex3 (k x y k' x' y' : Int) : HT.lexLt [k, x, y] [k', x', y'] = true ↔ k < k' ∨ (k = k' ∧ (x < x' ∨ (x = x' ∧ y < y'))) := by
  rw [HT.lexLt_cons]
  split
  · rename_i h
    rw [HT.lexLt_cons]
    split
    · rename_i h2
      rw [HT.lexLt_cons]
      split
      · rename_i h3
        simp [HT.lexLt_nil_nil]
        omega
      · simp
        omega
    · simp
      omega
  · simp
    omega
theorem cross_pw {α β : Type} {A : List α} {B : List β} (fa : α → Ky) (fb : β → Ky) (L : List Nat) (k : Int) (ga : α → Int) (gb : β → Int) (hA : A.Pairwise fun a b => ga a < ga b) (hB : B.Pairwise fun a b => gb a < gb b)
    (h : ∀ a b, keyI L (fa a, fb b) = [k, ga a, gb b]) : ((cross (A.map fa) (B.map fb)).map (keyI L)).Pairwise fun a b => HT.lexLt a b = true := by
  unfold cross
  rw [List.pairwise_map, List.flatMap_map, List.pairwise_flatMap]
  refine ⟨fun a ha => ?_, hA.imp fun {a a'} haa x hx y hy => ?_⟩
  · rw [List.map_map, List.pairwise_map]
    refine hB.imp fun {b b'} hbb => ?_
    simp only [Function.comp_def, h]
    rw [lex3]
    omega
  · rw [List.map_map] at hx hy
    obtain ⟨b, hb, rfl⟩ := List.mem_map.mp hx
    obtain ⟨b', hb', rfl⟩ := List.mem_map.mp hy
    simp only [Function.comp_def, h]
    rw [lex3]
    omega
theorem mem_cross {A B : List Ky} {p : Ky × Ky} (h : p ∈ cross A B) : p.1 ∈ A ∧ p.2 ∈ B := by
  unfold cross at h
  obtain ⟨a, ha, h⟩ := List.mem_flatMap.mp h
  obtain ⟨b, hb, rfl⟩ := List.mem_map.mp h
  exact ⟨ha, hb⟩
theorem plc_pw {L : List Nat} (nd : L.Nodup) : L.Pairwise fun a b => (plc L a : Int) < plc L b := by
  have := sub_srt nd (List.Sublist.refl L)
  rw [List.pairwise_map] at this
  exact this.imp fun h => by omega
theorem range_pw (n : Nat) : (List.range n).Pairwise fun (a b : Nat) => (a : Int) < (b : Int) := List.pairwise_lt_range.imp fun h => by omega
theorem allK_pw {L : List Nat} (nd : L.Nodup) (nl nr : Nat) : ((allK L nl nr).map (keyI L)).Pairwise fun a b => HT.lexLt a b = true := by
  unfold allK
  rw [List.map_append, List.map_append, List.pairwise_append, List.pairwise_append]
  have key : ∀ {A B : List Ky} {k : Int}, (∀ a ∈ A, ∀ b ∈ B, ∃ x y, keyI L (a, b) = [k, x, y]) → ∀ z ∈ (cross A B).map (keyI L), ∃ x y, z = [k, x, y] := fun hh z hz => by
    obtain ⟨p, hp, rfl⟩ := List.mem_map.mp hz
    have := mem_cross hp
    exact hh _ this.1 _ this.2
  have k0 := key (A := L.map .l) (B := L.map .l) (k := 0) fun a ha b hb => by
    obtain ⟨a, _, rfl⟩ := List.mem_map.mp ha
    obtain ⟨b, _, rfl⟩ := List.mem_map.mp hb
    exact ⟨_, _, rfl⟩
  have k1 := key (A := L.map .l) (B := (List.range nr).map .n) (k := 1) fun a ha b hb => by
    obtain ⟨a, _, rfl⟩ := List.mem_map.mp ha
    obtain ⟨b, _, rfl⟩ := List.mem_map.mp hb
    exact ⟨_, _, rfl⟩
  have k2 := key (A := (List.range nl).map .n) (B := L.map .l) (k := 2) fun a ha b hb => by
    obtain ⟨a, _, rfl⟩ := List.mem_map.mp ha
    obtain ⟨b, _, rfl⟩ := List.mem_map.mp hb
    exact ⟨_, _, rfl⟩
  refine ⟨cross_pw Ky.l Ky.l L 0 (fun a => plc L a) (fun a => plc L a) (plc_pw nd) (plc_pw nd) fun _ _ => rfl, ⟨cross_pw Ky.l Ky.n L 1 (fun a => plc L a) (fun j => j) (plc_pw nd) (range_pw nr) fun _ _ => rfl, cross_pw Ky.n Ky.l L 2 (fun j => j) (fun a => plc L a) (range_pw nl) (plc_pw nd) fun _ _ => rfl, fun x hx y hy => ?_⟩, fun x hx y hy => ?_⟩
  · obtain ⟨a, b, rfl⟩ := k1 x hx
    obtain ⟨c, d, rfl⟩ := k2 y hy
    rw [lex3]
    omega
  · obtain ⟨a, b, rfl⟩ := k0 x hx
    rcases List.mem_append.mp hy with hy | hy
    · obtain ⟨c, d, rfl⟩ := k1 y hy
      rw [lex3]
      omega
    · obtain ⟨c, d, rfl⟩ := k2 y hy
      rw [lex3]
      omega
/-- exceptions that stand in order -/
structure ExIn (L : List Nat) (nl nr : Nat) (es : List Exc) : Prop where
  sub : (es.map kk).Sublist (allK L nl nr)
  gap : ∀ e ∈ es, gapB e.2.2
theorem ExIn.srt {L : List Nat} {nl nr : Nat} {es : List Exc} (h : ExIn L nl nr es) (nd : L.Nodup) : ((es.map kk).map (keyI L)).Pairwise fun a b => HT.lexLt a b = true :=
  List.Pairwise.sublist (h.sub.map _) (allK_pw nd nl nr)
theorem ExIn.cut {L : List Nat} {nl nr : Nat} {es fs : List Exc} (h : ExIn L nl nr es) (hs : fs.Sublist es) : ExIn L nl nr fs := ⟨(hs.map _).trans h.sub, fun e he => h.gap e (hs.subset he)⟩
inductive KyIn (L : List Nat) (nl nr : Nat) : Ky × Ky → Prop
  | ll {a b : Nat} : a ∈ L → b ∈ L → KyIn L nl nr (.l a, .l b)
  | ln {a j : Nat} : a ∈ L → j < nr → KyIn L nl nr (.l a, .n j)
  | nl {i b : Nat} : i < nl → b ∈ L → KyIn L nl nr (.n i, .l b)
theorem allK_in {L : List Nat} {nl nr : Nat} {p : Ky × Ky} (h : p ∈ allK L nl nr) : KyIn L nl nr p := by
  unfold allK at h
  obtain ⟨a, b⟩ := p
  rcases List.mem_append.mp h with h | h
  · obtain ⟨h1, h2⟩ := mem_cross h
    obtain ⟨a, ha, rfl⟩ := List.mem_map.mp h1
    obtain ⟨b, hb, rfl⟩ := List.mem_map.mp h2
    exact .ll ha hb
  rcases List.mem_append.mp h with h | h
  · obtain ⟨h1, h2⟩ := mem_cross h
    obtain ⟨a, ha, rfl⟩ := List.mem_map.mp h1
    obtain ⟨b, hb, rfl⟩ := List.mem_map.mp h2
    exact .ln ha (List.mem_range.mp hb)
  · obtain ⟨h1, h2⟩ := mem_cross h
    obtain ⟨a, ha, rfl⟩ := List.mem_map.mp h1
    obtain ⟨b, hb, rfl⟩ := List.mem_map.mp h2
    exact .nl (List.mem_range.mp ha) hb
theorem ExIn.kyin {L : List Nat} {nl nr : Nat} {es : List Exc} (h : ExIn L nl nr es) {e : Exc} (he : e ∈ es) : KyIn L nl nr (kk e) := allK_in (h.sub.subset (List.mem_map.mpr ⟨e, he, rfl⟩))
theorem cross_length (A B : List Ky) : (cross A B).length = A.length * B.length := by
  unfold cross
  rw [List.length_flatMap]
  simp only [List.length_map]
  induction A with
  | nil => simp
  | cons a A ih => rw [List.map_cons, List.sum_cons, ih, List.length_cons, Nat.succ_mul, Nat.add_comm]
theorem ExIn.ok {L : List Nat} {nl nr : Nat} {es : List Exc} (h : ExIn L nl nr es) (hL : L.length ≤ 20) (hnl : nl ≤ 20) (hnr : nr ≤ 20) (b : ∀ c ∈ L, c ≤ 122) : ExOk es := by
  refine ⟨?_, fun e he => ?_, h.gap⟩
  · have h1 := h.sub.length_le
    unfold allK at h1
    simp only [List.length_append, cross_length, List.length_map, List.length_range] at h1
    have h2 : L.length * L.length ≤ 20 * 20 := Nat.mul_le_mul hL hL
    have h3 : L.length * nr ≤ 20 * 20 := Nat.mul_le_mul hL hnr
    have h4 : nl * L.length ≤ 20 * 20 := Nat.mul_le_mul hnl hL
    omega
  · have := h.kyin he
    obtain ⟨x, y, g⟩ := e
    cases this with
    | ll ha hb => exact ⟨b _ ha, b _ hb⟩
    | ln ha hb => exact ⟨b _ ha, show _ ≤ 1000 by omega⟩
    | nl ha hb => exact ⟨show _ ≤ 1000 by omega, b _ hb⟩
end DV

set_option maxHeartbeats 4000000
namespace DV
open PySem
/-! Tables drawn; tables known. -/
structure TabIn (L : List Nat) (t : Tab) : Prop where
  ok : TabOk L t
  ex : ExIn L t.lefts.length t.rights.length t.exc
/-! ### is_table -/
@[simp] theorem wp_sliceL (a : Ex) (lo hi : Px) {σ : En} {S : Sto} {P : List D → Sto → Prop} {E : Str → Sto → Prop} : (sliceL a lo hi σ S).wp P E = (a σ S).wp (fun x S1 => (lo σ S1).wp (fun l S2 => (hi σ S2).wp (fun h S3 => (match seqOf S3 x with
    | some ds => (match x with
      | .py (.tuple _) => R.no
      | _ => if ds.length ≤ sizeLine then .ok (cutP ds l h) S3 else .no)
    | none => .no).wp P E) E) E) E := by
  unfold sliceL
  rw [wp_bind]
  congr 1
  funext x S1
  rw [wp_bind]
  congr 1
  funext l S2
  rw [wp_bind]
  try rfl
@[simp] theorem wp_noP {σ : En} {S : Sto} {P : Option Int → Sto → Prop} {E : Str → Sto → Prop} : (noP σ S).wp P E = P none S := id rfl
@[simp] theorem wp_someP (a : Ex) {σ : En} {S : Sto} {P : Option Int → Sto → Prop} {E : Str → Sto → Prop} : (someP a σ S).wp P E = (a σ S).wp (fun d S1 => ∃ i, d = .py (.int i) ∧ P (some i) S1) E := by
  unfold someP
  rw [wp_bind]
  congr 1
  funext d S1
  split
  · exact propext ⟨fun h => ⟨_, rfl, h⟩, fun ⟨k, e, h⟩ => by cases e; exact h⟩
  · rename_i hn
    exact propext ⟨fun h => h.elim, fun ⟨k, e, h⟩ => (hn k e).elim⟩
/-! ### what is told -/
end DV

set_option maxHeartbeats 4000000
namespace DV
open PySem
end DV

set_option maxHeartbeats 4000000
namespace DV
open PySem
/-! The first pair unlike. -/
end DV

set_option maxHeartbeats 4000000
namespace DV
open PySem
end DV

set_option maxHeartbeats 4000000
namespace DV
open PySem
/-! Idle exceptions: the plain theory. -/
def tl (t : Tab) (es : List Exc) (l r : Nat) : Int := (hit es (.l l) (.l r)).getD ((hit es (.l l) (.n (clsIn t.rights r))).getD ((hit es (.n (clsIn t.lefts l)) (.l r)).getD ((t.gaps.getD (clsIn t.lefts l) []).getD (clsIn t.rights r) 0)))
theorem hit_app (A B : List Exc) (a b : Ky) : hit (A ++ B) a b = (hit A a b).or (hit B a b) := by
  unfold hit
  rw [List.find?_append]
  cases A.find? (fun e => decide (e.1 = a ∧ e.2.1 = b)) <;> rfl
theorem hit_cons (x : Exc) (B : List Exc) (a b : Ky) : hit (x :: B) a b = if kk x = (a, b) then some x.2.2 else hit B a b := by
  unfold hit
  rw [List.find?_cons]
  by_cases h : x.1 = a ∧ x.2.1 = b
  · simp [h, kk]
  · have : ¬ kk x = (a, b) := fun e => h ⟨congrArg Prod.fst e, congrArg Prod.snd e⟩
    simp [h, this]
theorem hit_none {A : List Exc} {a b : Ky} : hit A a b = none ↔ ∀ e ∈ A, kk e ≠ (a, b) := by
  unfold hit
  rw [Option.map_eq_none_iff, List.find?_eq_none]
  constructor
  · intro h e he q
    exact h e he (decide_eq_true ⟨congrArg Prod.fst q, congrArg Prod.snd q⟩)
  · intro h e he q
    simp at q
    exact h e he (Prod.ext q.1 q.2)
def ty : Ky × Ky → Nat
  | (.l _, .l _) => 0
  | (.l _, .n _) => 1
  | (.n _, .l _) => 2
  | (.n _, .n _) => 3
/-- x stands behind A, ahead of B, and its key is its own -/
structure Mid (A B : List Exc) (x : Exc) : Prop where
  a : ∀ e ∈ A, kk e ≠ kk x ∧ ty (kk e) ≤ ty (kk x)
  b : ∀ e ∈ B, kk e ≠ kk x
theorem Mid.sub {A A' B : List Exc} {x : Exc} (h : Mid A B x) (s : A'.Sublist A) : Mid A' B x := ⟨fun e he => h.a e (s.subset he), h.b⟩
theorem Mid.at_ {A B : List Exc} {x : Exc} (h : Mid A B x) (a b : Ky) : hit (A ++ x :: B) a b = if kk x = (a, b) then some x.2.2 else hit (A ++ B) a b := by
  rw [hit_app, hit_cons, hit_app]
  split
  · rename_i e
    rw [hit_none.mpr fun y hy => e ▸ (h.a y hy).1]
    rfl
  · rfl
theorem Mid.later {A B : List Exc} {x : Exc} (h : Mid A B x) {a b : Ky} (q : ty (kk x) < ty (a, b)) : hit (A ++ B) a b = hit B a b := by
  rw [hit_app, hit_none.mpr fun y hy e => by
    have := (h.a y hy).2
    rw [e] at this
    omega]
  rfl
/-! ### leaving out from the last one on -/
end DV

set_option maxHeartbeats 4000000
namespace DV
open PySem
/-! Idle exceptions: the program. -/
theorem keyI_shape (L : List Nat) (p : Ky × Ky) : ∃ u v, keyI L p = [(ty p : Int), u, v] := by
  obtain ⟨a, b⟩ := p
  cases a <;> cases b <;> exact ⟨_, _, rfl⟩
theorem ExIn.mid {L : List Nat} {nl nr : Nat} {es A B B' : List Exc} {x : Exc} (h : ExIn L nl nr es) (nd : L.Nodup) (e : es = A ++ x :: B) (s : B'.Sublist B) : Mid A B' x := by
  have srt := h.srt nd
  rw [e, List.map_append, List.map_append, List.pairwise_append] at srt
  obtain ⟨_, s2, s3⟩ := srt
  rw [List.map_cons, List.map_cons, List.pairwise_cons] at s2
  have irr : ∀ p : Ky × Ky, HT.lexLt (keyI L p) (keyI L p) = true → False := fun p hp => by
    obtain ⟨u, v, e⟩ := keyI_shape L p
    rw [e, lex3] at hp
    omega
  refine ⟨fun y hy => ?_, fun y hy q => ?_⟩
  · have z := s3 (keyI L (kk y)) (List.mem_map.mpr ⟨_, List.mem_map.mpr ⟨y, hy, rfl⟩, rfl⟩) (keyI L (kk x)) (List.mem_cons_self ..)
    refine ⟨fun q => irr (kk x) (by rw [q] at z; exact z), ?_⟩
    obtain ⟨u, v, e1⟩ := keyI_shape L (kk y)
    obtain ⟨u', v', e2⟩ := keyI_shape L (kk x)
    rw [e1, e2, lex3] at z
    omega
  · have z := s2.1 (keyI L (kk y)) (List.mem_map.mpr ⟨_, List.mem_map.mpr ⟨y, s.subset hy, rfl⟩, rfl⟩)
    exact irr (kk x) (by rw [q] at z; exact z)
theorem TabIn.cut {L : List Nat} {t : Tab} {es : List Exc} (h : TabIn L t) (s : es.Sublist t.exc) : TabIn L { t with exc := es } := ⟨⟨h.ok.lp, h.ok.rp, h.ok.gl, h.ok.gr, h.ok.gb⟩, h.ex.cut s⟩
/-! ### the program's own -/
@[simp ↓] theorem wp_sliceE (a : Ex) (lo hi : Px) {σ : En} {S : Sto} {P : D → Sto → Prop} {E : Str → Sto → Prop} : (sliceE a lo hi σ S).wp P E = (a σ S).wp (fun x S1 => (lo σ S1).wp (fun l S2 => (hi σ S2).wp (fun h S3 => (sliceV x l h S3).wp P E) E) E) E := by
  unfold sliceE
  rw [wp_bind]
  congr 1
  funext x S1
  rw [wp_bind]
  congr 1
  funext l S2
  rw [wp_bind]
theorem cut_from {α : Type} (xs : List α) (n : Nat) : cutP xs (some (n : Int)) none = xs.drop n := by
  unfold cutP
  rw [HT.sIx_nat, HT.sIx_none]
  by_cases h : n ≤ xs.length
  · rw [Nat.min_eq_left h, List.take_of_length_le (by rw [List.length_drop]; omega)]
  · rw [Nat.min_eq_right (by omega), List.drop_length, List.drop_of_length_le (by omega), List.take_nil]
@[simp ↓] theorem wp_rrng1 (e : Ex) {σ : En} {S : Sto} {P : List D → Sto → Prop} {E : Str → Sto → Prop} : (rrng1I e σ S).wp P E = (e σ S).wp (fun d S1 => ∃ j, d = .py (.int j) ∧ (-(2 ^ 62) ≤ j ∧ j ≤ 16777216) ∧ P (rngV 0 j.toNat).reverse S1) E := by
  unfold rrng1I
  rw [wp_bind]
  congr 1
  funext d S1
  split
  · rw [wp_iteR]
    split
    · rename_i h
      exact propext ⟨fun p => ⟨_, rfl, h, p⟩, fun ⟨j, e, _, p⟩ => by cases e; exact p⟩
    · rename_i h
      exact propext ⟨fun p => p.elim, fun ⟨j, e, h', p⟩ => by cases e; exact h h'⟩
  · rename_i hn
    exact propext ⟨fun h => h.elim, fun ⟨k, e, _, h⟩ => (hn k e).elim⟩
end DV

set_option maxHeartbeats 4000000
namespace DV
open PySem
/-! The law's own measure of a text. -/
@[simp ↓] theorem wp_dictF (f : Ex) {σ : En} {S : Sto} {P : D → Sto → Prop} {E : Str → Sto → Prop} : (dictF f σ S).wp P E = (f σ S).wp (fun d S1 => ∃ ds kv, d = .py (.list ds) ∧ pairsOf ds = some kv ∧ (kv.map Prod.fst).Nodup ∧ P (.py (.dict (kv.map fun p => (keyP p.1, p.2)))) S1) E := by
  unfold dictF
  rw [wp_bind]
  congr 1
  funext d S1
  rcases d with d | n | n
  · cases d
    case list ds =>
      cases h : pairsOf ds with
      | none =>
        simp only [h]
        exact propext ⟨fun h => h.elim, fun ⟨_, _, e, h2, _⟩ => by cases e; rw [h] at h2; cases h2⟩
      | some kv =>
        simp only [h]
        rw [wp_iteR]
        split
        · rename_i hz
          exact propext ⟨fun p => ⟨_, _, rfl, h, hz, p⟩, fun ⟨_, _, e, h2, _, p⟩ => by cases e; rw [h] at h2; cases h2; exact p⟩
        · rename_i hz
          exact propext ⟨fun p => p.elim, fun ⟨_, _, e, h2, z, p⟩ => by cases e; rw [h] at h2; cases h2; exact hz z⟩
    all_goals exact propext ⟨fun h => h.elim, fun ⟨_, _, e, _⟩ => by cases e⟩
  · exact propext ⟨fun h => h.elim, fun ⟨_, _, e, _⟩ => by cases e⟩
  · exact propext ⟨fun h => h.elim, fun ⟨_, _, e, _⟩ => by cases e⟩
def dgetV (x y : D) (S2 : Sto) : R D := match x, y with
  | .py (.dict kvs), .py k => (match keyOf k with
    | some k => (match dlook kvs k with
      | some d => .ok (.py d) S2
      | none => .no)
    | none => .no)
  | _, _ => .no
@[simp ↓] theorem wp_dgetF (a b : Ex) {σ : En} {S : Sto} {P : D → Sto → Prop} {E : Str → Sto → Prop} : (dgetF a b σ S).wp P E = (a σ S).wp (fun x S1 => (b σ S1).wp (fun y S2 => (dgetV x y S2).wp P E) E) E := by
  unfold dgetF
  rw [wp_bind]
  congr 1
  funext x S1
  rw [wp_bind]
  rfl
theorem dlook_find (k : L2.Key) : ∀ kv : List (L2.Key × PyData), dlook (kv.map fun p => (keyP p.1, p.2)) k = (kv.find? fun p => decide (p.1 = k)).map (·.2)
  | [] => rfl
  | p :: kv => by
    rw [List.map_cons, dlook, keyOf_keyP, List.find?_cons]
    by_cases h : p.1 = k
    · rw [if_pos (by rw [h])]
      simp [h]
    · rw [if_neg (fun e => h (Option.some.inj e)), dlook_find k kv]
      simp [h]
theorem cutS_from {l : List Nat} (n : Nat) : L2.cutS (⟨l.toArray⟩ : Str) (some (n : Int)) none = ⟨(l.drop n).toArray⟩ := by
  have h := cut_from l n
  unfold cutP at h
  unfold L2.cutS
  have e : (⟨l.toArray⟩ : Str).length = l.length := by simp [Str.length]
  rw [e]
  simp only [List.toList_toArray]
  rw [h]
end DV

set_option maxHeartbeats 4000000
namespace DV
open PySem
/-! Words and lines. -/
def jn : List (List Nat) → List Nat
  | [] => []
  | [w] => w
  | w :: v :: r => w ++ 32 :: jn (v :: r)
abbrev st (w : List Nat) : Str := ⟨w.toArray⟩
theorem st_app (a b : List Nat) : st a ++ st b = st (a ++ b) := by
  show (⟨a.toArray ++ b.toArray⟩ : Str) = ⟨(a ++ b).toArray⟩
  simp
theorem empty_st : (Str.ofString "") = st [] := by decide +kernel
/-- words of a face -/
structure Wds (f : Face) (ws : List (List Nat)) : Prop where
  ne : ∀ w ∈ ws, w ≠ []
  mem : ∀ w ∈ ws, ∀ c ∈ w, c ∈ f.lets
  short : ∀ w ∈ ws, w.length ≤ 100
  few : ws.length ≤ 60
theorem jn_len : ∀ {ws : List (List Nat)} {n : Nat}, (∀ w ∈ ws, w.length ≤ n) → (jn ws).length ≤ ws.length * (n + 1)
  | [], n, _ => by simp [jn]
  | [w], n, h => by
    have := h w (List.mem_cons_self ..)
    simp [jn]
    omega
  | w :: v :: r, n, h => by
    have h1 := h w (List.mem_cons_self ..)
    have h2 := jn_len (ws := v :: r) fun x hx => h x (List.mem_cons_of_mem _ hx)
    simp only [jn, List.length_append, List.length_cons, Nat.add_mul] at h2 ⊢
    omega
theorem Wds.len {f : Face} {ws : List (List Nat)} (h : Wds f ws) : (jn ws).length ≤ 10000 := by
  have h1 := jn_len h.short
  have h2 : ws.length * (100 + 1) ≤ 60 * 101 := Nat.mul_le_mul_right _ h.few
  omega
@[simp ↓] theorem wp_methSL (g : D → List D → Sto → R (List D)) (o : Ex) (a : Ax) {σ : En} {S : Sto} {P : List D → Sto → Prop} {E : Str → Sto → Prop} : (methSL g o a σ S).wp P E = (o σ S).wp (fun x S1 => ∃ z, x = .py (.str z) ∧ (a σ S1).wp (fun ds S2 => (g x ds S2).wp P E) E) E := by
  unfold methSL
  rw [wp_bind]
  congr 1
  funext d S1
  split
  · rw [wp_bind]
    exact propext ⟨fun h => ⟨_, rfl, h⟩, fun ⟨z, e, h⟩ => by cases e; exact h⟩
  · rename_i hn
    exact propext ⟨fun h => h.elim, fun ⟨z, e, _⟩ => (hn z e).elim⟩
end DV

set_option maxHeartbeats 4000000
namespace DV
open PySem
/-! Lines that take words as long as they fit. -/
/-- lines of so many words -/
structure Lns (f : Face) (ls : List (List Nat)) (k : Nat) : Prop where
  has : ∀ l ∈ ls, ∀ c ∈ l, f.has c
  len : ∀ l ∈ ls, l.length ≤ k * 101
  few : ls.length ≤ k
theorem Wds.pre {f : Face} {ws pre post : List (List Nat)} (h : Wds f ws) (e : ws = pre ++ post) : Wds f pre := by
  subst e
  exact ⟨fun w hw => h.ne w (List.mem_append_left _ hw), fun w hw => h.mem w (List.mem_append_left _ hw), fun w hw => h.short w (List.mem_append_left _ hw), by have := h.few; rw [List.length_append] at this; omega⟩
def sts (ls : List (List Nat)) : List PyData := ls.map fun w => PyData.str (st w)
@[simp] theorem sts_len (ls : List (List Nat)) : (sts ls).length = ls.length := by simp [sts]
end DV

set_option maxHeartbeats 4000000
namespace DV
open PySem
/-! How wide words and lines are. -/
/-- widths and gaps as they are drawn -/
structure Wid (f : Face) (P : List Pair) : Prop where
  w : 1 ≤ f.w ∧ f.w ≤ 99
  s : ∀ c ∈ f.lets, 10 ≤ sw f c ∧ sw f c ≤ 99
  g : ∀ a b, -9 ≤ bt P a b ∧ bt P a b ≤ 9
end DV

set_option maxHeartbeats 4000000
namespace DV
open PySem
/-! Words and rooms drawn. -/
@[simp ↓] theorem wp_methS (g : D → List D → Sto → R D) (o : Ex) (a : Ax) {σ : En} {S : Sto} {P : D → Sto → Prop} {E : Str → Sto → Prop} : (methS g o a σ S).wp P E = (o σ S).wp (fun x S1 => ∃ z, x = .py (.str z) ∧ (a σ S1).wp (fun ds S2 => (g x ds S2).wp P E) E) E := by
  unfold methS
  rw [wp_bind]
  congr 1
  funext d S1
  split
  · rw [wp_bind]
    exact propext ⟨fun h => ⟨_, rfl, h⟩, fun ⟨z, e, h⟩ => by cases e; exact h⟩
  · rename_i hn
    exact propext ⟨fun h => h.elim, fun ⟨z, e, _⟩ => (hn z e).elim⟩
theorem strsOf_lt : ∀ rs : List Nat, strsOf (rs.map lt) = some (rs.map fun c => st [c])
  | [] => rfl
  | c :: rs => by
    show (strsOf (rs.map lt)).map (st [c] :: ·) = _
    rw [strsOf_lt rs]
    rfl
theorem join_empty : ∀ rs : List Nat, Str.join (st []) (rs.map fun c => st [c]) = st rs
  | [] => rfl
  | [c] => rfl
  | c :: d :: r => by
    show st [c] ++ st [] ++ Str.join (st []) ((d :: r).map fun c => st [c]) = _
    rw [join_empty (d :: r), st_app, st_app]
    rfl
theorem joinD_lts {rs : List Nat} (h : rs.length ≤ 1000) (S : Sto) : joinD (.py (.str (Str.ofString ""))) [.py (.list (rs.map lt))] S = .ok (.py (.str (st rs))) S := by
  unfold joinD
  simp only [strsOf_lt]
  rw [if_pos]
  · congr 3
    rw [empty_st]
    exact (StrLaws.glued_eq_join _ _).trans (join_empty rs)
  · have e : ((rs.map fun c => st [c]).map fun x => x.length).sum = rs.length := by
      clear h
      induction rs with
      | nil => rfl
      | cons c r ih =>
        simp only [List.map_cons, List.sum_cons, ih, List.length_cons]
        simp [Str.length]
        omega
    rw [e, List.length_map, empty_st]
    simp [Str.length]
    omega
end DV

set_option maxHeartbeats 4000000
namespace DV
open PySem
end DV

set_option maxHeartbeats 4000000
namespace DV
open PySem
end DV

set_option maxHeartbeats 4000000
namespace DV
open PySem
/-! Texts, refused or not; odd things. -/
theorem wp_exq {α : Type} {r : R α} {c : Str} {S : Sto} (h : r.wp (fun _ _ => False) (fun c' T => c' = c ∧ T = S)) : r = .ex c S := by
  cases r with
  | ok a T => exact h.elim
  | ex c' T =>
    obtain ⟨rfl, rfl⟩ := h
    rfl
  | no => exact h.elim
instance (f : Face) (c : Nat) : Decidable (f.has c) := by unfold Face.has; infer_instance
theorem lt_eqq (a c : Nat) (S : Sto) : eqD (.py (lt a)) (.py (lt c)) S = .ok (.py (.bool (decide (a = c)))) S := by
  rw [eqD_str]
  congr 3
  simp
theorem is_sign_any (f : Face) (c : Nat) (S : Sto) : F_is_sign [.py f.py, .py (lt c)] S = .ok (.py (.bool (decide (f.has c)))) S := by
  by_cases h : f.has c
  · rw [is_sign_eq h, decide_eq_true h]
  · have pl := place_gen (f := f) (t := lt c) (p := fun a => decide (a = c)) (fun q _ S => lt_eqq q.1 c S)
    have hn : f.lets.findIdx? (fun a => decide (a = c)) = none := by
      rw [List.findIdx?_eq_none_iff]
      intro a ha
      simp
      intro e
      subst e
      exact h (.inr ha)
    rw [hn] at pl
    have h32 : c ≠ 32 := fun e => h (.inl e)
    unfold F_is_sign b_is_sign
    refine fn_eq (wp_fn ?_)
    simp [init, h32, pl, plcD, h]
    exact ⟨.self, rfl⟩
/-- is a thing a text of the face -/
def isTx (f : Face) : PyData → Bool
  | .str x => x.cps.toList.all fun c => decide (f.has c)
  | _ => false
/-- a text of the thing is not too long -/
def Short (n : Nat) (d : PyData) : Prop := ∀ x, d = .str x → x.length ≤ n
theorem isTx_tx {f : Face} {d : PyData} (h : isTx f d = true) : ∃ l, d = tx l ∧ ∀ c ∈ l, f.has c := by
  cases d with
  | str x =>
    obtain ⟨⟨l⟩⟩ := x
    exact ⟨l, rfl, fun c hc => by simpa using List.all_eq_true.mp h c hc⟩
  | _ => cases h
theorem is_text_any {f : Face} {d : PyData} (h : Short 10000 d) (S : Sto) : F_is_text [.py f.py, .py d] S = .ok (.py (.bool (isTx f d))) S := by
  unfold F_is_text b_is_text
  refine fn_eq (wp_fn ?_)
  cases d with
  | str x =>
    obtain ⟨⟨l⟩⟩ := x
    have hl := h _ rfl
    simp [Str.length] at hl
    simp [init, isB]
    refine ⟨by simp [Str.length]; omega, ?_⟩
    refine wp_pureM1 (D.py ∘ lt) (fun c => D.py (.bool (decide (f.has c)))) (fun c hc => wp_eq (by simp [is_sign_any])) ?_
    have e2 : (l.map fun c => D.py (.bool (decide (f.has c)))) = ((l.map fun c => decide (f.has c)).map PyData.bool).map D.py := by simp
    rw [e2, pysOf_map]
    simp only [allD_bools, wp_ok]
    refine ⟨S, .self, rfl, ?_, rfl⟩
    simp [isTx, List.all_map]
  | none => simp [init, isB, isTx]; exact ⟨.self, rfl⟩
  | bool b => simp [init, isB, isTx]; exact ⟨.self, rfl⟩
  | int i => simp [init, isB, isTx]; exact ⟨.self, rfl⟩
  | list ds => simp [init, isB, isTx]; exact ⟨.self, rfl⟩
  | tuple ds => simp [init, isB, isTx]; exact ⟨.self, rfl⟩
  | dict ds => simp [init, isiD, tyN, isB, isTx]; exact ⟨.self, rfl⟩
theorem need_text_any {f : Face} {d : PyData} (h : Short 10000 d) (S : Sto) : F_need_text [.py f.py, .py d] S = if isTx f d = true then .ok (.py .none) S else .ex "NoLine" S := by
  have it := is_text_any (f := f) h
  unfold F_need_text b_need_text
  by_cases ht : isTx f d = true
  · rw [if_pos ht]
    refine fn_eq (wp_fn ?_)
    simp [init, it, ht]
    exact .self
  · rw [if_neg ht]
    refine wp_exq (wp_fn ?_)
    simp [init, it, ht]
    exact .self
theorem begins_any {f : Face} {P : List Pair} {d : PyData} (nd : f.lets.Nodup) (b : ∀ c ∈ f.lets, 97 ≤ c) (h : Short 10000 d) (S : Sto) :
    (isTx f d = false → F_begins [.py f.py, .py (encP P), .py d] S = .ex "NoLine" S) ∧ ∀ l, d = tx l → (∀ c ∈ l, f.has c) → F_begins [.py f.py, .py (encP P), .py d] S = .ok (.py (tupI (begs f P l))) S := by
  have nt := need_text_any (f := f) h
  refine ⟨fun ht => ?_, fun l e hl => ?_⟩
  · unfold F_begins b_begins
    refine wp_exq (wp_fn ?_)
    simp [init, nt, ht]
    exact .self
  · subst e
    have hh := h _ rfl
    simp [Str.length] at hh
    have ht : isTx f (tx l) = true := by
      simp [isTx]
      exact hl
    have bi := begins_in_eq (P := P) nd hl b hh
    unfold F_begins b_begins
    refine fn_eq (wp_fn ?_)
    simp [init, nt, ht, bi]
    exact ⟨.self, rfl⟩
@[simp] theorem lstOf_list (ds : List PyData) (S : Sto) : lstOf S (.py (.list ds)) = some (ds.map .py) := rfl
@[simp ↓] theorem wp_catL (a b : Ex) {σ : En} {S : Sto} {P : List D → Sto → Prop} {E : Str → Sto → Prop} : (catL a b σ S).wp P E = (a σ S).wp (fun x S1 => (b σ S1).wp (fun y S2 => ∃ xs ys, lstOf S2 x = some xs ∧ lstOf S2 y = some ys ∧ xs.length + ys.length ≤ sizeLine ∧ P (xs ++ ys) S2) E) E := by
  unfold catL
  rw [wp_bind]
  congr 1
  funext x S1
  rw [wp_bind]
  congr 1
  funext y S2
  split
  · rename_i xs ys h1 h2
    rw [wp_iteR]
    split
    · rename_i hz
      exact propext ⟨fun p => ⟨xs, ys, h1, h2, hz, p⟩, fun ⟨_, _, e1, e2, _, p⟩ => by rw [h1] at e1; rw [h2] at e2; cases e1; cases e2; exact p⟩
    · rename_i hz
      exact propext ⟨fun p => p.elim, fun ⟨_, _, e1, e2, q, p⟩ => by rw [h1] at e1; rw [h2] at e2; cases e1; cases e2; exact hz q⟩
  · rename_i hn
    exact propext ⟨fun h => h.elim, fun ⟨_, _, e1, e2, _, _⟩ => (hn _ _ e1 e2).elim⟩
@[simp ↓] theorem wp_repL (a b : Ex) {σ : En} {S : Sto} {P : List D → Sto → Prop} {E : Str → Sto → Prop} : (repL a b σ S).wp P E = (a σ S).wp (fun x S1 => (b σ S1).wp (fun y S2 => ∃ xs k, lstOf S2 x = some xs ∧ y = .py (.int k) ∧ (-1000 ≤ k ∧ k ≤ 1000 ∧ xs.length ≤ 1000) ∧ P (List.replicate k.toNat xs).flatten S2) E) E := by
  unfold repL
  rw [wp_bind]
  congr 1
  funext x S1
  rw [wp_bind]
  congr 1
  funext y S2
  split
  · rename_i xs k h1
    rw [wp_iteR]
    split
    · rename_i hz
      exact propext ⟨fun p => ⟨xs, k, h1, rfl, hz, p⟩, fun ⟨_, _, e1, e2, _, p⟩ => by rw [h1] at e1; cases e1; cases e2; exact p⟩
    · rename_i hz
      exact propext ⟨fun p => p.elim, fun ⟨_, _, e1, e2, q, p⟩ => by rw [h1] at e1; cases e1; cases e2; exact hz q⟩
  · rename_i hn
    exact propext ⟨fun h => h.elim, fun ⟨_, _, e1, e2, _, _⟩ => (hn _ _ e1 e2).elim⟩
theorem law_text_ok {S : Sto} {n : Nat} {f : Face} {most : Int} (hB : BoxAt S n) (h2 : f.ls.length ≤ 200) (h3 : 0 ≤ most) (h4 : most ≤ 1000) :
    (F_law_text [.obj n, .py f.py, .py (.int most)] S).wp (fun d S' => ∃ l, d = .py (tx l) ∧ (∀ c ∈ l, f.has c) ∧ (l.length : Int) ≤ most ∧ Ch n S S') noE := by
  have hn := hB.lt
  have tk : ∀ {T : Sto} (m : Int), Ch n S T → 0 < m → m < 1073741824 → (F_law_take [.obj n, .py (.int m)] T).wp (fun d S2 => ∃ r, d = .py (PyData.int r) ∧ (0 ≤ r ∧ r < m) ∧ Ch n T S2) noE := fun m c a b =>
    (take_ok c.box a b).to fun d S2 ⟨r, e, r0, r1, c2, _⟩ => ⟨r, e, ⟨r0, r1⟩, c2⟩
  have c0 : Ch n S S := Ch.refl hB
  unfold F_law_text b_law_text
  refine wp_fn ?_
  simp [init, law_letters_eq]
  refine ⟨by omega, ?_⟩
  have e1 : f.lets.map (D.py ∘ lt) ++ f.lets.map (D.py ∘ lt) = ((f.lets ++ f.lets).map lt).map D.py := by simp
  rw [e1, pysOf_map]
  have ad : ∀ T, addD (.py (.list ((f.lets ++ f.lets).map lt))) (.py (.list [.str (Str.ofString " ")])) T = .ok (.py (.list ((f.lets ++ f.lets ++ [32]).map lt))) T := fun T => by
    unfold addD
    simp only
    rw [if_pos (by rw [sl_big']; simp; omega), blank_str]
    simp
  have hl : (f.lets ++ f.lets ++ [32]).length = f.ls.length + f.ls.length + 1 := by simp; omega
  have hm : ∀ c ∈ f.lets ++ f.lets ++ [32], f.has c := fun c hc => by
    simp at hc
    rcases hc with hc | hc
    · exact .inr (by simpa using hc)
    · exact .inl hc
  generalize f.lets ++ f.lets ++ [32] = sg at *
  simp only [ad, wp_ok]
  refine (tk (most + 1) c0 (by omega) (by omega)).to ?_
  rintro _ T1 ⟨r, rfl, hr, c1⟩
  refine ⟨r, rfl, by omega, ?_⟩
  refine (draws (n := n) lt (fun c => f.has c) c1.box fun y S' _ c' => ?_).to ?_
  · simp
    refine (tk sg.length (c1.trans c') (by omega) (by omega)).to ?_
    rintro _ T3 ⟨j, rfl, hj, c3⟩
    have hl2 : j.toNat < sg.length := by omega
    have it : itemD (.py (.list (sg.map lt))) (.py (.int j)) T3 = .ok (.py (lt sg[j.toNat])) T3 := itemD_listI hj.1 (by simp [hl2])
    simp [it]
    exact ⟨hm _ (List.getElem_mem hl2), c3⟩
  · rintro _ T3 ⟨rs, rfl, lr, hrs, c3⟩
    have lr : rs.length = r.toNat := by simpa [rngV] using lr
    have jd := joinD_lts (rs := rs) (by omega)
    have ee : (rs.map fun r => D.py (lt r)) = (rs.map lt).map D.py := by simp
    rw [ee, pysOf_map]
    simp only
    rw [jd]
    simp only [wp_ok]
    obtain ⟨U, k1, k2, k3⟩ := (c1.trans c3).cut hn
    exact ⟨U, k1, rfl, rs, rfl, hrs, by omega, k2⟩
end DV

set_option maxHeartbeats 4000000
namespace DV
open PySem
/-! Things whose text may be asked, dicts among them. -/
mutual
theorem leaves_mono : ∀ (d : PyData), d.leavesShort 13 = true → d.leavesShort 25 = true
  | .none, _ => by rw [PyData.leavesShort.eq_1]
  | .bool b, _ => by rw [PyData.leavesShort.eq_2]
  | .int i, h => by
    rw [PyData.leavesShort.eq_3, decide_eq_true_eq] at h ⊢
    omega
  | .str x, h => by
    rw [PyData.leavesShort.eq_4] at h ⊢
    exact h
  | .list xs, h => by
    rw [PyData.leavesShort.eq_5] at h ⊢
    exact leaves_monoAll xs h
  | .tuple xs, h => by
    rw [PyData.leavesShort.eq_6] at h ⊢
    exact leaves_monoAll xs h
  | .dict kvs, h => by
    rw [PyData.leavesShort.eq_7] at h ⊢
    exact leaves_monoKv kvs h
theorem leaves_monoAll : ∀ (ds : List PyData), PyData.leavesShortAll 13 ds = true → PyData.leavesShortAll 25 ds = true
  | [], _ => by rw [PyData.leavesShortAll.eq_1]
  | d :: ds, h => by
    rw [PyData.leavesShortAll.eq_2, Bool.and_eq_true] at h ⊢
    exact ⟨leaves_mono d h.1, leaves_monoAll ds h.2⟩
theorem leaves_monoKv : ∀ (ds : List (PyData × PyData)), PyData.leavesShortKv 13 ds = true → PyData.leavesShortKv 25 ds = true
  | [], _ => by rw [PyData.leavesShortKv.eq_1]
  | (k, v) :: ds, h => by
    rw [PyData.leavesShortKv.eq_2, Bool.and_eq_true, Bool.and_eq_true] at h ⊢
    exact ⟨⟨leaves_mono k h.1.1, leaves_mono v h.1.2⟩, leaves_monoKv ds h.2⟩
end
structure FitX (d : PyData) (k w : Nat) : Prop where
  sh : d.showable = true
  dp : d.depth ≤ k
  ls : d.leavesShort 25 = true
  bk : d.bulk ≤ w
structure FitXL (ds : List PyData) (k w : Nat) : Prop where
  sh : PyData.showableAll ds = true
  dp : PyData.depthAll ds ≤ k
  ls : PyData.leavesShortAll 25 ds = true
  bk : PyData.bulkAll ds ≤ w
theorem Fit.x {d : PyData} {k w : Nat} (h : Fit d k w) : FitX d k w := ⟨h.sh, h.dp, leaves_mono d h.ls, h.bk⟩
theorem FitX.mono {d : PyData} {k k' w w' : Nat} (h : FitX d k w) (hk : k ≤ k') (hw : w ≤ w') : FitX d k' w' := ⟨h.sh, Nat.le_trans h.dp hk, h.ls, Nat.le_trans h.bk hw⟩
theorem FitXL.nil {k w : Nat} : FitXL [] k w := ⟨PyData.showableAll.eq_1, by rw [PyData.depthAll.eq_1]; exact Nat.zero_le _, PyData.leavesShortAll.eq_1 25, by rw [PyData.bulkAll.eq_1]; exact Nat.zero_le _⟩
theorem FitXL.cons {d : PyData} {ds : List PyData} {k w w' : Nat} (h : FitX d k w) (hs : FitXL ds k w') : FitXL (d :: ds) k (w + 1 + w') := by
  refine ⟨?_, ?_, ?_, ?_⟩
  · rw [PyData.showableAll.eq_2, h.sh, hs.sh]
    rfl
  · rw [PyData.depthAll.eq_2]
    exact Nat.max_le.mpr ⟨h.dp, hs.dp⟩
  · rw [PyData.leavesShortAll.eq_2, h.ls, hs.ls]
    rfl
  · rw [PyData.bulkAll.eq_2]
    have := h.bk
    have := hs.bk
    omega
theorem FitX.list {ds : List PyData} {k w : Nat} (h : FitXL ds k w) : FitX (.list ds) (k + 1) w :=
  ⟨by rw [PyData.showable.eq_5]; exact h.sh, by rw [PyData.depth.eq_1]; exact Nat.succ_le_succ h.dp, by rw [PyData.leavesShort.eq_5]; exact h.ls, by rw [PyData.bulk.eq_2]; exact h.bk⟩
theorem FitX.tuple {ds : List PyData} {k w : Nat} (h : FitXL ds k w) : FitX (.tuple ds) (k + 1) w :=
  ⟨by rw [PyData.showable.eq_6]; exact h.sh, by rw [PyData.depth.eq_2]; exact Nat.succ_le_succ h.dp, by rw [PyData.leavesShort.eq_6]; exact h.ls, by rw [PyData.bulk.eq_3]; exact h.bk⟩
/-- two things in a list -/
theorem FitX.two {a b : PyData} {k w v : Nat} (ha : FitX a k w) (hb : FitX b k v) : FitX (.list [a, b]) (k + 1) (w + 1 + (v + 1 + 0)) := FitX.list (.cons ha (.cons hb .nil))
theorem FitX.repr {d : PyData} {k w : Nat} (h : FitX d k w) (hk : k ≤ 60) (hw : w ≤ 500000) (S : Sto) : reprX [.py d] S = .ok (.py (.str d.shown)) S := by
  have hz : d.shown.length ≤ sizeLine := by
    have h1 := PyData.shown_le_bulk 25 (by decide) d h.ls
    have h2 := h.bk
    rw [sizeLine_eq]
    have h3 : (25 + 2) * d.bulk ≤ 27 * 500000 := Nat.mul_le_mul_left _ (by omega)
    omega
  have e : deep S 8 (.py d) = some d := rfl
  unfold reprX
  simp only [e]
  rw [if_pos ⟨h.sh, Nat.le_trans h.dp hk, hz⟩]
end DV

set_option maxHeartbeats 4000000
namespace DV
open PySem
/-! The law's own loop, where it makes lambdas; what is said. -/
def Low (d : PyData) : Prop := ∀ x, d = .str x → ∀ c ∈ x.cps.toList, c ≤ 300
end DV

set_option maxHeartbeats 4000000
namespace DV
open PySem
/-! Things spoilt at some place. -/
theorem depth_app : ∀ xs ys : List PyData, PyData.depthAll (xs ++ ys) = max (PyData.depthAll xs) (PyData.depthAll ys)
  | [], ys => by rw [List.nil_append, PyData.depthAll.eq_1, Nat.zero_max]
  | x :: xs, ys => by rw [List.cons_append, PyData.depthAll.eq_2, PyData.depthAll.eq_2, depth_app xs ys]; omega
theorem show_app : ∀ xs ys : List PyData, PyData.showableAll (xs ++ ys) = (PyData.showableAll xs && PyData.showableAll ys)
  | [], ys => by rw [List.nil_append, PyData.showableAll.eq_1, Bool.true_and]
  | x :: xs, ys => by rw [List.cons_append, PyData.showableAll.eq_2, PyData.showableAll.eq_2, show_app xs ys, Bool.and_assoc]
theorem leaves_app (n : Nat) : ∀ xs ys : List PyData, PyData.leavesShortAll n (xs ++ ys) = (PyData.leavesShortAll n xs && PyData.leavesShortAll n ys)
  | [], ys => by rw [List.nil_append, PyData.leavesShortAll.eq_1, Bool.true_and]
  | x :: xs, ys => by rw [List.cons_append, PyData.leavesShortAll.eq_2, PyData.leavesShortAll.eq_2, leaves_app n xs ys, Bool.and_assoc]
/-- the parts of a sequence, how much they weigh -/
structure Part (ds : List PyData) (k : Nat) : Prop where
  sh : PyData.showableAll ds = true
  dp : PyData.depthAll ds ≤ k
  ls : PyData.leavesShortAll 25 ds = true
theorem Part.app {xs ys : List PyData} {k : Nat} : Part (xs ++ ys) k ↔ Part xs k ∧ Part ys k := by
  constructor
  · intro ⟨a, b, c⟩
    rw [show_app, Bool.and_eq_true] at a
    rw [depth_app] at b
    rw [leaves_app, Bool.and_eq_true] at c
    exact ⟨⟨a.1, by omega, c.1⟩, ⟨a.2, by omega, c.2⟩⟩
  · intro ⟨⟨a, b, c⟩, ⟨d, e, f⟩⟩
    exact ⟨by rw [show_app, a, d]; rfl, by rw [depth_app]; omega, by rw [leaves_app, c, f]; rfl⟩
theorem Part.one {d : PyData} {k : Nat} : Part [d] k ↔ d.showable = true ∧ d.depth ≤ k ∧ d.leavesShort 25 = true := by
  constructor
  · intro ⟨a, b, c⟩
    rw [PyData.showableAll.eq_2, PyData.showableAll.eq_1, Bool.and_true] at a
    rw [PyData.depthAll.eq_2, PyData.depthAll.eq_1] at b
    rw [PyData.leavesShortAll.eq_2, PyData.leavesShortAll.eq_1, Bool.and_true] at c
    exact ⟨a, by omega, c⟩
  · intro ⟨a, b, c⟩
    exact ⟨by rw [PyData.showableAll.eq_2, PyData.showableAll.eq_1, a]; rfl, by rw [PyData.depthAll.eq_2, PyData.depthAll.eq_1]; omega, by rw [PyData.leavesShortAll.eq_2, PyData.leavesShortAll.eq_1, c]; rfl⟩
theorem Part.mono {ds : List PyData} {k j : Nat} (h : Part ds k) (hk : k ≤ j) : Part ds j := ⟨h.sh, Nat.le_trans h.dp hk, h.ls⟩
theorem FitX.part {d : PyData} {k w : Nat} (h : FitX d k w) : Part [d] k := Part.one.mpr ⟨h.sh, h.dp, h.ls⟩
theorem Part.fit {d : PyData} {k w : Nat} (h : Part [d] k) (hb : d.bulk ≤ w) : FitX d k w := let ⟨a, b, c⟩ := Part.one.mp h; ⟨a, b, c, hb⟩
theorem Part.tuple {ds : List PyData} {k w : Nat} (h : Part ds k) (hb : PyData.bulkAll ds ≤ w) : FitX (.tuple ds) (k + 1) w := FitX.tuple ⟨h.sh, h.dp, h.ls, hb⟩
theorem Part.list {ds : List PyData} {k w : Nat} (h : Part ds k) (hb : PyData.bulkAll ds ≤ w) : FitX (.list ds) (k + 1) w := FitX.list ⟨h.sh, h.dp, h.ls, hb⟩
theorem FitX.items {ds : List PyData} {k w : Nat} (h : FitX (.tuple ds) k w) : ∃ j, k = j + 1 ∧ Part ds j ∧ PyData.bulkAll ds ≤ w := by
  have h1 := h.sh
  have h2 := h.dp
  have h3 := h.ls
  have h4 := h.bk
  rw [PyData.showable.eq_6] at h1
  rw [PyData.depth.eq_2] at h2
  rw [PyData.leavesShort.eq_6] at h3
  rw [PyData.bulk.eq_3] at h4
  exact ⟨k - 1, by omega, ⟨h1, by omega, h3⟩, h4⟩
theorem bulk_mem {d : PyData} : ∀ {ds : List PyData}, d ∈ ds → d.bulk + 1 ≤ PyData.bulkAll ds
  | x :: xs, h => by
    rw [PyData.bulkAll.eq_2]
    rcases List.mem_cons.mp h with rfl | h
    · omega
    · have := bulk_mem h
      omega
theorem Part.mem {d : PyData} {ds : List PyData} {k : Nat} (h : Part ds k) (hd : d ∈ ds) : Part [d] k := by
  obtain ⟨a, b, rfl⟩ := List.append_of_mem hd
  have := (Part.app.mp h).2
  have : Part ([d] ++ b) k := this
  exact (Part.app.mp this).1
theorem FitX.item {d : PyData} {ds : List PyData} {k w : Nat} (h : FitX (.tuple ds) k w) (hd : d ∈ ds) : FitX d k w := by
  obtain ⟨j, rfl, p, b⟩ := h.items
  have := bulk_mem hd
  exact (p.mem hd).mono (Nat.le_succ _) |>.fit (by omega)
theorem FitX.short {d : PyData} {k w : Nat} (h : FitX d k w) : Short w d := by
  rintro x rfl
  have := h.bk
  rw [PyData.bulk.eq_1] at this
  exact this
theorem sl_tr : sizeLine = 16777216 := by decide
theorem add_tup {a b : List PyData} (h : a.length + b.length ≤ 100000) (S : Sto) : addD (.py (.tuple a)) (.py (.tuple b)) S = .ok (.py (.tuple (a ++ b))) S := by
  unfold addD
  simp only
  rw [if_pos (by rw [sl_tr]; omega)]
end DV

set_option maxHeartbeats 4000000
namespace DV
open PySem
/-! What a line of words costs. -/
/-- the words from one number to another -/
def lnW (ws : List (List Nat)) (a b : Nat) : List (List Nat) := (ws.drop a).take (b - a)
theorem Wds.ln {f : Face} {ws : List (List Nat)} (h : Wds f ws) (a b : Nat) : Wds f (lnW ws a b) := by
  have sub : ∀ w ∈ lnW ws a b, w ∈ ws := fun w hw => List.mem_of_mem_drop (List.mem_of_mem_take hw)
  refine ⟨fun w hw => h.ne w (sub w hw), fun w hw => h.mem w (sub w hw), fun w hw => h.short w (sub w hw), ?_⟩
  have := h.few
  simp [lnW]
  omega
/-- what a line costs -/
def cost (f : Face) (P : List Pair) (n : Int) (ws : List (List Nat)) (a b : Nat) : Option Int :=
  if n - wd f P (jn (lnW ws a b)) < 0 then none else if b = ws.length then some 0 else some ((n - wd f P (jn (lnW ws a b))) * (n - wd f P (jn (lnW ws a b))))
end DV

set_option maxHeartbeats 4000000
namespace DV
open PySem
/-! A thing spoilt at some place. -/
@[simp ↓] theorem wp_revTE (a : Ex) {σ : En} {S : Sto} {P : D → Sto → Prop} {E : Str → Sto → Prop} : (revTE a σ S).wp P E = (a σ S).wp (fun x S1 => ∃ ds, x = .py (.tuple ds) ∧ P (.py (.tuple ds.reverse)) S1) E := by
  unfold revTE
  rw [wp_bind]
  congr 1
  funext x S1
  split
  · exact propext ⟨fun h => ⟨_, rfl, h⟩, fun ⟨ds, e, h⟩ => by cases e; exact h⟩
  · rename_i hn
    exact propext ⟨fun h => h.elim, fun ⟨ds, e, h⟩ => (hn ds e).elim⟩
theorem Part.sub {xs ys : List PyData} {k : Nat} (h : xs.Sublist ys) : Part ys k → Part xs k ∧ PyData.bulkAll xs ≤ PyData.bulkAll ys := by
  induction h with
  | slnil => exact fun h => ⟨h, Nat.le_refl _⟩
  | @cons l1 l2 a hs ih =>
    intro h
    have h2 : Part ([a] ++ l2) k := h
    obtain ⟨i1, i2⟩ := ih (Part.app.mp h2).2
    refine ⟨i1, ?_⟩
    rw [PyData.bulkAll.eq_2]
    omega
  | @cons_cons l1 l2 a hs ih =>
    intro h
    have h2 : Part ([a] ++ l2) k := h
    obtain ⟨i1, i2⟩ := ih (Part.app.mp h2).2
    refine ⟨show Part ([a] ++ l1) k from Part.app.mpr ⟨(Part.app.mp h2).1, i1⟩, ?_⟩
    rw [PyData.bulkAll.eq_2, PyData.bulkAll.eq_2]
    omega
end DV

set_option maxHeartbeats 4000000
namespace DV
open PySem
/-! What is shown is no word; how far the signs of a text begin. -/
theorem sw_bnd {f : Face} {lo hi : Int} (g : f.Good lo hi) (c : Nat) : 0 ≤ sw f c ∧ sw f c ≤ 99 := by
  unfold sw
  split
  · exact ⟨by have := g.w0; omega, g.w1⟩
  · cases e : f.ls.find? fun p => decide (p.1 = c) with
    | none => simp
    | some p =>
      have := g.ok p (List.mem_of_find?_eq_some e)
      simp
      omega
theorem bg_bnd {f : Face} {P : List Pair} {lo hi : Int} (g : f.Good lo hi) (hW : Wid f P) (l : List Nat) : ∀ k : Nat, -9 * (k : Int) ≤ bg f P l k ∧ bg f P l k ≤ 108 * (k : Int)
  | 0 => by simp [bg]
  | k + 1 => by
    have h1 := bg_bnd g hW l k
    have h2 := sw_bnd g (l.getD k 0)
    have h3 := hW.g (l.getD k 0) (l.getD (k + 1) 0)
    rw [bg]
    push_cast
    omega
@[simp ↓] theorem wp_revS (a : Ex) {σ : En} {S : Sto} {P : D → Sto → Prop} {E : Str → Sto → Prop} : (revS a σ S).wp P E = (a σ S).wp (fun x S1 => ∃ z : Str, x = .py (.str z) ∧ z.length ≤ sizeLine ∧ P (.py (.str ⟨z.cps.toList.reverse.toArray⟩)) S1) E := by
  unfold revS
  rw [wp_bind]
  congr 1
  funext x S1
  split
  · rename_i z
    rw [wp_iteR]
    split
    · rename_i hz
      exact propext ⟨fun p => ⟨z, rfl, hz, p⟩, fun ⟨_, e, _, p⟩ => by cases e; exact p⟩
    · rename_i hz
      exact propext ⟨fun p => p.elim, fun ⟨_, e, q, p⟩ => by cases e; exact hz q⟩
  · rename_i hn
    exact propext ⟨fun h => h.elim, fun ⟨_, e, _⟩ => (hn _ e).elim⟩
theorem in_lts {g : List Nat} (hg : ∀ c ∈ g, c ≤ 122) (hl : g.length ≤ 2000) (c : Nat) (hc : c ≤ 300) (S : Sto) : inD (.py (lt c)) (.py (.list (g.map lt))) S = .ok (.py (.bool (decide (c ∈ g)))) S := by
  have h1 : deep S 8 (.py (lt c)) = some (lt c) := rfl
  have h2 : deep S 8 (.py (.list (g.map lt))) = some (.list (g.map lt)) := rfl
  simp only [inD, inS, h1, h2, inB]
  have f1 : SeqAt.shaped (lt c) = true := (Fit.str (x := ⟨#[c]⟩) (n := 1) (fun c' h' => by simp at h'; omega) (Nat.le_refl _)).shaped (by decide)
  have f2 : Fit (.list (g.map lt)) 1 4000 := (Fit.listN (k := 0) (w := 1) (m := 2000) (fun d hd => by
    obtain ⟨c, hc, rfl⟩ := List.mem_map.mp hd
    have := hg c hc
    exact Fit.str (fun c' h' => by simp at h'; omega) (by simp)) (by simpa using hl)).mono (by decide) (by decide)
  rw [if_pos ⟨f1, f2.shaped (by decide)⟩]
  have h4 : ((g.map lt).any fun z => PyData.eqv z (lt c)) = decide (c ∈ g) := by
    rw [List.any_map]
    simp only [Function.comp_def, eqv_lt]
    by_cases h : c ∈ g
    · rw [decide_eq_true h, List.any_eq_true]
      exact ⟨c, h, by simp⟩
    · rw [decide_eq_false h, List.any_eq_false]
      intro x hx
      simp
      exact fun e => h (e ▸ hx)
  rw [h4]
theorem add_tx {a b : List Nat} (h : a.length + b.length ≤ 2000) (S : Sto) : addD (.py (tx a)) (.py (tx b)) S = .ok (.py (tx (a ++ b))) S := by
  unfold addD
  simp only
  rw [if_pos (by rw [sl_big']; simp [Str.length]; omega)]
  show R.ok (D.py (.str ⟨a.toArray ++ b.toArray⟩)) S = _
  simp
end DV

set_option maxHeartbeats 4000000
namespace DV
/-! Breakings of k words left of L into lines, as rows of how many words each line has: costs, the greedy row of least cost. -/
section
variable (C : Nat → Nat → Option Int) (L : Nat) (pr : Nat → Int)
/-- the line of i + 1 words keeps to the price of k + 1 words left -/
def okR (k i : Nat) : Bool := match C (L - (k + 1)) (L - k + i) with
  | some c => decide (c + pr (k - i) = pr (k + 1))
  | none => false
def pickR (k : Nat) : Nat := ((List.range (k + 1)).reverse.find? fun i => okR C L pr k i).getD 0
def greedy : Nat → List Nat
  | 0 => []
  | k + 1 => (pickR C L pr k + 1) :: greedy (k - pickR C L pr k)
termination_by k => k
/-- the prices are least sums -/
structure Prs : Prop where
  zero : pr 0 = 0
  is : ∀ k, k < L → ∃ i c, i ≤ k ∧ C (L - (k + 1)) (L - k + i) = some c ∧ c + pr (k - i) = pr (k + 1)
  le : ∀ k i c, k < L → i ≤ k → C (L - (k + 1)) (L - k + i) = some c → pr (k + 1) ≤ c + pr (k - i)
variable {C L pr}
/-- a row with more words ahead -/
def ahead : List Nat → List Nat → Prop
  | x :: xs, y :: ys => y < x ∨ (x = y ∧ ahead xs ys)
  | _, _ => False
end
/-! ### all rows -/
/-- the last number one more -/
def more1 (row : List Nat) : List Nat := row.dropLast ++ [row.getLastD 0 + 1]
def brk : Nat → List (List Nat)
  | 0 => [[]]
  | 1 => [[1]]
  | k + 2 => (brk (k + 1)).map (· ++ [1]) ++ (brk (k + 1)).map more1
end DV

set_option maxHeartbeats 4000000
namespace DV
open PySem
theorem gapIn_all {Q : Int → Prop} (q0 : Q 0) {P : List Pair} (h : ∀ p ∈ P, Q p.2.2) (a b : Nat) : Q (gapIn P a b) := by
  unfold gapIn
  split
  · rename_i e
    exact h _ (List.mem_of_find?_eq_some e)
  · exact q0
theorem wid_of {f : Face} {lo hi : Int} {R : List (List Int)} (g : f.Good lo hi) (r : Rows R f.ls.length) : Wid f (mlist f.lets R) := by
  refine ⟨⟨g.w0, g.w1⟩, fun c hc => ?_, fun a b => ?_⟩
  · obtain ⟨p, hp, rfl⟩ := List.mem_map.mp hc
    have o := g.ok p hp
    have hs : sw f p.1 ∈ f.ls.map (·.2) := by
      unfold sw
      rw [if_neg (by omega)]
      cases e : f.ls.find? fun q => decide (q.1 = p.1) with
      | none => exact absurd (List.find?_eq_none.mp e p hp) (by simp)
      | some q => exact List.mem_map.mpr ⟨q, List.mem_of_find?_eq_some e, rfl⟩
    obtain ⟨q, hq, e⟩ := List.mem_map.mp hs
    have o2 := g.ok q hq
    omega
  · unfold bt
    split
    · omega
    · refine gapIn_all (Q := fun x => -9 ≤ x ∧ x ≤ 9) (by omega) (fun p hp => ?_) a b
      obtain ⟨i, j, row, k1, k2, k3, k4, _⟩ := mem_mlist hp
      exact r.bnd _ (List.mem_of_getElem? k2) _ (List.mem_of_getElem? k4)
end DV

set_option maxHeartbeats 4000000
namespace DV
open PySem
/-! Things drawn for laws of texts. -/
/-- a thing that may be asked about -/
structure Tng (x : PyData) : Prop where
  short : Short 10000 x
  low : Low x
  fit : FitX x 6 1000
theorem Tng.tx {l : List Nat} (h : ∀ c ∈ l, c ≤ 300) (hl : l.length ≤ 1000) : Tng (tx l) :=
  ⟨fun x e => (by cases e; simp [Str.length]; omega), fun x e => (by cases e; simpa using h), (Fit.str (x := ⟨l.toArray⟩) (n := 1000) (fun c hc => by have := h c (by simpa using hc); omega) (by simpa using hl)).x.mono (by decide) (by decide)⟩
theorem Tng.odd {p : PyData} (h1 : Short 100 p) (h2 : Low p) (h3 : FitX p 5 200) : Tng p :=
  ⟨fun x e => by have := h1 x e; omega, h2, h3.mono (by decide) (by decide)⟩
theorem fitL_lts {l : List Nat} (h : ∀ c ∈ l, c ≤ 300) (hl : l.length ≤ 250) : FitL (l.map lt) 0 500 := (FitL.all (k := 0) (w := 1) (fun d hd => by
    obtain ⟨c, hc, rfl⟩ := List.mem_map.mp hd
    have := h c hc
    exact Fit.lt (by omega))).mono (by decide) (by simp; omega)
theorem Tng.lst {l : List Nat} (h : ∀ c ∈ l, c ≤ 300) (hl : l.length ≤ 250) : Tng (.list (l.map lt)) :=
  ⟨fun x e => (by cases e), fun x e => (by cases e), (Fit.list (fitL_lts h hl)).x.mono (k := 1) (w := 500) (by decide) (by decide)⟩
theorem Tng.tup {l : List Nat} (h : ∀ c ∈ l, c ≤ 300) (hl : l.length ≤ 250) : Tng (.tuple (l.map lt)) :=
  ⟨fun x e => (by cases e), fun x e => (by cases e), (Fit.tuple (fitL_lts h hl)).x.mono (k := 1) (w := 500) (by decide) (by decide)⟩
/-- the law's own loop, where a text is named ahead of it -/
def Keep1 (sc z : D) (n : Nat) (σ : En) : Prop := ∃ ys : En, σ = some sc :: some z :: ys ∧ ys.length = n
theorem Keep1.mk {sc z : D} {n : Nat} {ys : En} (h : ys.length = n) : Keep1 sc z n (some sc :: some z :: ys) := ⟨ys, rfl, h⟩
end DV

set_option maxHeartbeats 4000000
namespace DV
open PySem
/-! The sign at a number. -/
end DV

set_option maxHeartbeats 4000000
namespace DV
open PySem
/-! Letters that may be added. -/
/-- the letter that a thing is -/
def isL : PyData → Option Nat
  | .str x => match x.cps.toList with
    | [c] => if 97 ≤ c ∧ c ≤ 122 then some c else none
    | _ => none
  | _ => none
theorem isL_lt {d : PyData} {c : Nat} (h : isL d = some c) : d = lt c ∧ 97 ≤ c ∧ c ≤ 122 := by
  cases d with
  | str x =>
    obtain ⟨⟨l⟩⟩ := x
    match l, h with
    | [a], h =>
      unfold isL at h
      simp only at h
      split at h
      · rename_i hc
        cases h
        exact ⟨rfl, hc⟩
      · cases h
  | _ => cases h
theorem len_str {l : List Nat} (h : l.length ≤ 10000) (S : Sto) : lenD [.py (.str ⟨⟨l⟩⟩)] S = .ok (.py (.int (l.length : Nat))) S := by
  unfold lenD
  simp only
  rw [if_pos (by simp [Str.length, sl_big']; omega)]
  rfl
theorem in_alpha (c : Nat) (S : Sto) : inD (.py (lt c)) (.py (.str (Str.ofString "abcdefghijklmnopqrstuvwxyz"))) S = .ok (.py (.bool (decide (97 ≤ c ∧ c ≤ 122)))) S := by
  have h1 : deep S 8 (.py (lt c)) = some (lt c) := rfl
  have h2 : deep S 8 (.py (.str (Str.ofString "abcdefghijklmnopqrstuvwxyz"))) = some (.str (Str.ofString "abcdefghijklmnopqrstuvwxyz")) := rfl
  simp only [inD, inS, h1, h2, inB]
  rw [alphabet]
  congr 3
  rw [decide_eq_decide]
  simp
  constructor
  · rintro ⟨a, h, rfl⟩
    omega
  · intro h
    exact ⟨c - 97, by omega, by omega⟩
theorem is_letter_any {d : PyData} (h : Short 10000 d) (S : Sto) : F_is_letter [.py d] S = .ok (.py (.bool (isL d).isSome)) S := by
  unfold F_is_letter b_is_letter
  refine fn_eq (wp_fn ?_)
  cases d with
  | str x =>
    obtain ⟨⟨l⟩⟩ := x
    have hl := h _ rfl
    simp [Str.length] at hl
    have le := len_str hl
    match l, le with
    | [], le => simp [init, isB, le, isL]; exact ⟨.self, rfl⟩
    | [c], le =>
      have ia := in_alpha c
      by_cases hc : 97 ≤ c ∧ c ≤ 122
      · simp [init, isB, le, isL, ia, hc]
        exact ⟨.self, rfl⟩
      · simp [init, isB, le, isL, ia, hc]
        exact ⟨.self, rfl⟩
    | a :: b :: r, le =>
      have : ¬ ((r.length : Int) + 1 + 1 = 1) := by omega
      simp [init, isB, le, isL, this]
      exact ⟨.self, rfl⟩
  | none => simp [init, isB, isL]; exact ⟨.self, rfl⟩
  | bool b => simp [init, isB, isL]; exact ⟨.self, rfl⟩
  | int i => simp [init, isB, isL]; exact ⟨.self, rfl⟩
  | list ds => simp [init, isB, isL]; exact ⟨.self, rfl⟩
  | tuple ds => simp [init, isB, isL]; exact ⟨.self, rfl⟩
  | dict ds => simp [init, isiD, tyN, isB, isL]; exact ⟨.self, rfl⟩
def isFT (lo hi : Int) : PyData → Bool
  | .int i => decide (lo ≤ i ∧ i ≤ hi)
  | _ => false
theorem from_to_any (d : PyData) (lo hi : Int) (S : Sto) : F_is_from_to [.py d, .py (.int lo), .py (.int hi)] S = .ok (.py (.bool (isFT lo hi d))) S := by
  cases d with
  | int i => exact is_from_to_int i lo hi S
  | _ =>
    unfold F_is_from_to b_is_from_to
    refine fn_eq (wp_fn ?_)
    first
      | (simp [init, isB, isFT]; exact ⟨.self, rfl⟩)
      | (simp [init, isiD, tyN, isB, isFT]; exact ⟨.self, rfl⟩)
theorem is_wide_any (d : PyData) (S : Sto) : F_is_wide [.py d] S = .ok (.py (.bool (isFT 10 99 d))) S := by
  unfold F_is_wide b_is_wide
  refine fn_eq (wp_fn ?_)
  simp [init, from_to_any]
  exact ⟨.self, rfl⟩
theorem need_fresh_any {f : Face} {d : PyData} (h : Short 10000 d) (S : Sto) : F_need_fresh [.py f.py, .py d] S = if (∃ c, isL d = some c ∧ c ∉ f.lets) then .ok (.py .none) S else .ex "NoLetter" S := by
  have il := is_letter_any h
  unfold F_need_fresh b_need_fresh
  cases hd : isL d with
  | none =>
    rw [if_neg (by simp)]
    refine wp_exq (wp_fn ?_)
    simp [init, il, hd]
    exact .self
  | some c =>
    obtain ⟨rfl, _, _⟩ := isL_lt hd
    have pl := place_lt (f := f) c
    by_cases hc : c ∈ f.lets
    · rw [if_neg (by simp [hc])]
      refine wp_exq (wp_fn ?_)
      have : ∃ i, f.lets.findIdx? (fun x => decide (x = c)) = some i := by
        cases e : f.lets.findIdx? (fun x => decide (x = c)) with
        | some i => exact ⟨i, rfl⟩
        | none =>
          rw [List.findIdx?_eq_none_iff] at e
          have := e c hc
          simp at this
      obtain ⟨i, hi⟩ := this
      rw [hi] at pl
      simp [init, il, hd, pl, plcD, isNon]
      exact .self
    · rw [if_pos ⟨c, rfl, hc⟩]
      refine fn_eq (wp_fn ?_)
      have hi : f.lets.findIdx? (fun x => decide (x = c)) = none := by
        rw [List.findIdx?_eq_none_iff]
        intro a ha
        simp
        intro e
        exact hc (e ▸ ha)
      rw [hi] at pl
      simp [init, il, hd, pl, plcD, isNon]
      exact .self
theorem need_room_any {f : Face} (S : Sto) : F_need_room [.py f.py] S = if 10 ≤ f.ls.length then .ex "TooMany" S else .ok (.py .none) S := by
  unfold F_need_room b_need_room
  have i1 : ∀ T, itemD (.py f.py) (.py (.int 1)) T = .ok (.py (.tuple (f.ls.map encL))) T := fun T => itemD_tupleI (by decide) rfl
  by_cases h : 10 ≤ f.ls.length
  · rw [if_pos h]
    refine wp_exq (wp_fn ?_)
    have : (10 : Int) ≤ f.ls.length := by omega
    simp [init, i1, this]
    exact .self
  · rw [if_neg h]
    refine fn_eq (wp_fn ?_)
    have : ¬ (10 : Int) ≤ f.ls.length := by omega
    simp [init, i1, this]
    first | exact .self | omega
/-! ### a drawn letter that a face has not -/
theorem sub_len : ∀ {l A : List Nat}, l.Nodup → (∀ x ∈ l, x ∈ A) → l.length ≤ A.length
  | [], _, _, _ => Nat.zero_le _
  | x :: r, A, hn, h => by
    have hx := h x (List.mem_cons_self ..)
    have hr := List.nodup_cons.mp hn
    have := sub_len (l := r) (A := A.erase x) hr.2 fun y hy => (List.mem_erase_of_ne (by rintro rfl; exact hr.1 hy)).mpr (h y (List.mem_cons_of_mem _ hy))
    rw [List.length_erase_of_mem hx] at this
    have hp : 0 < A.length := List.length_pos_of_mem hx
    rw [List.length_cons]
    omega
theorem not_in_lts {g : List Nat} (hg : ∀ c ∈ g, c ≤ 122) (hl : g.length ≤ 2000) (c : Nat) (hc : c ≤ 300) (S : Sto) : notInD (.py (lt c)) (.py (.list (g.map lt))) S = .ok (.py (.bool (!decide (c ∈ g)))) S := by
  have := in_lts hg hl c hc S
  unfold inD at this
  unfold notInD
  split at this
  · rename_i k hk
    cases this
    rfl
  · cases this
theorem with_letter_any {f : Face} {d e : PyData} (h : Short 10000 d) (hl : f.ls.length ≤ 200) (S : Sto) : F_with_letter [.py f.py, .py d, .py e] S =
    if (∃ c, isL d = some c ∧ c ∉ f.lets) then (if isFT 10 99 e = true then (if 10 ≤ f.ls.length then .ex "TooMany" S else .ok (.py (.tuple [.int f.w, .tuple (f.ls.map encL ++ [.tuple [d, e]])])) S) else .ex "NoNumber" S) else .ex "NoLetter" S := by
  have nf := need_fresh_any (f := f) h
  have iw := is_wide_any e
  have nr := need_room_any (f := f)
  unfold F_with_letter b_with_letter
  by_cases h1 : ∃ c, isL d = some c ∧ c ∉ f.lets
  · rw [if_pos h1]
    simp only [if_pos h1] at nf
    by_cases h2 : isFT 10 99 e = true
    · rw [if_pos h2]
      by_cases h3 : 10 ≤ f.ls.length
      · rw [if_pos h3]
        simp only [if_pos h3] at nr
        refine wp_exq (wp_fn ?_)
        simp [init, nf, iw, h2, nr]
        exact .self
      · rw [if_neg h3]
        simp only [if_neg h3] at nr
        have i0 : ∀ T, itemD (.py f.py) (.py (.int 0)) T = .ok (.py (.int f.w)) T := fun T => itemD_tupleI (by decide) rfl
        have i1 : ∀ T, itemD (.py f.py) (.py (.int 1)) T = .ok (.py (.tuple (f.ls.map encL))) T := fun T => itemD_tupleI (by decide) rfl
        have ad : ∀ T, addD (.py (.tuple (f.ls.map encL))) (.py (.tuple [.tuple [d, e]])) T = .ok (.py (.tuple (f.ls.map encL ++ [.tuple [d, e]]))) T := fun T => by
          unfold addD
          simp only
          rw [if_pos (by rw [List.length_map, sl_big']; simp; omega)]
        refine fn_eq (wp_fn ?_)
        simp [init, nf, iw, h2, nr, i0, i1, ad, pysOf]
        exact ⟨.self, rfl⟩
    · rw [if_neg h2]
      refine wp_exq (wp_fn ?_)
      simp [init, nf, iw, h2]
      exact .self
  · rw [if_neg h1]
    simp only [if_neg h1] at nf
    refine wp_exq (wp_fn ?_)
    simp [init, nf]
    exact .self
end DV

set_option maxHeartbeats 4000000
namespace DV
open PySem
/-! Letters, asked of any thing. -/
def isOne (t : PyData) (a : Nat) : Bool := match t with
  | .str x => decide ((⟨#[a]⟩ : Str) = x)
  | _ => false
def isIn (f : Face) (t : PyData) : Bool := f.lets.any (isOne t)
theorem isOne_lt {t : PyData} {a : Nat} (h : isOne t a = true) : t = lt a := by
  cases t with
  | str x =>
    have : (⟨#[a]⟩ : Str) = x := of_decide_eq_true h
    rw [← this]
  | _ => cases h
theorem isIn_lt {f : Face} {t : PyData} (h : isIn f t = true) : ∃ c, c ∈ f.lets ∧ t = lt c := by
  obtain ⟨c, hc, h1⟩ := List.any_eq_true.mp h
  exact ⟨c, hc, isOne_lt h1⟩
theorem lt_isIn {f : Face} {c : Nat} (h : c ∈ f.lets) : isIn f (lt c) = true := List.any_eq_true.mpr ⟨c, h, by simp [isOne]⟩
theorem eq_all {a : Nat} {t : PyData} (S : Sto) : eqD (.py (lt a)) (.py t) S = .ok (.py (.bool (isOne t a))) S := by
  cases t with
  | none => rfl
  | bool b => rfl
  | int i => rfl
  | str x => exact eqD_str
  | list ds =>
    unfold eqD eqB
    simp only [flatD]
    split
    · rename_i k hk
      split at hk
      · cases hk; rfl
      · cases hk; rfl
    · rename_i hk
      split at hk
      · cases hk
      · simp [offB] at hk
  | tuple ds =>
    unfold eqD eqB
    simp only [flatD]
    split
    · rename_i k hk
      split at hk
      · cases hk; rfl
      · cases hk; rfl
    · rename_i hk
      split at hk
      · cases hk
      · simp [offB] at hk
  | dict kvs =>
    have h0 : SeqAt.shaped (.dict kvs) = false := by
      unfold SeqAt.shaped
      rw [PyData.canLay0.eq_7]
      rfl
    unfold eqD eqB
    simp only [flatD]
    rw [h0]
    simp [offB, dkTx, isOne]
theorem place_all {f : Face} {t : PyData} (S : Sto) : F_place_of [.py f.py, .py t] S = .ok (.py (plcD (f.lets.findIdx? (isOne t)))) S := place_gen (f := f) (t := t) (p := isOne t) (fun q hq S => eq_all S) S
theorem need_letter_all {f : Face} {t : PyData} (S : Sto) : F_need_letter [.py f.py, .py t] S = if isIn f t = true then .ok (.py (plcD (f.lets.findIdx? (isOne t)))) S else .ex "NoLetter" S := by
  have pl := fun S => place_gen (f := f) (t := t) (p := isOne t) (fun q hq S => eq_all S) S
  unfold F_need_letter b_need_letter
  by_cases h : isIn f t = true
  · rw [if_pos h]
    obtain ⟨c, hc, e⟩ := isIn_lt h
    have : ∃ i, f.lets.findIdx? (isOne t) = some i := by
      cases q : f.lets.findIdx? (isOne t) with
      | some i => exact ⟨i, rfl⟩
      | none =>
        rw [List.findIdx?_eq_none_iff] at q
        have := q c hc
        rw [e] at this
        simp [isOne] at this
    obtain ⟨i, hi⟩ := this
    rw [hi] at pl ⊢
    refine fn_eq (wp_fn ?_)
    simp [init, pl, plcD, isNon]
    exact ⟨.self, rfl⟩
  · rw [if_neg h]
    have hi : f.lets.findIdx? (isOne t) = none := by
      rw [List.findIdx?_eq_none_iff]
      intro a ha
      cases q : isOne t a with
      | false => rfl
      | true => exact absurd (List.any_eq_true.mpr ⟨a, ha, q⟩) h
    rw [hi] at pl
    refine wp_exq (wp_fn ?_)
    simp [init, pl, plcD, isNon]
    exact .self
end DV

set_option maxHeartbeats 4000000
namespace DV
open PySem
/-! Rows of gaps, asked of any thing. -/
theorem is_gap_any (d : PyData) (S : Sto) : F_is_gap [.py d] S = .ok (.py (.bool (isFT (-9) 9 d))) S := by
  unfold F_is_gap b_is_gap
  refine fn_eq (wp_fn ?_)
  simp [init, from_to_any]
  exact ⟨.self, rfl⟩
end DV

set_option maxHeartbeats 4000000
namespace DV
open PySem
/-! Papers of left classes. -/
/-! ### all two of some letters -/
@[simp ↓] theorem wp_sliceA (a : Ex) (lo hi : Px) {σ : En} {S : Sto} {P : D → Sto → Prop} {E : Str → Sto → Prop} : (sliceA a lo hi σ S).wp P E = (a σ S).wp (fun x S1 => (lo σ S1).wp (fun l S2 => (hi σ S2).wp (fun h S3 => (sliceAV x l h S3).wp P E) E) E) E := by
  unfold sliceA
  rw [wp_bind]
  congr 1
  funext x S1
  rw [wp_bind]
  congr 1
  funext l S2
  rw [wp_bind]
def heads (G : List (List Nat)) : List Nat := G.map fun g => g.headD 0
end DV

set_option maxHeartbeats 4000000
namespace DV
open PySem
/-! A gap turned, a letter left out: what the program answers of any things. -/
theorem Cut.low {S S' : Sto} (hl : S.length ≤ S'.length) (h : ∀ j, j < S.length → S'[j]? = S[j]?) : Cut S S' S :=
  ⟨hl, by
    apply List.ext_getElem?
    intro i
    by_cases hi : i < S.length
    · rw [List.getElem?_take_of_lt hi, h i hi]
    · rw [List.getElem?_eq_none (by omega), List.getElem?_eq_none (by simp; omega)], fun i o hi e => .inl ((h i hi).symm.trans e)⟩
@[simp ↓] theorem wp_methT (g : D → List D → Sto → R D) (o : Ex) (a : Ax) {σ : En} {S : Sto} {P : D → Sto → Prop} {E : Str → Sto → Prop} : (methT g o a σ S).wp P E = (o σ S).wp (fun x S1 => ∃ ts, x = .py (.tuple ts) ∧ (a σ S1).wp (fun ds S2 => (g x ds S2).wp P E) E) E := by
  unfold methT
  rw [wp_bind]
  congr 1
  funext x S1
  rcases x with d | n | n
  · cases d
    case tuple ts =>
      simp only [wp_bind]
      exact propext ⟨fun h => ⟨ts, rfl, h⟩, fun ⟨_, _, h⟩ => h⟩
    all_goals exact propext ⟨fun h => h.elim, fun ⟨_, e, _⟩ => by cases e⟩
  · exact propext ⟨fun h => h.elim, fun ⟨_, e, _⟩ => by cases e⟩
  · exact propext ⟨fun h => h.elim, fun ⟨_, e, _⟩ => by cases e⟩
theorem find_nd {L : List Nat} {i c : Nat} (nd : L.Nodup) (h : L[i]? = some c) : L.findIdx? (fun y => decide (y = c)) = some i := by
  obtain ⟨hi, e⟩ := List.getElem?_eq_some_iff.mp h
  rw [List.findIdx?_eq_some_iff_getElem]
  refine ⟨hi, by simp [e], fun j hj => ?_⟩
  have hjl : j < L.length := by omega
  simp only [decide_eq_true_eq]
  intro z
  have := (List.getElem_inj nd).mp (z.trans e.symm)
  omega
theorem index_ltsT {L : List Nat} {i c : Nat} (nd : L.Nodup) (h : L[i]? = some c) (S : Sto) : indexTD (.py (.tuple (L.map lt))) [.py (lt c)] S = .ok (.py (.int (i : Nat))) S := by
  unfold indexTD
  simp only [strsOf_lt]
  have : ((L.map fun c => st [c]).findIdx? fun y => decide (y = ⟨#[c]⟩)) = some i := by
    rw [List.findIdx?_map, ← find_nd nd h]
    congr 1
    funext y
    have : (st [y] = (⟨#[c]⟩ : Str)) = (y = c) := by
      show ((⟨#[y]⟩ : Str) = ⟨#[c]⟩) = _
      simp
    simp only [Function.comp_apply, this]
  rw [this]
/-- the list with one gap turned -/
def gapR (R : List (List Int)) (i j : Nat) (x : Int) : List (List Int) := R.set i ((R.getD i []).set j x)
theorem with_gap_eq {f : Face} {P : List Pair} {a b i j : Nat} {x : Int} (nd : f.lets.Nodup) (h200 : f.ls.length ≤ 200) (ha : f.lets[i]? = some a) (hb : f.lets[j]? = some b) (hx : -9 ≤ x ∧ x ≤ 9) (S : Sto) :
    F_with_gap [.py f.py, .py (encP P), .py (lt a), .py (lt b), .py (.int x)] S = .ok (.py (encP (mlist f.lets (gapR (leftM f P) i j x)))) S := by
  have ma := List.mem_of_getElem? ha
  have mb := List.mem_of_getElem? hb
  have n1 := need_letter_all (f := f) (t := lt a)
  have n2 := need_letter_all (f := f) (t := lt b)
  have ia := lt_isIn ma
  have ib := lt_isIn mb
  have ig : ∀ T, F_is_gap [.py (.int x)] T = .ok (.py (.bool true)) T := fun T => by rw [is_gap_int]; simp [hx]
  have lo := letters_of_eq f
  have x1 := index_ltsT nd ha
  have x2 := index_ltsT nd hb
  have gi := fun l r T => gap_in_eq P l r T
  have hi := (List.getElem?_eq_some_iff.mp ha).1
  have hj := (List.getElem?_eq_some_iff.mp hb).1
  unfold F_with_gap b_with_gap
  refine fn_eq (wp_fn ?_)
  simp [init, n1, n2, ia, ib, ig, lo]
  refine wp_of (lcL_rowsM (D.py ∘ lt) (fun l => f.lets.map fun r => gapIn P l r) fun l hl S' => wp_eq ?_) ?_
  · simp
    refine wp_pureM1 (D.py ∘ lt) (fun r => D.py (.int (gapIn P l r))) (fun r hr => wp_eq (by simp [gi])) ?_
    simp
  have eR : (f.lets.map fun l => f.lets.map fun r => gapIn P l r) = leftM f P := rfl
  rw [eR]
  have lR : (leftM f P).length = f.lets.length := by simp [leftM]
  have hiR : i < (leftM f P).length := by omega
  have rl : (leftM f P)[i] = (leftM f P).getD i [] := by simp [hiR]
  have hjR : j < (leftM f P)[i].length := by
    have : (leftM f P)[i].length = f.lets.length := by simp [leftM]
    omega
  have G := Grid.new (S := S) (lo := S.length) (rows := leftM f P) (Nat.le_refl _)
  have low : ∀ k, k < S.length → (S ++ ((leftM f P).map fun (r : List Int) => O.lst (r.map pyi)) ++ [O.lst ((List.range' S.length (leftM f P).length).map D.obj)])[k]? = S[k]? := fun k hk => by
    rw [List.append_assoc, List.getElem?_append_left hk]
  have le : S.length ≤ (S ++ ((leftM f P).map fun (r : List Int) => O.lst (r.map pyi)) ++ [O.lst ((List.range' S.length (leftM f P).length).map D.obj)]).length := by simp
  have em : S.length + (leftM f P).length = (S ++ ((leftM f P).map fun (r : List Int) => O.lst (r.map pyi))).length := by simp
  rw [em] at G
  generalize (S ++ ((leftM f P).map fun (r : List Int) => O.lst (r.map pyi))).length = m at *
  generalize S ++ ((leftM f P).map fun (r : List Int) => O.lst (r.map pyi)) ++ [O.lst ((List.range' S.length (leftM f P).length).map D.obj)] = T0 at *
  generalize List.range' S.length (leftM f P).length = ids at *
  simp [x1, x2, G.get hiR]
  refine wp_of (G.put hiR hjR) ?_
  have G2 := G.set hiR ((leftM f P)[i].set j x)
  simp
  rw [← List.map_set]
  refine G2.fix rfl fun S' hl hs => ?_
  have fr := from_rows_eq f (gapR (leftM f P) i j x) S' h200
  have e2 : (leftM f P).set i ((leftM f P)[i].set j x) = gapR (leftM f P) i j x := by unfold gapR; rw [rl]
  rw [e2]
  simp [fr]
  refine ⟨Cut.low (by rw [hl]; simpa using le) fun k hk => ?_, rfl⟩
  rw [hs k hk, List.getElem?_set_ne, low k hk]
  have := (G.own _ (List.getElem_mem (by rw [G.len]; exact hiR) : ids[i]'(by rw [G.len]; exact hiR) ∈ ids)).1
  omega
def offL (c : Nat) (p : Nat × Int) : Bool := decide (p.1 ≠ c)
def offP (c : Nat) (q : Pair) : Bool := decide (q.1 ≠ c ∧ q.2.1 ≠ c)
def dropF (f : Face) (c : Nat) : Face := ⟨f.w, f.ls.filter (offL c)⟩
def dropP (P : List Pair) (c : Nat) : List Pair := P.filter (offP c)
theorem notin_tup {g : List Nat} (c : Nat) (S : Sto) : notInD (.py (lt c)) (.py (.tuple (g.map lt))) S = .ok (.py (.bool (!decide (c ∈ g)))) S := by
  have h := in_tup (g := g) c S
  unfold inD at h
  unfold notInD
  split at h
  · rename_i k hk
    cases h
    rfl
  · cases h
theorem ne_lt (a c : Nat) (T : Sto) : neD (.py (lt a)) (.py (lt c)) T = .ok (.py (.bool (decide (a ≠ c)))) T := by
  rw [neD_of (eq_all T)]
  by_cases h : a = c
  · subst h
    simp [isOne]
  · have : isOne (lt c) a = false := by simp [isOne, h]
    simp [this, h]
theorem without_letter_eq {f : Face} {P : List Pair} {c : Nat} (hc : c ∈ f.lets) (S : Sto) : F_without_letter [.py f.py, .py (encP P), .py (lt c)] S =
    if f.ls.length = 1 then .ex "NoLetter" S else .ok (.py (.tuple [(dropF f c).py, encP (dropP P c)])) S := by
  have n1 := need_letter_all (f := f) (t := lt c)
  have ic := lt_isIn hc
  have i1 : ∀ T, itemD (.py f.py) (.py (.int 1)) T = .ok (.py (.tuple (f.ls.map encL))) T := fun T => itemD_tupleI (by decide) rfl
  have i0 : ∀ T, itemD (.py f.py) (.py (.int 0)) T = .ok (.py (.int f.w)) T := fun T => itemD_tupleI (by decide) rfl
  have ll : ∀ T, lenD [.py (.tuple (f.ls.map encL))] T = .ok (.py (.int (f.ls.length : Nat))) T := fun T => by simp [lenD, seqOf]
  have ei : ∀ (x y : Int) T, eqD (.py (.int x)) (.py (.int y)) T = .ok (.py (.bool (decide (x = y)))) T := fun x y T => rfl
  have tt : ∀ ds T, tupleD [.py (.list ds)] T = .ok (.py (.tuple ds)) T := fun ds T => by simp [tupleD, seqOf]
  unfold F_without_letter b_without_letter
  by_cases h1 : f.ls.length = 1
  · rw [if_pos h1]
    refine wp_exq (wp_fn ?_)
    simp [init, n1, ic, i1, ll, ei, h1]
    exact .self
  · rw [if_neg h1]
    have h1' : ¬ ((f.ls.length : Int) = 1) := by omega
    refine fn_eq (wp_fn ?_)
    simp [init, n1, ic, i1, ll, ei, h1']
    refine wp_pureM (D.py ∘ encL) (offL c) (D.py ∘ encL) (fun p hp => ?_) ?_
    · have ip : ∀ T, itemD (.py (encL p)) (.py (.int 0)) T = .ok (.py (lt p.1)) T := fun T => itemD_tupleI (by decide) rfl
      simp [ip, ne_lt, offL]
      exact Classical.em _
    · have e1 : ((f.ls.filter (offL c)).map (D.py ∘ encL)) = ((f.ls.filter (offL c)).map encL).map D.py := by simp
      rw [e1, pysOf_map]
      simp [tt, i0]
      refine wp_pureM (D.py ∘ encT) (offP c) (D.py ∘ encT) (fun q hq => ?_) ?_
      · have ni0 : ∀ T, notInD (.py (lt c)) (.py (.tuple [lt q.1, lt q.2.1])) T = .ok (.py (.bool (!decide (c ∈ [q.1, q.2.1])))) T := fun T => notin_tup (g := [q.1, q.2.1]) c T
        have sl : ∀ T, sliceV (.py (encT q)) none (some 2) T = .ok (.py (.tuple [lt q.1, lt q.2.1])) T := fun T => rfl
        have ni : ∀ T, notInD (.py (lt c)) (.py (.tuple [lt q.1, lt q.2.1])) T = .ok (.py (.bool (decide (q.1 ≠ c ∧ q.2.1 ≠ c)))) T := fun T => by
          rw [ni0]
          congr 3
          simp [eq_comm]
        simp [sl, ni]
        by_cases k1 : q.1 = c
        · simp [offP, k1]
        · by_cases k2 : q.2.1 = c <;> simp [offP, k1, k2]
      · have e2 : ((P.filter (offP c)).map (D.py ∘ encT)) = ((P.filter (offP c)).map encT).map D.py := by simp
        rw [e2, pysOf_map]
        simp [tt]
        exact ⟨S, .self, rfl, by simp [dropF, dropP]⟩
end DV

set_option maxHeartbeats 4000000
namespace DV
open PySem
/-! A letter made like another one. -/
@[simp ↓] theorem wp_dictT (f : Ex) {σ : En} {S : Sto} {P : D → Sto → Prop} {E : Str → Sto → Prop} : (dictT f σ S).wp P E = (f σ S).wp (fun d S1 => ∃ ds kv, d = .py (.tuple ds) ∧ pairsOf ds = some kv ∧ (kv.map Prod.fst).Nodup ∧ P (.py (.dict (kv.map fun p => (keyP p.1, p.2)))) S1) E := by
  unfold dictT
  rw [wp_bind]
  congr 1
  funext d S1
  rcases d with d | n | n
  · cases d
    case tuple ds =>
      cases h : pairsOf ds with
      | none =>
        simp only [h]
        exact propext ⟨fun h => h.elim, fun ⟨_, _, e, h2, _⟩ => by cases e; rw [h] at h2; cases h2⟩
      | some kv =>
        simp only [h]
        rw [wp_iteR]
        split
        · rename_i hz
          exact propext ⟨fun p => ⟨_, _, rfl, h, hz, p⟩, fun ⟨_, _, e, h2, _, p⟩ => by cases e; rw [h] at h2; cases h2; exact p⟩
        · rename_i hz
          exact propext ⟨fun p => p.elim, fun ⟨_, _, e, h2, z, p⟩ => by cases e; rw [h] at h2; cases h2; exact hz z⟩
    all_goals exact propext ⟨fun h => h.elim, fun ⟨_, _, e, _⟩ => by cases e⟩
  · exact propext ⟨fun h => h.elim, fun ⟨_, _, e, _⟩ => by cases e⟩
  · exact propext ⟨fun h => h.elim, fun ⟨_, _, e, _⟩ => by cases e⟩
/-- the dict of a face's letters -/
def lkv (f : Face) : List (L2.Key × PyData) := f.ls.map fun p => (Sum.inr (⟨#[p.1]⟩ : Str), PyData.int p.2)
theorem pairs_l (f : Face) : pairsOf (f.ls.map encL) = some (lkv f) := by
  unfold lkv
  induction f.ls with
  | nil => rfl
  | cons p ls ih =>
    show (match keyOf (lt p.1), pairsOf (ls.map encL) with
      | some k, some r => some ((k, PyData.int p.2) :: r)
      | _, _ => none) = _
    rw [ih]
    rfl
theorem lkv_nodup {f : Face} (nd : f.lets.Nodup) : ((lkv f).map Prod.fst).Nodup := by
  have e : (lkv f).map Prod.fst = f.lets.map fun c => (Sum.inr (⟨#[c]⟩ : Str) : L2.Key) := by simp [lkv, Face.lets]
  rw [e, List.Nodup, List.pairwise_map]
  exact nd.imp fun hab e => hab (by simpa using e)
/-- how wide a letter of the face is -/
def wdL (f : Face) (c : Nat) : Int := ((f.ls.find? fun p => decide (p.1 = c)).map (·.2)).getD 0
theorem look_l {f : Face} {c : Nat} (h : c ∈ f.lets) : dlook ((lkv f).map fun p => (keyP p.1, p.2)) (.inr ⟨#[c]⟩) = some (.int (wdL f c)) := by
  have e : (f.ls.map fun p => ((Sum.inr (⟨#[p.1]⟩ : Str) : L2.Key), PyData.int p.2)).find? (fun p => decide (p.1 = Sum.inr (⟨#[c]⟩ : Str))) = (f.ls.find? fun p => decide (p.1 = c)).map fun p => (Sum.inr (⟨#[p.1]⟩ : Str), PyData.int p.2) := by
    rw [List.find?_map]
    congr 2
    funext p
    simp
  rw [dlook_find]
  unfold lkv wdL
  rw [e]
  cases q : f.ls.find? (fun p => decide (p.1 = c)) with
  | none =>
    exfalso
    obtain ⟨p, hp, e⟩ := List.mem_map.mp h
    exact List.find?_eq_none.mp q p hp (by simpa using e)
  | some p => simp
theorem wdL_at {f : Face} {i c : Nat} (nd : f.lets.Nodup) (h : f.lets[i]? = some c) : ∃ p, f.ls[i]? = some p ∧ p.1 = c ∧ p.2 = wdL f c := by
  have h' := h
  unfold Face.lets at h'
  rw [List.getElem?_map, Option.map_eq_some_iff] at h'
  obtain ⟨p, hp, e⟩ := h'
  refine ⟨p, hp, e, ?_⟩
  unfold wdL
  have : f.ls.find? (fun p => decide (p.1 = c)) = some p := by
    cases q : f.ls.find? (fun p => decide (p.1 = c)) with
    | none => exact absurd (List.find?_eq_none.mp q p (List.mem_of_getElem? hp)) (by simp [e])
    | some p' =>
      have m := List.mem_of_find?_eq_some q
      have e' : p'.1 = c := by simpa using List.find?_some q
      obtain ⟨j, hj, ej⟩ := List.mem_iff_getElem.mp m
      have hj2 : f.lets[j]? = some c := by
        unfold Face.lets
        rw [List.getElem?_map, List.getElem?_eq_getElem hj, ej]
        exact congrArg some e'
      have : i = j := nodup_get nd h hj2
      subst this
      rw [List.getElem?_eq_getElem hj, ej] at hp
      exact hp
  rw [this]
  rfl
def addF (f : Face) (c : Nat) (w : Int) : Face := ⟨f.w, f.ls ++ [(c, w)]⟩
theorem addF_lets (f : Face) (c : Nat) (w : Int) : (addF f c w).lets = f.lets ++ [c] := by simp [addF, Face.lets]
theorem addF_py (f : Face) (c : Nat) (w : Int) : (addF f c w).py = .tuple [.int f.w, .tuple (f.ls.map encL ++ [.tuple [lt c, .int w]])] := by simp [addF, Face.py, encL]
theorem addF_good {f : Face} {lo hi : Int} (g : f.Good lo hi) {c : Nat} {w : Int} (hc : c ∉ f.lets) (h1 : 97 ≤ c ∧ c ≤ 122) (h2 : 10 ≤ w ∧ w ≤ 99) : (addF f c w).Good lo (hi + 1) := by
  refine ⟨g.w0, g.w1, ?_, ?_, ?_, ?_⟩
  · have := g.lo
    simp [addF]
    omega
  · have := g.hi
    simp [addF]
    omega
  · show ((f.ls ++ [(c, w)]).map (·.1)).Nodup
    rw [List.map_append, List.nodup_append]
    refine ⟨g.nd, by simp, fun x hx y hy => ?_⟩
    simp at hy
    rintro rfl
    exact hc (hy ▸ hx)
  · intro q hq
    have hq : q ∈ f.ls ++ [(c, w)] := hq
    rw [List.mem_append] at hq
    rcases hq with hq | hq
    · exact g.ok q hq
    · simp at hq
      subst hq
      exact ⟨h1.1, h1.2, h2.1, h2.2⟩
/-- the rows of a list with a letter like another one -/
def likeR (f : Face) (P : List Pair) (o : Nat) : List (List Int) := (f.lets ++ [o]).map fun l => (f.lets ++ [o]).map fun r => gapIn P l r
theorem with_like_eq {f : Face} {P : List Pair} {c o : Nat} (nd : f.lets.Nodup) (h9 : f.ls.length < 10) (hc : c ∉ f.lets) (h1 : 97 ≤ c ∧ c ≤ 122) (ho : o ∈ f.lets) (S : Sto) :
    F_with_like [.py f.py, .py (encP P), .py (lt c), .py (lt o)] S = .ok (.py (.tuple [(addF f c (wdL f o)).py, encP (mlist (f.lets ++ [c]) (likeR f P o))])) S := by
  have sh : Short 10000 (lt c) := fun x e => by cases e; simp [Str.length]
  have n1 := fun T => need_fresh_any (f := f) sh T
  have hd : isL (lt c) = some c := by simp [isL, h1]
  have hyes : ∃ c', isL (lt c) = some c' ∧ c' ∉ f.lets := ⟨c, hd, hc⟩
  simp only [if_pos hyes] at n1
  have n2 := need_letter_all (f := f) (t := lt o)
  have io := lt_isIn ho
  have n3 := fun T => need_room_any (f := f) T
  simp only [if_neg (show ¬ 10 ≤ f.ls.length by omega)] at n3
  have gi := fun l r T => gap_in_eq P l r T
  have pp := plc_lt ho
  have at_ : f.lets[plc f.lets o]? = some o := by
    rw [List.getElem?_eq_getElem pp]
    exact congrArg some (List.getElem_idxOf pp)
  have hp : f.lets.findIdx? (isOne (lt o)) = some (plc f.lets o) := by
    rw [← find_nd nd at_]
    congr 1
    funext y
    show decide ((⟨#[y]⟩ : Str) = ⟨#[o]⟩) = _
    simp
  generalize plc f.lets o = i at *
  obtain ⟨p, q1, q2, q3⟩ := wdL_at nd at_
  have pl : plcD (some i) = .int (i : Nat) := rfl
  have i0 : ∀ T, itemD (.py f.py) (.py (.int 0)) T = .ok (.py (.int f.w)) T := fun T => itemD_tupleI (by decide) rfl
  have i1 : ∀ T, itemD (.py f.py) (.py (.int 1)) T = .ok (.py (.tuple (f.ls.map encL))) T := fun T => itemD_tupleI (by decide) rfl
  have i2 : ∀ T, itemD (.py (.tuple (f.ls.map encL))) (.py (.int (i : Nat))) T = .ok (.py (encL p)) T := fun T => itemD_tuple i (by rw [List.getElem?_map, q1]; rfl)
  have i3 : ∀ T, itemD (.py (encL p)) (.py (.int 1)) T = .ok (.py (.int (wdL f o))) T := fun T => by rw [← q3]; exact itemD_tupleI (by decide) rfl
  have adt : ∀ T, addD (.py (.tuple (f.ls.map encL))) (.py (.tuple [.tuple [lt c, .int (wdL f o)]])) T = .ok (.py (.tuple (f.ls.map encL ++ [.tuple [lt c, .int (wdL f o)]]))) T := fun T => by
    unfold addD
    simp only
    rw [if_pos (by rw [List.length_map, sl_big']; simp; omega)]
  have lo := letters_of_eq (addF f c (wdL f o))
  rw [addF_lets, addF_py] at lo
  have ec : ∀ (x : Nat) T, eqD (.py (lt x)) (.py (lt c)) T = .ok (.py (.bool (decide (x = c)))) T := fun x T => by
    rw [eq_all]
    congr 3
    show decide ((⟨#[x]⟩ : Str) = ⟨#[c]⟩) = _
    simp
  have fr := from_rows_eq (addF f c (wdL f o)) (likeR f P o) S (by simp [addF]; omega)
  rw [addF_lets, addF_py] at fr
  rw [addF_py]
  have hst : ((f.lets ++ [c]).map fun x => if x = c then o else x) = f.lets ++ [o] := by
    rw [List.map_append]
    have : (f.lets.map fun x => if x = c then o else x) = f.lets := by
      conv => rhs; rw [← List.map_id f.lets]
      refine List.map_congr_left fun x hx => ?_
      have : x ≠ c := fun e => hc (e ▸ hx)
      rw [if_neg this]
      rfl
    rw [this]
    simp
  obtain ⟨lp, hlp⟩ : ∃ lp, lp = PyData.tuple [.int f.w, .tuple (f.ls.map encL ++ [.tuple [lt c, .int (wdL f o)]])] := ⟨_, rfl⟩
  rw [← hlp] at lo fr ⊢
  unfold F_with_like b_with_like
  refine fn_eq (wp_fn ?_)
  simp [init, n1, n2, io, hp, pl, n3, i0, i1, i2, i3, adt, ← hlp, lo]
  have e0 : List.map (D.py ∘ lt) f.lets ++ [D.py (lt c)] = (f.lets ++ [c]).map (D.py ∘ lt) := by simp
  rw [e0]
  refine wp_pureM1 (D.py ∘ lt) (fun x => D.py (lt (if x = c then o else x))) (fun x hx => ?_) ?_
  · by_cases e : x = c
    · exact wp_eq (by simp [ec, e])
    · exact wp_eq (by simp [ec, e])
  have e1 : ((f.lets ++ [c]).map fun x => D.py (lt (if x = c then o else x))) = ((f.lets ++ [o]).map lt).map D.py := by
    rw [← hst, List.map_map, List.map_map]
    rfl
  rw [e1, pysOf_map]
  simp only [List.map_map]
  refine wp_pureM1 (D.py ∘ lt) (fun l => D.py (.list (((f.lets ++ [o]).map fun r => gapIn P l r).map .int))) (fun l hl => wp_eq ?_) ?_
  · have sq : ∀ T, varE 6 [some (D.py f.py), some (D.py (encP P)), some (D.py (lt c)), some (D.py (lt o)), some (D.py (PyData.int (i : Nat))), some (D.py lp), some (D.py (.list ((f.lets ++ [o]).map lt))), none, none, some (D.py (lt l)), none] T = .ok (D.py (.list ((f.lets ++ [o]).map lt))) T := fun T => rfl
    simp [-List.map_append]
    refine wp_pureM1 (D.py ∘ lt) (fun r => D.py (.int (gapIn P l r))) (fun r hr => wp_eq (by simp [gi])) ?_
    have e2 : ((f.lets ++ [o]).map fun r => D.py (.int (gapIn P l r))) = (((f.lets ++ [o]).map fun r => gapIn P l r).map PyData.int).map D.py := by rw [List.map_map, List.map_map]; rfl
    rw [e2, pysOf_map]
    simp
  have e3 : ((f.lets ++ [o]).map fun l => D.py (.list (((f.lets ++ [o]).map fun r => gapIn P l r).map .int))) = ((likeR f P o).map fun r => PyData.list (r.map .int)).map D.py := by
    unfold likeR
    rw [List.map_map, List.map_map]
    rfl
  rw [e3, pysOf_map]
  have fr' : F_from_rows [.py lp, .py (.list ((likeR f P o).map fun r => PyData.list (r.map .int)))] S = .ok (.py (encP (mlist (f.lets ++ [c]) (likeR f P o)))) S := fr
  simp only [fr', wp_ok]
  exact ⟨S, .self, rfl, rfl, rfl⟩
end DV

set_option maxHeartbeats 4000000
namespace DV
open PySem
/-! Tuples of pairs in order, each with a gap, asked of any thing. -/
/-- the place of a thing among letters -/
def plOf (L : List Nat) (t : PyData) : Option Nat := L.findIdx? (isOne t)
theorem plOf_some {L : List Nat} {t : PyData} : (plOf L t).isSome = L.any (isOne t) := by
  unfold plOf
  cases e : L.findIdx? (isOne t) with
  | none =>
    rw [List.findIdx?_eq_none_iff] at e
    symm
    simpa using e
  | some i =>
    obtain ⟨h1, h2, _⟩ := List.findIdx?_eq_some_iff_getElem.mp e
    symm
    exact List.any_eq_true.mpr ⟨_, List.getElem_mem h1, h2⟩
theorem plOf_lt {L : List Nat} {t : PyData} {i : Nat} (h : plOf L t = some i) : i < L.length ∧ ∃ c, L[i]? = some c ∧ t = lt c := by
  obtain ⟨h1, h2, _⟩ := List.findIdx?_eq_some_iff_getElem.mp h
  exact ⟨h1, L[i], by rw [List.getElem?_eq_getElem h1], isOne_lt h2⟩
def trip (L : List Nat) : PyData → Option (Nat × Nat × Int)
  | .tuple [a, b, .int g] => if -9 ≤ g ∧ g ≤ 9 then (match plOf L a, plOf L b with
    | some i, some j => some (i, j, g)
    | _, _ => none) else none
  | _ => none
theorem trip_is {L : List Nat} {x : PyData} {c : Nat × Nat × Int} (h : trip L x = some c) : ∃ a b, x = .tuple [a, b, .int c.2.2] ∧ (-9 ≤ c.2.2 ∧ c.2.2 ≤ 9) ∧ plOf L a = some c.1 ∧ plOf L b = some c.2.1 := by
  unfold trip at h
  split at h
  · rename_i a b g
    split at h
    · rename_i hg
      split at h
      · rename_i i j h1 h2
        cases h
        exact ⟨a, b, rfl, hg, h1, h2⟩
      · cases h
    · cases h
  · cases h
def trips (L : List Nat) : List PyData → Option (List (Nat × Nat × Int))
  | [] => some []
  | x :: xs => match trip L x, trips L xs with
    | some c, some cs => some (c :: cs)
    | _, _ => none
def ltC (a b : Nat × Nat × Int) : Prop := a.1 < b.1 ∨ (a.1 = b.1 ∧ a.2.1 < b.2.1)
instance (a b : Nat × Nat × Int) : Decidable (ltC a b) := by unfold ltC; infer_instance
/-- noughts are let where nz -/
def isTold (L : List Nat) (nz : Bool) : PyData → Bool
  | .tuple ts => match trips L ts with
    | some cs => decide (cs.Pairwise ltC) && (nz || cs.all fun c => decide (c.2.2 ≠ 0))
    | none => false
  | _ => false
theorem trips_snoc {L : List Nat} {x : PyData} {c : Nat × Nat × Int} : ∀ {xs : List PyData} {cs : List (Nat × Nat × Int)}, trips L xs = some cs → trip L x = some c → trips L (xs ++ [x]) = some (cs ++ [c])
  | [], cs, h, hx => by
    cases h
    simp [trips, hx]
  | y :: xs, cs, h, hx => by
    unfold trips at h
    split at h
    · rename_i d ds h1 h2
      cases h
      rw [List.cons_append, trips, h1, trips_snoc h2 hx]
      rfl
    · cases h
theorem trips_none {L : List Nat} {x : PyData} {post : List PyData} : ∀ {xs : List PyData}, trip L x = none → trips L (xs ++ x :: post) = none
  | [], hx => by simp [trips, hx]
  | y :: xs, hx => by
    rw [List.cons_append, trips, trips_none (xs := xs) hx]
    split
    · rename_i h; cases h
    · rfl
theorem trips_cut {L : List Nat} : ∀ {xs ys : List PyData} {cs : List (Nat × Nat × Int)}, trips L (xs ++ ys) = some cs → ∃ as bs, trips L xs = some as ∧ trips L ys = some bs ∧ cs = as ++ bs
  | [], ys, cs, h => ⟨[], cs, rfl, h, rfl⟩
  | x :: xs, ys, cs, h => by
    rw [List.cons_append, trips] at h
    split at h
    · rename_i d ds h1 h2
      cases h
      obtain ⟨as, bs, e1, e2, rfl⟩ := trips_cut h2
      exact ⟨d :: as, bs, by rw [trips, h1, e1], e2, rfl⟩
    · cases h
theorem isTold_bad {L : List Nat} {nz : Bool} {pre post : List PyData} {x : PyData} (h : trip L x = none) : isTold L nz (.tuple (pre ++ x :: post)) = false := by
  unfold isTold
  simp only [trips_none h]
theorem isTold_order {L : List Nat} {nz : Bool} {pre post : List PyData} {x : PyData} {cs : List (Nat × Nat × Int)} {c : Nat × Nat × Int} (h1 : trips L pre = some cs) (h2 : trip L x = some c) {a : Nat × Nat × Int} (ha : a ∈ cs) (hn : ¬ ltC a c) : isTold L nz (.tuple (pre ++ x :: post)) = false := by
  unfold isTold
  simp only
  cases e : trips L (pre ++ x :: post) with
  | none => rfl
  | some zs =>
    simp only
    have e' : pre ++ x :: post = (pre ++ [x]) ++ post := by simp
    rw [e'] at e
    obtain ⟨as, bs, e1, e2, rfl⟩ := trips_cut e
    rw [trips_snoc h1 h2] at e1
    cases e1
    rw [decide_eq_false, Bool.false_and]
    intro hp
    have := (List.pairwise_append.mp (List.pairwise_append.mp hp).1).2.2 a ha c (by simp)
    exact hn this
theorem not_three {L : List Nat} {gs : List PyData} (h : gs.length ≠ 3) : trip L (.tuple gs) = none := by
  unfold trip
  split
  · rename_i e
    cases e
    exact absurd rfl h
  · rfl
theorem three {gs : List PyData} (h : gs.length = 3) : ∃ a b c, gs = [a, b, c] := by
  match gs, h with
  | [a, b, c], _ => exact ⟨a, b, c, rfl⟩
theorem trip_gap {L : List Nat} {a b c : PyData} (h : isFT (-9) 9 c = false) : trip L (.tuple [a, b, c]) = none := by
  unfold trip
  split
  · rename_i e
    cases e
    rw [if_neg]
    intro hg
    simp [isFT, hg] at h
  · rfl
theorem is_ft {c : PyData} {lo hi : Int} (h : isFT lo hi c = true) : ∃ g, c = .int g ∧ lo ≤ g ∧ g ≤ hi := by
  cases c with
  | int g => exact ⟨g, rfl, of_decide_eq_true h⟩
  | _ => cases h
/-- what has been walked, and the pair ahead -/
def OkA (L : List Nat) (pre : List PyData) (A B : Int) : Prop := ∃ cs, trips L pre = some cs ∧ cs.Pairwise ltC ∧
  (∀ a ∈ cs, (a.1 : Int) < A ∨ ((a.1 : Int) = A ∧ (a.2.1 : Int) ≤ B)) ∧ ((A = -1 ∧ B = -1) ∨ ∃ a ∈ cs, (a.1 : Int) = A ∧ (a.2.1 : Int) = B)
theorem is_told_any {f : Face} (p : PyData) (S : Sto) : F_is_told [.py f.py, .py p] S = .ok (.py (.bool (isTold f.lets true p))) S := by
  unfold F_is_told b_is_told
  refine fn_eq (wp_fn ?_)
  cases p with
  | none => simp [init, isB, isTold]; exact ⟨.self, rfl⟩
  | bool b => simp [init, isB, isTold]; exact ⟨.self, rfl⟩
  | int b => simp [init, isB, isTold]; exact ⟨.self, rfl⟩
  | str b => simp [init, isB, isTold]; exact ⟨.self, rfl⟩
  | list b => simp [init, isB, isTold]; exact ⟨.self, rfl⟩
  | dict b => simp [init, isiD, tyN, isB, isTold]; exact ⟨.self, rfl⟩
  | tuple ts =>
    have n1 : ∀ T, negD (.py (.int 1)) T = .ok (.py (.int (-1))) T := fun T => rfl
    simp [init, isB, pysOf, n1, -wp_forL_cons]
    refine wp_forM D.py (fun pre σ T => wipeD σ [2, 3, 4, 5] = wipeD (init 6 [.py f.py, .py (.tuple ts)]) [2, 3, 4, 5] ∧ T = S ∧ ∃ A B, σ[2]? = some (some (.py (.tuple [.int A, .int B]))) ∧ OkA f.lets pre A B) ⟨rfl, rfl, -1, -1, rfl, [], rfl, .nil, by simp, .inl ⟨rfl, rfl⟩⟩ ?_ ?_
    · rintro pre x post σ T e ⟨hσ, rfl, A, B, h2, cs, hcs, hpw, hle, hin⟩
      obtain ⟨v2, v3, v4, v5, rfl⟩ := slot4 hσ
      clear hσ
      have h2 : v2 = some (.py (.tuple [.int A, .int B])) := by simpa [init, wipeD] using h2
      subst h2
      have bad : trip f.lets x = none → ∃ U, Cut T T U ∧ (D.py (PyData.bool false)).pure = true ∧ isTold f.lets true (.tuple ts) = false ∧ U = T := fun h => ⟨T, .self, rfl, by rw [e]; exact isTold_bad h, rfl⟩
      cases x with
      | none => simp [init, isB]; exact bad rfl
      | bool b => simp [init, isB]; exact bad rfl
      | int b => simp [init, isB]; exact bad rfl
      | str b => simp [init, isB]; exact bad rfl
      | list b => simp [init, isB]; exact bad rfl
      | dict b => simp [init, isiD, tyN, isB]; exact bad rfl
      | tuple gs =>
        by_cases hl : gs.length = 3
        · obtain ⟨a, b, c, rfl⟩ := three hl
          have i2 : ∀ T, itemD (.py (.tuple [a, b, c])) (.py (.int 2)) T = .ok (.py c) T := fun T => itemD_tupleI (by decide) rfl
          have i0 : ∀ T, itemD (.py (.tuple [a, b, c])) (.py (.int 0)) T = .ok (.py a) T := fun T => itemD_tupleI (by decide) rfl
          have i1 : ∀ T, itemD (.py (.tuple [a, b, c])) (.py (.int 1)) T = .ok (.py b) T := fun T => itemD_tupleI (by decide) rfl
          by_cases hg : isFT (-9) 9 c = true
          · obtain ⟨g, rfl, hg1, hg2⟩ := is_ft hg
            have pa : ∀ T, F_place_of [.py f.py, .py a] T = .ok (.py (plcD (plOf f.lets a))) T := fun T => place_all T
            have pb : ∀ T, F_place_of [.py f.py, .py b] T = .ok (.py (plcD (plOf f.lets b))) T := fun T => place_all T
            cases ea : plOf f.lets a with
            | none =>
              rw [ea] at pa
              simp [init, isB, i0, i1, i2, is_gap_any, hg, pa, pb, plcD]
              exact bad (by simp [trip, hg1, hg2, ea])
            | some i =>
              rw [ea] at pa
              cases eb : plOf f.lets b with
              | none =>
                rw [eb] at pb
                simp [init, isB, i0, i1, i2, is_gap_any, hg, pa, pb, plcD]
                exact bad (by simp [trip, hg1, hg2, ea, eb])
              | some j =>
                rw [eb] at pb
                have et : trip f.lets (.tuple [a, b, .int g]) = some (i, j, g) := by simp [trip, hg1, hg2, ea, eb]
                have le : ∀ T, leTD (.py (.tuple [.int (i : Int), .int (j : Int)])) (.py (.tuple [.int A, .int B])) T = .ok (.py (.bool (if (i : Int) = A then decide ((j : Int) ≤ B) else decide ((i : Int) ≤ A)))) T := fun T => rfl
                have hpos := hin
                by_cases hc : (if (i : Int) = A then decide ((j : Int) ≤ B) else decide ((i : Int) ≤ A)) = true
                · simp [init, isB, i0, i1, i2, is_gap_any, hg, pa, pb, plcD, pysOf, le, hc]
                  refine ⟨T, .self, rfl, ?_, rfl⟩
                  rw [e]
                  have hle2 : (i : Int) < A ∨ ((i : Int) = A ∧ (j : Int) ≤ B) := by
                    by_cases q : (i : Int) = A
                    · rw [if_pos q] at hc
                      exact .inr ⟨q, of_decide_eq_true hc⟩
                    · rw [if_neg q] at hc
                      have := of_decide_eq_true hc
                      omega
                  rcases hin with ⟨rfl, rfl⟩ | ⟨z, hz, z1, z2⟩
                  · omega
                  · refine isTold_order hcs et hz ?_
                    unfold ltC
                    simp only
                    omega
                · have hc' : (if (i : Int) = A then decide ((j : Int) ≤ B) else decide ((i : Int) ≤ A)) = false := (Bool.not_eq_true _).mp hc
                  have hgt : A < (i : Int) ∨ (A = (i : Int) ∧ B < (j : Int)) := by
                    by_cases q : (i : Int) = A
                    · rw [if_pos q] at hc'
                      have := of_decide_eq_false hc'
                      omega
                    · rw [if_neg q] at hc'
                      have := of_decide_eq_false hc'
                      omega
                  simp [init, isB, i0, i1, i2, is_gap_any, hg, pa, pb, plcD, pysOf, le, hc']
                  refine ⟨i, j, ⟨rfl, rfl⟩, cs ++ [(i, j, g)], trips_snoc hcs et, List.pairwise_append.mpr ⟨hpw, by simp, fun z hz w hw => ?_⟩, fun z hz => ?_, .inr ⟨(i, j, g), by simp, rfl, rfl⟩⟩
                  · rw [List.mem_singleton] at hw
                    subst hw
                    have := hle z hz
                    unfold ltC
                    simp only
                    omega
                  · rcases List.mem_append.mp hz with hz | hz
                    · have := hle z hz
                      omega
                    · rw [List.mem_singleton] at hz
                      subst hz
                      exact .inr ⟨rfl, Int.le_refl _⟩
          · have hg' : isFT (-9) 9 c = false := by simpa using hg
            simp [init, isB, i2, is_gap_any, hg']
            exact bad (trip_gap hg')
        · have hl' : ¬ (gs.length : Int) = 3 := by omega
          simp [init, isB, hl']
          exact bad (not_three hl)
    · rintro σ T ⟨hσ, rfl, A, B, h2, cs, hcs, hpw, hle, hin⟩
      obtain ⟨v2, v3, v4, v5, rfl⟩ := slot4 hσ
      simp
      exact ⟨T, .self, rfl, by simp [isTold, hcs, hpw], rfl⟩
theorem tuple_ft {S : Sto} {g : Int} : neD (.py (.int g)) (.py (.int 0)) S = .ok (.py (.bool (!decide (g = 0)))) S := rfl
theorem isTold_and {L : List Nat} {ts : List PyData} {cs : List (Nat × Nat × Int)} (h : trips L ts = some cs) (nz : Bool) : isTold L nz (.tuple ts) = (decide (cs.Pairwise ltC) && (nz || cs.all fun c => decide (c.2.2 ≠ 0))) := by
  unfold isTold
  simp only [h]
theorem trips_mem {L : List Nat} {x : PyData} : ∀ {xs : List PyData} {cs : List (Nat × Nat × Int)}, trips L xs = some cs → x ∈ xs → ∃ c, trip L x = some c
  | y :: xs, cs, h, hx => by
    rw [trips] at h
    split at h
    · rename_i d ds h1 h2
      rcases List.mem_cons.mp hx with rfl | hx
      · exact ⟨_, h1⟩
      · exact trips_mem h2 hx
    · cases h
/-- the gap of one item -/
def gapT : PyData → Int
  | .tuple [_, _, .int g] => g
  | _ => 0
theorem gapT_of {L : List Nat} {x : PyData} {c : Nat × Nat × Int} (h : trip L x = some c) : gapT x = c.2.2 := by
  obtain ⟨a, b, rfl, _⟩ := trip_is h
  rfl
theorem gaps_of {L : List Nat} : ∀ {xs : List PyData} {cs : List (Nat × Nat × Int)}, trips L xs = some cs → (xs.map fun x => decide (gapT x ≠ 0)) = cs.map fun c => decide (c.2.2 ≠ 0)
  | [], cs, h => by cases h; rfl
  | x :: xs, cs, h => by
    rw [trips] at h
    split at h
    · rename_i d ds h1 h2
      cases h
      rw [List.map_cons, List.map_cons, gaps_of h2, gapT_of h1]
    · cases h
theorem is_list_any {f : Face} (p : PyData) (S : Sto) : F_is_list [.py f.py, .py p] S = .ok (.py (.bool (isTold f.lets false p))) S := by
  have it := fun T => is_told_any (f := f) p T
  unfold F_is_list b_is_list
  refine fn_eq (wp_fn ?_)
  by_cases h : isTold f.lets true p = true
  · cases p with
    | tuple ts =>
      cases ec : trips f.lets ts with
      | none => unfold isTold at h; simp only [ec] at h; cases h
      | some cs =>
        have h1 := isTold_and ec true
        have h2 := isTold_and ec false
        rw [h] at h1
        have hp : decide (cs.Pairwise ltC) = true := by simpa using h1.symm
        rw [hp] at h2
        simp [init, it, h]
        refine wp_pureM D.py (fun _ => true) (fun x => D.py (.bool (decide (gapT x ≠ 0)))) (fun x hx => ?_) ?_
        · obtain ⟨c, hc⟩ := trips_mem ec hx
          obtain ⟨a, b, rfl, _⟩ := trip_is hc
          simp [gapT, tuple_ft]
          try (by_cases q : c.2.2 = 0 <;> simp [q])
        · rw [List.filter_eq_self.mpr fun _ _ => rfl]
          have e1 : (ts.map fun x => D.py (.bool (decide (gapT x ≠ 0)))) = ((ts.map fun x => decide (gapT x ≠ 0)).map PyData.bool).map D.py := by simp
          rw [e1, pysOf_map]
          simp only [allD_bools]
          rw [gaps_of ec, h2]
          have hh : (cs.map fun c => decide (c.2.2 ≠ 0)).all id = (true && (false || cs.all fun c => decide (c.2.2 ≠ 0))) := by
            rw [List.all_map]
            rfl
          rw [hh]
          generalize (true && (false || cs.all fun c => decide (c.2.2 ≠ 0))) = q
          simp
          first | exact ⟨S, .self, rfl, rfl, rfl⟩ | exact ⟨.self, rfl⟩ | exact .self
    | _ => cases h
  · have h' : isTold f.lets true p = false := by simpa using h
    have hf : isTold f.lets false p = false := by
      cases p with
      | tuple ts =>
        cases ec : trips f.lets ts with
        | none => unfold isTold; simp only [ec]
        | some cs =>
          have h1 := isTold_and ec true
          rw [h'] at h1
          have hp : decide (cs.Pairwise ltC) = false := by simpa using h1.symm
          rw [isTold_and ec false, hp, Bool.false_and]
      | _ => rfl
    simp [init, it, h', hf]
    exact ⟨.self, rfl⟩
/-! ### the law's own -/
end DV

set_option maxHeartbeats 4000000
namespace DV
open PySem
/-! The law's things: some told ones, many spoilt ones. -/
theorem bulk_len : ∀ ds : List PyData, ds.length ≤ PyData.bulkAll ds
  | [] => Nat.zero_le _
  | d :: ds => by
    have := bulk_len ds
    rw [PyData.bulkAll.eq_2, List.length_cons]
    omega
theorem FitX.len {ts : List PyData} {k w : Nat} (h : FitX (.tuple ts) k w) : ts.length ≤ w := by
  obtain ⟨j, _, _, hb⟩ := h.items
  exact Nat.le_trans (bulk_len ts) hb
end DV

set_option maxHeartbeats 4000000
namespace DV
open PySem
/-! Partings, asked of any thing. -/
def pInts (is : List Nat) : List Int := is.map fun k : Nat => (k : Int)
@[simp] theorem pInts_len (is : List Nat) : (pInts is).length = is.length := by simp [pInts]
@[simp] theorem headD_take (is : List Nat) (h : is ≠ []) : is.take 1 = [is.headD 0] := by
  cases is with
  | nil => exact absurd rfl h
  | cons a r => rfl
/-! ### what is a parting is one -/
end DV

set_option maxHeartbeats 4000000
namespace DV
open PySem
/-! Lists with open pairs. -/
end DV

set_option maxHeartbeats 4000000
namespace DV
open PySem
/-! Open lists closed by a parting. -/
/-- a list of the store that is filled while others come and go above it -/
def Fil (S : Sto) (ds : List PyData) (T : Sto) : Prop := ∃ G, T = S ++ O.lst (ds.map D.py) :: G
theorem Fil.get {S T : Sto} {ds : List PyData} (h : Fil S ds T) : T[S.length]? = some (.lst (ds.map D.py)) := by
  obtain ⟨G, rfl⟩ := h
  simp
theorem Fil.app {S T : Sto} {ds : List PyData} (h : Fil S ds T) (hl : ds.length ≤ 100000) (d : PyData) : ∃ U, appendD (.obj S.length) [.py d] T = .ok (.py .none) U ∧ Fil S (ds ++ [d]) U := by
  have hg := h.get
  obtain ⟨G, rfl⟩ := h
  refine ⟨_, appendD_obj hg (by rw [List.length_map, sl_tr]; omega), G, ?_⟩
  rw [List.set_append_right _ _ (by omega)]
  simp
theorem Fil.more {S T : Sto} {ds : List PyData} (h : Fil S ds T) (U : Sto) : Fil S ds (T ++ U) := by
  obtain ⟨G, rfl⟩ := h
  exact ⟨G ++ U, by simp⟩
end DV

set_option maxHeartbeats 4000000
namespace DV
open PySem
/-! Open lists drawn. -/
end DV

set_option maxHeartbeats 4000000
namespace DV
open PySem
/-! Open lists in order are open lists. -/
theorem plOf_mem {L : List Nat} (nd : L.Nodup) {c : Nat} (hc : c ∈ L) : plOf L (lt c) = some (plc L c) := by
  have h2 : (plOf L (lt c)).isSome = true := by
    rw [plOf_some, List.any_eq_true]
    exact ⟨c, hc, by simp [isOne]⟩
  obtain ⟨i, hi⟩ := Option.isSome_iff_exists.mp h2
  obtain ⟨_, d, hd, e⟩ := plOf_lt hi
  have : c = d := by simpa using e
  subst this
  rw [hi, plc_at nd hd]
def codO (L : List Nat) (p : Pair) : Nat × Nat × Int := (plc L p.1, plc L p.2.1, p.2.2)
theorem trips_of {L : List Nat} (nd : L.Nodup) : ∀ {P : List Pair}, (∀ q ∈ P, q.1 ∈ L ∧ q.2.1 ∈ L ∧ -9 ≤ q.2.2 ∧ q.2.2 ≤ 9) → trips L (P.map encT) = some (P.map (codO L))
  | [], _ => rfl
  | p :: P, h => by
    obtain ⟨h1, h2, h3⟩ := h p (by simp)
    have e : trip L (encT p) = some (codO L p) := by
      show (if -9 ≤ p.2.2 ∧ p.2.2 ≤ 9 then (match plOf L (lt p.1), plOf L (lt p.2.1) with
        | some i, some j => some (i, j, p.2.2)
        | _, _ => none) else none) = _
      rw [if_pos h3]
      simp only [plOf_mem nd h1, plOf_mem nd h2]
      rfl
    rw [List.map_cons, List.map_cons]
    unfold trips
    simp only [e, trips_of nd fun q hq => h q (List.mem_cons_of_mem _ hq)]
theorem told_true {L : List Nat} (nd : L.Nodup) {P : List Pair} (h : ∀ q ∈ P, q.1 ∈ L ∧ q.2.1 ∈ L ∧ -9 ≤ q.2.2 ∧ q.2.2 ≤ 9) (hs : (P.map fun p => (p.1, p.2.1)).Sublist (allP L L)) : isTold L true (encP P) = true := by
  have pw : (allP L L).Pairwise fun p q => plc L p.1 < plc L q.1 ∨ (plc L p.1 = plc L q.1 ∧ plc L p.2 < plc L q.2) := by
    have hp : L.Pairwise fun a b => plc L a < plc L b := by
      rw [List.pairwise_iff_getElem]
      intro i j hi hj hij
      rw [plc_at nd (List.getElem?_eq_getElem hi), plc_at nd (List.getElem?_eq_getElem hj)]
      exact hij
    unfold allP
    rw [List.pairwise_flatMap]
    refine ⟨fun a _ => ?_, hp.imp fun {a b} hab x hx y hy => ?_⟩
    · rw [List.pairwise_map]
      exact hp.imp fun h => .inr ⟨rfl, h⟩
    · obtain ⟨_, _, rfl⟩ := List.mem_map.mp hx
      obtain ⟨_, _, rfl⟩ := List.mem_map.mp hy
      exact .inl hab
  have p2 := List.Pairwise.sublist hs pw
  rw [List.pairwise_map] at p2
  have p3 : (P.map (codO L)).Pairwise ltC := by
    rw [List.pairwise_map]
    exact p2.imp fun {a b} h => h
  unfold isTold
  simp only [encP, trips_of nd h]
  simp [p3]
end DV

set_option maxHeartbeats 4000000
namespace DV
open PySem
/-! Is any thing a face? -/
def letF : PyData → Option Nat
  | .tuple [d, w] => if isFT 10 99 w = true then isL d else none
  | _ => none
def letsF : List PyData → Option (List Nat)
  | [] => some []
  | d :: ds => match letF d, letsF ds with
    | some c, some cs => some (c :: cs)
    | _, _ => none
def nodF (ls : List PyData) : Bool := match letsF ls with
  | some cs => decide cs.Nodup
  | none => false
def isFace : PyData → Bool
  | .tuple [d, .tuple ls] => isFT 1 99 d && (decide (1 ≤ ls.length ∧ ls.length ≤ 10) && nodF ls)
  | _ => false
theorem letF_is {x : PyData} {c : Nat} (h : letF x = some c) : ∃ w, x = .tuple [lt c, w] ∧ isFT 10 99 w = true ∧ isL (lt c) = some c ∧ 97 ≤ c ∧ c ≤ 122 := by
  unfold letF at h
  split at h
  · rename_i d w
    split at h
    · rename_i hw
      have h' := h
      obtain ⟨rfl, h1, h2⟩ := isL_lt h
      exact ⟨w, rfl, hw, h', h1, h2⟩
    · cases h
  · cases h
theorem letsF_snoc {x : PyData} {c : Nat} : ∀ {xs : List PyData} {cs : List Nat}, letsF xs = some cs → letF x = some c → letsF (xs ++ [x]) = some (cs ++ [c])
  | [], cs, h, hx => by
    cases h
    simp [letsF, hx]
  | y :: xs, cs, h, hx => by
    unfold letsF at h
    split at h
    · rename_i d ds h1 h2
      cases h
      rw [List.cons_append, letsF, h1, letsF_snoc h2 hx]
      rfl
    · cases h
theorem letsF_none {x : PyData} {post : List PyData} : ∀ {xs : List PyData}, letF x = none → letsF (xs ++ x :: post) = none
  | [], hx => by simp [letsF, hx]
  | y :: xs, hx => by
    rw [List.cons_append, letsF, letsF_none (xs := xs) hx]
    split
    · rename_i h; cases h
    · rfl
theorem letsF_len : ∀ {xs : List PyData} {cs : List Nat}, letsF xs = some cs → cs.length = xs.length
  | [], cs, h => by cases h; rfl
  | x :: xs, cs, h => by
    rw [letsF] at h
    split at h
    · rename_i d ds h1 h2
      cases h
      rw [List.length_cons, List.length_cons, letsF_len h2]
    · cases h
theorem nodF_bad {pre post : List PyData} {x : PyData} (h : letF x = none) : nodF (pre ++ x :: post) = false := by
  unfold nodF
  rw [letsF_none h]
theorem two {gs : List PyData} (h : gs.length = 2) : ∃ a b, gs = [a, b] := by
  match gs, h with
  | [a, b], _ => exact ⟨a, b, rfl⟩
theorem not_two {gs : List PyData} (h : gs.length ≠ 2) : letF (.tuple gs) = none := by
  unfold letF
  split
  · rename_i e
    cases e
    exact absurd rfl h
  · rfl
/-! a set of letters -/
theorem fold_lt : ∀ (cs acc : List Nat), (cs.map fun c => (⟨#[c]⟩ : Str)).foldl stepS (acc.map fun c => (⟨#[c]⟩ : Str)) = (cs.foldl (fun a c => if c ∈ a then a else a ++ [c]) acc).map fun c => (⟨#[c]⟩ : Str)
  | [], acc => rfl
  | c :: cs, acc => by
    have inj : ∀ a b : Nat, ((⟨#[a]⟩ : Str) == ⟨#[b]⟩) = decide (a = b) := fun a b => by
      by_cases h : a = b
      · subst h; simp
      · rw [decide_eq_false h]
        exact beq_eq_false_iff_ne.mpr fun e => h (by cases e; rfl)
    have e : stepS (acc.map fun c => (⟨#[c]⟩ : Str)) ⟨#[c]⟩ = (if c ∈ acc then acc else acc ++ [c]).map fun c => (⟨#[c]⟩ : Str) := by
      unfold stepS
      have ha : (acc.map fun c => (⟨#[c]⟩ : Str)).any (· == ⟨#[c]⟩) = decide (c ∈ acc) := by
        rw [List.any_map, Bool.eq_iff_iff, List.any_eq_true, decide_eq_true_eq]
        constructor
        · rintro ⟨x, hx, h⟩
          have h : ((⟨#[x]⟩ : Str) == ⟨#[c]⟩) = true := h
          rw [inj] at h
          exact of_decide_eq_true h ▸ hx
        · intro h
          exact ⟨c, h, by show ((⟨#[c]⟩ : Str) == ⟨#[c]⟩) = true; rw [inj]; simp⟩
      rw [ha]
      by_cases h : c ∈ acc <;> simp [h]
    rw [List.map_cons, List.foldl_cons, e, fold_lt cs, List.foldl_cons]
theorem fold_ge : ∀ (cs acc : List Nat), (cs.foldl (fun a c => if c ∈ a then a else a ++ [c]) acc).length ≤ acc.length + cs.length
  | [], acc => by simp
  | c :: cs, acc => by
    have h := fold_ge cs (if c ∈ acc then acc else acc ++ [c])
    rw [List.foldl_cons]
    split at h <;> simp_all <;> omega
theorem fold_nodup : ∀ (cs acc : List Nat), acc.Nodup → ((cs.foldl (fun a c => if c ∈ a then a else a ++ [c]) acc).length = acc.length + cs.length ↔ (acc ++ cs).Nodup)
  | [], acc, h => by simp [h]
  | c :: cs, acc, h => by
    rw [List.foldl_cons]
    by_cases hc : c ∈ acc
    · rw [if_pos hc]
      have := fold_ge cs acc
      constructor
      · intro e
        simp at e
        omega
      · intro hn
        exact absurd rfl ((List.nodup_append.mp hn).2.2 c hc c (by simp))
    · rw [if_neg hc]
      have hn : (acc ++ [c]).Nodup := List.nodup_append.mpr ⟨h, by simp, fun a ha b hb e => by
        rw [List.mem_singleton.mp hb] at e
        exact hc (e ▸ ha)⟩
      have := fold_nodup cs (acc ++ [c]) hn
      rw [List.append_assoc] at this
      simp only [List.length_append, List.length_cons, List.length_nil, List.singleton_append] at this ⊢
      rw [← this]
      omega
theorem dedS_lts (cs : List Nat) : (dedS (cs.map fun c => (⟨#[c]⟩ : Str))).length = cs.length ↔ cs.Nodup := by
  have h := fold_lt cs []
  unfold dedS
  rw [show ([] : List Str) = ([] : List Nat).map (fun c => (⟨#[c]⟩ : Str)) from rfl, h, List.length_map]
  simpa using fold_nodup cs [] List.nodup_nil
theorem textsOf_lts : ∀ cs : List Nat, textsOf (cs.map lt) = some (cs.map fun c => (⟨#[c]⟩ : Str))
  | [] => rfl
  | c :: cs => by
    show (textsOf (cs.map lt)).map _ = _
    rw [textsOf_lts cs]
    rfl
theorem lenSetX_lts {cs : List Nat} (h : cs.length ≤ 4000) (S : Sto) : lenSetX (.py (.list (cs.map lt))) S = .ok (.py (.int ((dedS (cs.map fun c => (⟨#[c]⟩ : Str))).length : Nat))) S := by
  have hd : deep S 8 (.py (.list (cs.map lt))) = some (.list (cs.map lt)) := rfl
  unfold lenSetX
  rw [hd]
  simp only [textsOf_lts]
  rw [if_pos (by simpa using h)]
theorem is_face_any {t : PyData} {k w : Nat} (h : FitX t k w) (hw : w ≤ 9000) (S : Sto) : F_is_face [.py t] S = .ok (.py (.bool (isFace t))) S := by
  unfold F_is_face b_is_face
  refine fn_eq (wp_fn ?_)
  cases t with
  | none => simp [init, isB, isFace]; exact ⟨.self, rfl⟩
  | bool b => simp [init, isB, isFace]; exact ⟨.self, rfl⟩
  | int b => simp [init, isB, isFace]; exact ⟨.self, rfl⟩
  | str b => simp [init, isB, isFace]; exact ⟨.self, rfl⟩
  | list b => simp [init, isB, isFace]; exact ⟨.self, rfl⟩
  | dict b => simp [init, isiD, tyN, isB, isFace]; exact ⟨.self, rfl⟩
  | tuple ts =>
    by_cases hl : ts.length = 2
    · obtain ⟨d, e, rfl⟩ := two hl
      have i0 : ∀ T, itemD (.py (.tuple [d, e])) (.py (.int 0)) T = .ok (.py d) T := fun T => itemD_tupleI (by decide) rfl
      have i1 : ∀ T, itemD (.py (.tuple [d, e])) (.py (.int 1)) T = .ok (.py e) T := fun T => itemD_tupleI (by decide) rfl
      have ft := from_to_any d 1 99
      have sd : ∀ ds, seqD (.py (.tuple ds)) = some ds := fun _ => rfl
      by_cases hd : isFT 1 99 d = true
      · cases e with
        | none => simp [init, isB, isFace, i0, i1, ft, hd]; exact ⟨.self, rfl⟩
        | bool b => simp [init, isB, isFace, i0, i1, ft, hd]; exact ⟨.self, rfl⟩
        | int b => simp [init, isB, isFace, i0, i1, ft, hd]; exact ⟨.self, rfl⟩
        | str b => simp [init, isB, isFace, i0, i1, ft, hd]; exact ⟨.self, rfl⟩
        | list b => simp [init, isB, isFace, i0, i1, ft, hd]; exact ⟨.self, rfl⟩
        | dict b => simp [init, isiD, tyN, isB, isFace, i0, i1, ft, hd]; exact ⟨.self, rfl⟩
        | tuple ls =>
          have hls : FitX (.tuple ls) k w := h.item (by simp)
          by_cases hz : 1 ≤ ls.length ∧ ls.length ≤ 10
          · simp [init, isB, isFace, i0, i1, ft, hd, hz, pysOf, -wp_forL_cons]
            refine .inr ⟨by omega, .inr ⟨by omega, ?_⟩⟩
            refine wp_forM D.py (fun pre σ T => wipeD σ [1] = wipeD (init 2 [.py (.tuple [d, .tuple ls])]) [1] ∧ T = S ∧ ∃ cs, letsF pre = some cs) ⟨rfl, rfl, [], rfl⟩ ?_ ?_
            · rintro pre x post σ T e ⟨hσ, rfl, cs, hcs⟩
              obtain ⟨v1, rfl⟩ := slot_any hσ
              clear hσ
              have bad : letF x = none → ∃ U, Cut T T U ∧ (D.py (PyData.bool false)).pure = true ∧ nodF ls = false ∧ U = T := fun h => ⟨T, .self, rfl, by rw [e]; exact nodF_bad h, rfl⟩
              cases x with
              | none => simp [init, isB]; exact bad rfl
              | bool b => simp [init, isB]; exact bad rfl
              | int b => simp [init, isB]; exact bad rfl
              | str b => simp [init, isB]; exact bad rfl
              | list b => simp [init, isB]; exact bad rfl
              | dict b => simp [init, isiD, tyN, isB]; exact bad rfl
              | tuple gs =>
                by_cases hg : gs.length = 2
                · obtain ⟨a, b, rfl⟩ := two hg
                  have j0 : ∀ T, itemD (.py (.tuple [a, b])) (.py (.int 0)) T = .ok (.py a) T := fun T => itemD_tupleI (by decide) rfl
                  have j1 : ∀ T, itemD (.py (.tuple [a, b])) (.py (.int 1)) T = .ok (.py b) T := fun T => itemD_tupleI (by decide) rfl
                  have hab : FitX (.tuple [a, b]) (k - 1) w := by
                    obtain ⟨j, rfl, hp, hb⟩ := hls.items
                    have hm : PyData.tuple [a, b] ∈ ls := by rw [e]; simp
                    have := bulk_mem hm
                    exact (hp.mem hm).fit (by omega)
                  have sa : Short 10000 a := fun x hx => Nat.le_trans ((hab.item (by simp)).short x hx) (by omega)
                  have il := is_letter_any sa
                  have iw := is_wide_any b
                  cases hL : isL a with
                  | none =>
                    simp [init, isB, j0, j1, il, iw, hL]
                    exact bad (by simp [letF, hL])
                  | some c =>
                    by_cases hw2 : isFT 10 99 b = true
                    · simp [init, isB, j0, j1, il, iw, hL, hw2]
                      exact ⟨_, letsF_snoc (c := c) hcs (by simp [letF, hw2, hL])⟩
                    · simp [init, isB, j0, j1, il, iw, hL, hw2]
                      exact bad (by simp [letF, hw2])
                · have : ¬ ((gs.length : Int) = 2) := by omega
                  simp [init, isB, this]
                  exact bad (not_two hg)
            · rintro σ T ⟨hσ, rfl, cs, hcs⟩
              obtain ⟨v1, rfl⟩ := slot_any hσ
              clear hσ
              have hlen := letsF_len hcs
              have e1 : nodF ls = decide cs.Nodup := by unfold nodF; rw [hcs]
              have hmem : ∀ (ls : List PyData) (cs : List Nat), letsF ls = some cs → ls.map (fun x => match x with | .tuple (d :: _) => d | _ => .none) = cs.map lt ∧ ∀ x ∈ ls, ∃ a b, x = .tuple [a, b] := by
                intro ls
                induction ls with
                | nil => intro cs h; cases h; exact ⟨rfl, fun x hx => (by cases hx)⟩
                | cons x xs ih =>
                  intro cs h
                  unfold letsF at h
                  split at h
                  · rename_i c ds h1 h2
                    cases h
                    obtain ⟨w, rfl, _⟩ := letF_is h1
                    obtain ⟨g1, g2⟩ := ih _ h2
                    refine ⟨by simp [g1], fun y hy => ?_⟩
                    rcases List.mem_cons.mp hy with rfl | hy
                    · exact ⟨_, _, rfl⟩
                    · exact g2 y hy
                  · cases h
              obtain ⟨m1, m2⟩ := hmem ls cs hcs
              simp [init, i1, sd]
              refine wp_pureM1 D.py (fun x => D.py (match x with | .tuple (d :: _) => d | _ => .none)) (fun x hx => ?_) ?_
              · obtain ⟨a, b, rfl⟩ := m2 x hx
                have j0 : ∀ T, itemD (.py (.tuple [a, b])) (.py (.int 0)) T = .ok (.py a) T := fun T => itemD_tupleI (by decide) rfl
                exact wp_eq (by simp [j0])
              have e2 : (ls.map fun x => D.py (match x with | .tuple (d :: _) => d | _ => .none)) = (cs.map lt).map D.py := by
                rw [← m1, List.map_map]
                rfl
              rw [e2, pysOf_map]
              have hc4 : cs.length ≤ 4000 := by omega
              simp [lenSetX_lts hc4, e1]
              refine ⟨_, .self, rfl, ?_, rfl⟩
              have := dedS_lts cs
              rw [← this]
              omega
          · simp [init, isB, isFace, i0, i1, ft, hd, hz, pysOf, -wp_forL_cons]
            by_cases h1 : 1 ≤ ls.length
            · exact .inr ⟨by omega, .inl ⟨by omega, .self, rfl⟩⟩
            · exact .inl ⟨by omega, .self, rfl⟩
      · cases e <;> (simp [init, isB, isFace, i0, i1, ft, hd]; exact ⟨.self, rfl⟩)
    · have : ¬ ((ts.length : Int) = 2) := by omega
      have e : isFace (.tuple ts) = false := by
        unfold isFace
        split
        · rename_i e
          cases e
          exact absurd rfl hl
        · rfl
      simp [init, isB, this, e]
      exact ⟨.self, rfl⟩
end DV

set_option maxHeartbeats 4000000
namespace DV
open PySem
/-! Texts that are moved where one list stands for another one. -/
def mvd (P Q : List Pair) (l : List Nat) : Bool := (l.zip (l.drop 1)).any fun p => decide (bt P p.1 p.2 ≠ bt Q p.1 p.2)
theorem is_moved_eq (P Q : List Pair) {l : List Nat} (hl : l.length ≤ 10000) (S : Sto) : F_is_moved [.py (encP P), .py (encP Q), .py (tx l)] S = .ok (.py (.bool (mvd P Q l))) S := by
  have sl : ∀ T, sliceV (.py (tx l)) (some 1) none T = .ok (.py (tx (l.drop 1))) T := fun T => by
    unfold sliceV
    simp only
    rw [if_pos (by rw [sl_tr]; simp [Str.length]; omega)]
    have := cutS_from (l := l) 1
    rw [show ((1 : Nat) : Int) = 1 from rfl] at this
    rw [this]
  have p1 : ∀ T, pyWalk T (.py (tx l)) = some (l.map lt) := fun T => pw_tx (by omega) T
  have p2 : ∀ T, pyWalk T (.py (tx (l.drop 1))) = some ((l.drop 1).map lt) := fun T => pw_tx (by rw [List.length_drop]; omega) T
  unfold F_is_moved b_is_moved
  refine fn_eq (wp_fn ?_)
  simp only [List.drop_one] at sl p2
  simp [init, sl]
  refine ⟨_, p1 S, _, p2 S, ?_⟩
  rw [zip_mm]
  refine wp_pureM (fun p : Nat × Nat => D.py (.tuple [lt p.1, lt p.2])) (fun _ => true) (fun p => D.py (.bool (decide (bt P p.1 p.2 ≠ bt Q p.1 p.2)))) (fun p hp => ?_) ?_
  · have ne : ∀ (a b : Int) T, neD (.py (.int a)) (.py (.int b)) T = .ok (.py (.bool (decide (a ≠ b)))) T := fun a b T => by
      show R.ok (D.py (.bool (!decide (a = b)))) T = _
      by_cases h : a = b <;> simp [h]
    simp [between_eq, ne]
  · rw [List.filter_eq_self.mpr fun _ _ => rfl]
    have e2 : ((l.zip l.tail).map fun p => D.py (.bool (decide (bt P p.1 p.2 ≠ bt Q p.1 p.2)))) = (((l.zip l.tail).map fun p => decide (bt P p.1 p.2 ≠ bt Q p.1 p.2)).map PyData.bool).map D.py := by simp
    rw [e2, pysOf_map]
    simp only [anyD_bools, wp_ok]
    refine ⟨S, .self, rfl, ?_, rfl⟩
    unfold mvd
    rw [List.any_map, List.drop_one]
    rfl
def txOf : PyData → List Nat
  | .str x => x.cps.toList
  | _ => []
def areTx (f : Face) : PyData → Bool
  | .tuple ds => ds.all (isTx f)
  | _ => false
/-- the numbers of the texts that are moved -/
def mvs (P Q : List Pair) (ds : List PyData) : List Nat := (ds.zipIdx.filter fun q => mvd P Q (txOf q.1)).map (·.2)
theorem isTx_of {f : Face} {d : PyData} (h : isTx f d = true) : d = tx (txOf d) ∧ ∀ c ∈ txOf d, f.has c := by
  obtain ⟨l, rfl, hl⟩ := isTx_tx h
  exact ⟨rfl, hl⟩
theorem moved_lines_any {f : Face} {P Q : List Pair} {p : PyData} (hs : ∀ ds, p = .tuple ds → ∀ d ∈ ds, Short 10000 d) (S : Sto) :
    (areTx f p = false → F_moved_lines [.py f.py, .py (encP P), .py (encP Q), .py p] S = .ex "NoLine" S) ∧
    ∀ ds, p = .tuple ds → areTx f p = true → F_moved_lines [.py f.py, .py (encP P), .py (encP Q), .py p] S = .ok (.py (.tuple ((mvs P Q ds).map fun k : Nat => .int k))) S := by
  refine ⟨fun h => ?_, fun ds e h => ?_⟩
  · unfold F_moved_lines b_moved_lines
    refine wp_exq (wp_fn ?_)
    cases p with
    | none => simp [init, isB]; exact .self
    | bool b => simp [init, isB]; exact .self
    | int b => simp [init, isB]; exact .self
    | str b => simp [init, isB]; exact .self
    | list b => simp [init, isB]; exact .self
    | dict b => simp [init, isiD, tyN, isB]; exact .self
    | tuple ds =>
      have hs := hs ds rfl
      simp [init, isB, -wp_forL_cons]
      refine wp_forM D.py (fun pre σ T => wipeD σ [4] = [some (.py f.py), some (.py (encP P)), some (.py (encP Q)), some (.py (.tuple ds)), none, none] ∧ T = S ∧ pre.all (isTx f) = true) ⟨rfl, rfl, rfl⟩ ?_ ?_
      · rintro pre x post σ T e ⟨hσ, rfl, hp⟩
        obtain ⟨v4, rfl⟩ := slot_any hσ
        clear hσ
        have nt := fun T => need_text_any (f := f) (hs x (by rw [e]; simp)) T
        by_cases hx : isTx f x = true
        · simp only [hx, if_true] at nt
          simp [nt]
          exact ⟨by simpa using hp, hx⟩
        · have hx' : isTx f x = false := by simpa using hx
          simp only [hx'] at nt
          simp [nt]
          exact .self
      · rintro σ T ⟨hσ, rfl, hp⟩
        exact absurd hp (by rw [show areTx f (.tuple ds) = ds.all (isTx f) from rfl] at h; rw [h]; exact Bool.false_ne_true)
  · subst e
    have hs := hs ds rfl
    have hall : ∀ d ∈ ds, isTx f d = true := List.all_eq_true.mp h
    unfold F_moved_lines b_moved_lines
    refine fn_eq (wp_fn ?_)
    simp [init, isB, -wp_forL_cons]
    refine wp_forM D.py (fun pre σ T => wipeD σ [4] = [some (.py f.py), some (.py (encP P)), some (.py (encP Q)), some (.py (.tuple ds)), none, none] ∧ T = S) ⟨rfl, rfl⟩ ?_ ?_
    · rintro pre x post σ T e ⟨hσ, rfl⟩
      obtain ⟨v4, rfl⟩ := slot_any hσ
      clear hσ
      have hx : x ∈ ds := by rw [e]; simp
      have nt := fun T => need_text_any (f := f) (hs x hx) T
      simp only [hall x hx, if_true] at nt
      simp [nt]
    · rintro σ T ⟨hσ, rfl⟩
      obtain ⟨v4, rfl⟩ := slot_any hσ
      clear hσ
      have pw : pyWalk T (.py (.tuple ds)) = some (ds.map id) := by simp [pyWalk]
      simp
      refine wp_pureM (fun q : PyData × Nat => D.py (.tuple [.int (q.2 : Nat), q.1])) (fun q => mvd P Q (txOf q.1)) (fun q => D.py (.int (q.2 : Nat))) (fun q hq => ?_) ?_
      · have hd : q.1 ∈ ds := by
          obtain ⟨x, i⟩ := q
          exact List.fst_mem_of_mem_zipIdx hq
        obtain ⟨e1, e2⟩ := isTx_of (hall _ hd)
        have sh : (txOf q.1).length ≤ 10000 := by
          have := hs _ hd _ e1
          simpa [Str.length] using this
        have im := fun T => is_moved_eq P Q sh T
        rw [← e1] at im
        simp [im]
      · have e3 : ((ds.zipIdx.filter fun q => mvd P Q (txOf q.1)).map fun q => D.py (.int (q.2 : Nat))) = ((mvs P Q ds).map fun k : Nat => PyData.int k).map D.py := by simp [mvs, Function.comp_def]
        rw [e3, pysOf_map]
        simp
        exact ⟨.self, rfl⟩
/-! ### the law's own -/
/-! ### rows from the end -/
end DV

set_option maxHeartbeats 4000000
namespace DV
open PySem
/-! A letter made like another one; a gap turned and turned back. -/
theorem zipS {α : Type} (u : Nat → α) : ∀ L : List Nat, L.zip (L.map u) = L.map fun c => (c, u c)
  | [] => rfl
  | a :: L => by simp [zipS u L]
/-! ### classes by marks -/
theorem grp_filter (L : List Nat) (μ : Nat → List Int) (m : List Int) : ((L.zip (L.map μ)).filter fun p => p.2 = m).map (·.1) = L.filter fun l => decide (μ l = m) := by
  induction L with
  | nil => rfl
  | cons a L ih =>
    simp only [List.map_cons, List.zip_cons_cons, List.filter_cons]
    by_cases h : μ a = m
    · simp [h]
      simpa using ih
    · simp [h]
      simpa using ih
theorem firsts_reps {μ ν : Nat → List Int} {L : List Nat} (h : ∀ a ∈ L, ∀ b ∈ L, ν a = ν b ↔ μ a = μ b) : ∃ rs : List Nat, (∀ r ∈ rs, r ∈ L) ∧ firsts (L.map μ) = rs.map μ ∧ firsts (L.map ν) = rs.map ν := by
  have key : ∀ M : List Nat, (∀ a ∈ M.reverse, a ∈ L) → ∃ rs : List Nat, (∀ r ∈ rs, r ∈ M.reverse) ∧ firsts (M.reverse.map μ) = rs.map μ ∧ firsts (M.reverse.map ν) = rs.map ν := by
    intro M
    induction M with
    | nil => intro _; exact ⟨[], by simp, rfl, rfl⟩
    | cons a M ih =>
      intro hM
      simp only [List.reverse_cons] at hM ⊢
      obtain ⟨rs, h1, h2, h3⟩ := ih fun x hx => hM x (List.mem_append_left _ hx)
      have ha := hM a (by simp)
      rw [List.map_append, List.map_append, List.map_cons, List.map_cons, List.map_nil, List.map_nil, firsts_snoc, firsts_snoc]
      have e : μ a ∈ firsts (M.reverse.map μ) ↔ ν a ∈ firsts (M.reverse.map ν) := by
        rw [mem_firsts, mem_firsts, List.mem_map, List.mem_map]
        constructor
        · rintro ⟨b, hb, e⟩
          exact ⟨b, hb, (h b (hM b (List.mem_append_left _ hb)) a ha).mpr e⟩
        · rintro ⟨b, hb, e⟩
          exact ⟨b, hb, (h b (hM b (List.mem_append_left _ hb)) a ha).mp e⟩
      by_cases q : μ a ∈ firsts (M.reverse.map μ)
      · rw [if_pos q, if_pos (e.mp q)]
        exact ⟨rs, fun r hr => List.mem_append_left _ (h1 r hr), h2, h3⟩
      · rw [if_neg q, if_neg fun z => q (e.mpr z), h2, h3]
        refine ⟨rs ++ [a], fun r hr => ?_, by simp, by simp⟩
        rcases List.mem_append.mp hr with hr | hr
        · exact List.mem_append_left _ (h1 r hr)
        · exact List.mem_append_right _ hr
  have := key L.reverse (by simp)
  simpa using this
/-- a letter with the mark of another one joins its class -/
theorem groups_like {L : List Nat} {c o : Nat} {μ ν : Nat → List Int} (h : ∀ a ∈ L, ∀ b ∈ L, ν a = ν b ↔ μ a = μ b) (hc : ν c = ν o) (ho : o ∈ L) :
    groups (L ++ [c]) ((L ++ [c]).map ν) = (groups L (L.map μ)).map fun g => g ++ if o ∈ g then [c] else [] := by
  obtain ⟨rs, h1, h2, h3⟩ := firsts_reps h
  have ef : firsts ((L ++ [c]).map ν) = firsts (L.map ν) := by
    rw [List.map_append, List.map_cons, List.map_nil, firsts_snoc, if_pos]
    rw [hc, mem_firsts]
    exact List.mem_map.mpr ⟨o, ho, rfl⟩
  unfold groups
  rw [ef, h2, h3, List.map_map, List.map_map, List.map_map]
  refine List.map_congr_left fun r hr => ?_
  have hrL := h1 r hr
  simp only [Function.comp]
  simp only [grp_filter]
  rw [List.filter_append]
  have e1 : (L.filter fun l => decide (ν l = ν r)) = L.filter fun l => decide (μ l = μ r) := List.filter_congr fun l hl => by
    have := h l hl r hrL
    exact decide_eq_decide.mpr this
  rw [e1]
  congr 1
  have e2 : (o ∈ L.filter fun l => decide (μ l = μ r)) ↔ ν c = ν r := by
    rw [List.mem_filter, hc, decide_eq_true_iff, h o ho r hrL]
    exact ⟨fun z => z.2, fun z => ⟨ho, z⟩⟩
  by_cases q : ν c = ν r
  · rw [if_pos (e2.mpr q)]
    simp [q]
  · rw [if_neg fun z => q (e2.mp z)]
    simp [q]
/-! ### lists of gaps by what they say -/
def lstG2 (L : List Nat) (g : Nat → Nat → Int) : List Pair := L.flatMap fun l => (L.filter fun r => decide (g l r ≠ 0)).map fun r => (l, r, g l r)
theorem rowP_map (l : Nat) (L : List Nat) (g : Nat → Int) : rowP l L (L.map g) = (L.filter fun r => decide (g r ≠ 0)).map fun r => (l, r, g r) := by
  unfold rowP rowA
  rw [zipS, List.filter_map, List.map_map]
  rfl
theorem mlist_of (L : List Nat) (g : Nat → Nat → Int) : mlist L (L.map fun l => L.map fun r => g l r) = lstG2 L g := by
  unfold mlist lstG2
  rw [zipS, List.flatMap_map]
  congr 1
  funext l
  exact rowP_map l L _
theorem mlist_g {f : Face} {R : List (List Int)} (nd : f.lets.Nodup) (hR : Rows R f.ls.length) : mlist f.lets R = lstG2 f.lets fun l r => gapIn (mlist f.lets R) l r := by
  have e := leftM_mlist nd hR
  have : mlist f.lets R = mlist f.lets (leftM f (mlist f.lets R)) := by rw [e]
  conv => lhs; rw [this]
  exact mlist_of f.lets _
theorem lstG2_congr {L : List Nat} {g h : Nat → Nat → Int} (e : ∀ a ∈ L, ∀ b ∈ L, g a b = h a b) : lstG2 L g = lstG2 L h := by
  unfold lstG2
  have flat : ∀ {u v : Nat → List Pair} (M : List Nat), (∀ a ∈ M, u a = v a) → M.flatMap u = M.flatMap v := fun {u v} M => by
    induction M with
    | nil => intro _; rfl
    | cons a M ih =>
      intro h
      rw [List.flatMap_cons, List.flatMap_cons, h a (by simp), ih fun b hb => h b (List.mem_cons_of_mem _ hb)]
  refine flat L fun a ha => ?_
  have e1 : (L.filter fun r => decide (g a r ≠ 0)) = L.filter fun r => decide (h a r ≠ 0) := List.filter_congr fun r hr => by rw [e a ha r hr]
  rw [e1]
  exact List.map_congr_left fun r hr => by rw [e a ha r (List.mem_filter.mp hr).1]
theorem gap_lstG2 {L : List Nat} (nd : L.Nodup) {g : Nat → Nat → Int} {a b : Nat} (ha : a ∈ L) (hb : b ∈ L) : gapIn (lstG2 L g) a b = g a b := by
  rw [← mlist_of]
  obtain ⟨i, hi⟩ := List.mem_iff_getElem?.mp ha
  obtain ⟨j, hj⟩ := List.mem_iff_getElem?.mp hb
  exact gap_mlist nd hi (by rw [List.getElem?_map, hi]; rfl) hj (by rw [List.getElem?_map, hj]; rfl)
/-! ### a letter like another one -/
/-- the letter that stands for one -/
def stnd (c o x : Nat) : Nat := if x = c then o else x
theorem like_lst {f : Face} {P : List Pair} {c o : Nat} (hc : c ∉ f.lets) : mlist (f.lets ++ [c]) (likeR f P o) = lstG2 (f.lets ++ [c]) fun l r => gapIn P (stnd c o l) (stnd c o r) := by
  rw [← mlist_of]
  congr 1
  unfold likeR
  have e : f.lets ++ [o] = (f.lets ++ [c]).map (stnd c o) := by
    rw [List.map_append]
    have : f.lets.map (stnd c o) = f.lets := by
      conv => rhs; rw [← List.map_id f.lets]
      refine List.map_congr_left fun x hx => ?_
      have : x ≠ c := fun e => hc (e ▸ hx)
      unfold stnd
      rw [if_neg this]
      rfl
    rw [this]
    simp [stnd]
  rw [e, List.map_map]
  refine List.map_congr_left fun l _ => ?_
  rw [Function.comp, List.map_map]
  rfl
theorem drop_lst {L : List Nat} {c : Nat} {g : Nat → Nat → Int} (hc : c ∉ L) : dropP (lstG2 (L ++ [c]) g) c = lstG2 L g := by
  unfold dropP lstG2
  have hrow : ∀ l, l ∈ L → (((L ++ [c]).filter fun r => decide (g l r ≠ 0)).map fun r => ((l, r, g l r) : Pair)).filter (offP c) = (L.filter fun r => decide (g l r ≠ 0)).map fun r => (l, r, g l r) := fun l hl => by
    have hlc : l ≠ c := fun e => hc (e ▸ hl)
    rw [List.filter_append, List.map_append, List.filter_append]
    have e1 : (([c].filter fun r => decide (g l r ≠ 0)).map fun r => ((l, r, g l r) : Pair)).filter (offP c) = [] := by
      rw [List.filter_eq_nil_iff]
      intro q hq
      obtain ⟨r, hr, rfl⟩ := List.mem_map.mp hq
      have : r = c := by simpa using (List.mem_filter.mp hr).1
      simp [offP, this]
    rw [e1, List.append_nil, List.filter_eq_self]
    intro q hq
    obtain ⟨r, hr, rfl⟩ := List.mem_map.mp hq
    have hrc : r ≠ c := fun e => hc (e ▸ (List.mem_filter.mp hr).1)
    simp [offP, hlc, hrc]
  have flat : ∀ M : List Nat, (∀ x ∈ M, x ∈ L) → (M.flatMap fun l => ((L ++ [c]).filter fun r => decide (g l r ≠ 0)).map fun r => ((l, r, g l r) : Pair)).filter (offP c) = M.flatMap fun l => (L.filter fun r => decide (g l r ≠ 0)).map fun r => (l, r, g l r) := by
    intro M
    induction M with
    | nil => intro _; rfl
    | cons a M ih =>
      intro hM
      rw [List.flatMap_cons, List.flatMap_cons, List.filter_append, hrow a (hM a (by simp)), ih fun x hx => hM x (List.mem_cons_of_mem _ hx)]
  rw [List.flatMap_append, List.filter_append, flat L fun _ h => h]
  have e1 : ([c].flatMap fun l => ((L ++ [c]).filter fun r => decide (g l r ≠ 0)).map fun r => ((l, r, g l r) : Pair)).filter (offP c) = [] := by
    rw [List.filter_eq_nil_iff]
    intro q hq
    obtain ⟨l, hl, hq⟩ := List.mem_flatMap.mp hq
    obtain ⟨r, hr, rfl⟩ := List.mem_map.mp hq
    have : l = c := by simpa using hl
    simp [offP, this]
  rw [e1, List.append_nil]
theorem drop_add {f : Face} {c : Nat} {w : Int} (hc : c ∉ f.lets) : dropF (addF f c w) c = f := by
  unfold dropF addF
  have : (f.ls ++ [(c, w)]).filter (offL c) = f.ls := by
    rw [List.filter_append]
    have e1 : [(c, w)].filter (offL c) = [] := by simp [offL]
    rw [e1, List.append_nil, List.filter_eq_self]
    intro p hp
    have : p.1 ≠ c := fun e => hc (e ▸ List.mem_map.mpr ⟨p, hp, rfl⟩)
    simp [offL, this]
  rw [this]
/-! ### what it says is a list of the face -/
theorem lstG2_told {L : List Nat} (nd : L.Nodup) {g : Nat → Nat → Int} (h9 : ∀ a ∈ L, ∀ b ∈ L, -9 ≤ g a b ∧ g a b ≤ 9) (nz : Bool) : isTold L nz (encP (lstG2 L g)) = true := by
  have hm : ∀ q ∈ lstG2 L g, q.1 ∈ L ∧ q.2.1 ∈ L ∧ q.2.2 = g q.1 q.2.1 ∧ q.2.2 ≠ 0 := fun q hq => by
    obtain ⟨l, hl, hq⟩ := List.mem_flatMap.mp hq
    obtain ⟨r, hr, rfl⟩ := List.mem_map.mp hq
    obtain ⟨h1, h2⟩ := List.mem_filter.mp hr
    exact ⟨hl, h1, rfl, by simpa using h2⟩
  have h : ∀ q ∈ lstG2 L g, q.1 ∈ L ∧ q.2.1 ∈ L ∧ -9 ≤ q.2.2 ∧ q.2.2 ≤ 9 := fun q hq => by
    obtain ⟨h1, h2, h3, _⟩ := hm q hq
    have := h9 _ h1 _ h2
    exact ⟨h1, h2, by omega, by omega⟩
  have hs : ((lstG2 L g).map fun p => (p.1, p.2.1)).Sublist (allP L L) := by
    unfold lstG2 allP
    rw [List.map_flatMap]
    have : ∀ M : List Nat, (M.flatMap fun l => ((L.filter fun r => decide (g l r ≠ 0)).map fun r => ((l, r, g l r) : Pair)).map fun p => (p.1, p.2.1)).Sublist (M.flatMap fun l => L.map fun r => (l, r)) := by
      intro M
      induction M with
      | nil => exact List.Sublist.refl _
      | cons a M ih =>
        rw [List.flatMap_cons, List.flatMap_cons]
        refine List.Sublist.append ?_ ih
        rw [List.map_map]
        exact (List.filter_sublist).map _
    exact this L
  have t := told_true nd h hs
  cases nz with
  | true => exact t
  | false =>
    have e := trips_of nd h
    have e1 := isTold_and e true
    have e2 := isTold_and e false
    rw [show encP (lstG2 L g) = .tuple ((lstG2 L g).map encT) from rfl] at t ⊢
    rw [t] at e1
    rw [e2]
    simp only [Bool.true_or, Bool.and_true] at e1
    rw [← e1, Bool.true_and, Bool.false_or, List.all_eq_true]
    intro x hx
    obtain ⟨q, hq, rfl⟩ := List.mem_map.mp hx
    have := (hm q hq).2.2.2
    exact decide_eq_true this
end DV
namespace DV
open PySem
theorem groups_stnd {L : List Nat} {c o : Nat} (h : Nat → Nat → Int) (hc : c ∉ L) (ho : o ∈ L) :
    groups (L ++ [c]) ((L ++ [c]).map fun a => (L ++ [c]).map fun r => h (stnd c o a) (stnd c o r)) = (groups L (L.map fun a => L.map fun r => h a r)).map fun g => g ++ if o ∈ g then [c] else [] := by
  have hs : ∀ x ∈ L, stnd c o x = x := fun x hx => by
    have : x ≠ c := fun e => hc (e ▸ hx)
    unfold stnd
    rw [if_neg this]
  have hcs : stnd c o c = o := by simp [stnd]
  refine groups_like (μ := fun a => L.map fun r => h a r) (ν := fun a => (L ++ [c]).map fun r => h (stnd c o a) (stnd c o r)) (fun a ha b hb => ?_) ?_ ho
  · have e : ∀ x ∈ L, ((L ++ [c]).map fun r => h (stnd c o x) (stnd c o r)) = (L.map fun r => h x r) ++ [h x o] := fun x hx => by
      rw [List.map_append, hs x hx]
      congr 1
      · exact List.map_congr_left fun r hr => by rw [hs r hr]
      · simp [hcs]
    show ((L ++ [c]).map fun r => h (stnd c o a) (stnd c o r)) = ((L ++ [c]).map fun r => h (stnd c o b) (stnd c o r)) ↔ _
    rw [e a ha, e b hb]
    constructor
    · intro q
      exact (List.append_inj q (by simp)).1
    · intro q
      have q : (L.map fun r => h a r) = L.map fun r => h b r := q
      rw [q]
      congr 2
      obtain ⟨i, hi⟩ := List.mem_iff_getElem?.mp ho
      have := congrArg (fun l => l[i]?) q
      simp only [List.getElem?_map, hi, Option.map_some] at this
      exact Option.some.inj this
  · show ((L ++ [c]).map fun r => h (stnd c o c) (stnd c o r)) = (L ++ [c]).map fun r => h (stnd c o o) (stnd c o r)
    rw [hcs, hs o ho]
/-! ### one gap is given anew -/
theorem gapR_of {L : List Nat} {g : Nat → Nat → Int} (nd : L.Nodup) {i j a b : Nat} (hi : L[i]? = some a) (hj : L[j]? = some b) (x : Int) :
    gapR (L.map fun l => L.map fun r => g l r) i j x = L.map fun l => L.map fun r => if l = a ∧ r = b then x else g l r := by
  have hil := (List.getElem?_eq_some_iff.mp hi).1
  have hjl := (List.getElem?_eq_some_iff.mp hj).1
  have inj : ∀ {m k y : Nat}, L[m]? = some y → L[k]? = some y → m = k := fun {m k y} h1 h2 => by
    obtain ⟨q1, e1⟩ := List.getElem?_eq_some_iff.mp h1
    obtain ⟨q2, e2⟩ := List.getElem?_eq_some_iff.mp h2
    have pw := List.pairwise_iff_getElem.mp nd
    rcases Nat.lt_trichotomy m k with h | h | h
    · exact absurd (e1.trans e2.symm) (pw m k q1 q2 h)
    · exact h
    · exact absurd (e2.trans e1.symm) (pw k m q2 q1 h)
  unfold gapR
  apply List.ext_getElem?
  intro m
  rw [List.getElem?_set]
  have er : (L.map fun l => L.map fun r => g l r).getD i [] = L.map fun r => g a r := by
    rw [List.getD_eq_getElem?_getD, List.getElem?_map, hi]
    rfl
  by_cases hm : i = m
  · subst hm
    rw [if_pos rfl, if_pos (by simpa using hil), List.getElem?_map, hi, er]
    show some _ = some _
    congr 1
    apply List.ext_getElem?
    intro k
    rw [List.getElem?_set]
    by_cases hk : j = k
    · subst hk
      rw [if_pos rfl, if_pos (by simpa using hjl), List.getElem?_map, hj]
      simp
    · rw [if_neg hk, List.getElem?_map, List.getElem?_map]
      cases q : L[k]? with
      | none => rfl
      | some y =>
        have : y ≠ b := fun e => hk (inj hj (e ▸ q))
        simp [this]
  · rw [if_neg hm, List.getElem?_map, List.getElem?_map]
    cases q : L[m]? with
    | none => rfl
    | some y =>
      have : y ≠ a := fun e => hm (inj hi (e ▸ q))
      simp [this]
theorem with_gap_lst {f : Face} {P : List Pair} (nd : f.lets.Nodup) {i j a b : Nat} (hi : f.lets[i]? = some a) (hj : f.lets[j]? = some b) (x : Int) :
    mlist f.lets (gapR (leftM f P) i j x) = lstG2 f.lets fun l r => if l = a ∧ r = b then x else gapIn P l r := by
  have : leftM f P = f.lets.map fun l => f.lets.map fun r => gapIn P l r := rfl
  rw [this, gapR_of nd hi hj, mlist_of]
theorem filter_one {α : Type} [DecidableEq α] {M : List α} (nd : M.Nodup) {p : α} (hp : p ∈ M) : (M.filter fun q => decide (q = p)) = [p] := by
  induction M with
  | nil => cases hp
  | cons a M ih =>
    rw [List.nodup_cons] at nd
    rw [List.filter_cons]
    by_cases h : a = p
    · subst h
      have : M.filter (fun q => decide (q = a)) = [] := List.filter_eq_nil_iff.mpr fun q hq => by
        have : q ≠ a := fun e => nd.1 (e ▸ hq)
        simpa using this
      simp [this]
    · have hp' : p ∈ M := by
        rcases List.mem_cons.mp hp with e | e
        · exact absurd e.symm h
        · exact e
      simp [h]
      simpa using ih nd.2 hp'
theorem allP_nodup {L : List Nat} (nd : L.Nodup) : (allP L L).Nodup := by
  unfold allP List.Nodup
  rw [List.pairwise_flatMap]
  refine ⟨fun a _ => ?_, nd.imp fun {a b} hab x hx y hy => ?_⟩
  · rw [List.pairwise_map]
    exact nd.imp fun h e => h (by simpa using e)
  · obtain ⟨_, _, rfl⟩ := List.mem_map.mp hx
    obtain ⟨_, _, rfl⟩ := List.mem_map.mp hy
    exact fun e => hab (by simpa using congrArg Prod.fst e)
theorem changed_one {L : List Nat} {P : List Pair} (nd : L.Nodup) {a b : Nat} (ha : a ∈ L) (hb : b ∈ L) (x : Int) :
    mchanged L P (lstG2 L fun l r => if l = a ∧ r = b then x else gapIn P l r) = if x = gapIn P a b then [] else [(a, b)] := by
  unfold mchanged
  have e : (allP L L).filter (fun p => decide (gapIn P p.1 p.2 ≠ gapIn (lstG2 L fun l r => if l = a ∧ r = b then x else gapIn P l r) p.1 p.2)) = (allP L L).filter fun p => decide (p = (a, b)) && decide (x ≠ gapIn P a b) := List.filter_congr fun p hp => by
    obtain ⟨l, hl, hp⟩ := List.mem_flatMap.mp hp
    obtain ⟨r, hr, rfl⟩ := List.mem_map.mp hp
    simp only
    rw [gap_lstG2 nd hl hr]
    by_cases h : l = a ∧ r = b
    · obtain ⟨rfl, rfl⟩ := h
      simp [eq_comm]
    · rw [if_neg h]
      have : ¬ ((l, r) = (a, b)) := fun e => h (by simpa using e)
      simp [this]
  rw [e]
  have hm : (a, b) ∈ allP L L := List.mem_flatMap.mpr ⟨a, ha, List.mem_map.mpr ⟨b, hb, rfl⟩⟩
  by_cases h : x = gapIn P a b
  · rw [if_pos h, List.filter_eq_nil_iff]
    intro q _
    simp [h]
  · rw [if_neg h, ← filter_one (allP_nodup nd) hm]
    exact List.filter_congr fun q _ => by simp [h]
/-! ### signs that begin elsewhere -/
theorem begs_mvd (f : Face) (P Q : List Pair) (l : List Nat) : begs f P l = begs f Q l ↔ mvd P Q l = false := by
  have hm : mvd P Q l = false ↔ ∀ k, k + 1 < l.length → bt P (l.getD k 0) (l.getD (k + 1) 0) = bt Q (l.getD k 0) (l.getD (k + 1) 0) := by
    unfold mvd
    rw [List.any_eq_false]
    constructor
    · intro h k hk
      have hk0 : k < l.length := by omega
      have : (l.getD k 0, l.getD (k + 1) 0) ∈ l.zip (l.drop 1) := by
        refine List.mem_iff_getElem?.mpr ⟨k, ?_⟩
        rw [List.getElem?_zip_eq_some]
        rw [List.getElem?_drop, Nat.add_comm 1 k, List.getD_eq_getElem?_getD, List.getD_eq_getElem?_getD, List.getElem?_eq_getElem hk0, List.getElem?_eq_getElem hk]
        exact ⟨rfl, rfl⟩
      have := h _ this
      simpa using this
    · intro h p hp
      obtain ⟨k, hk⟩ := List.mem_iff_getElem?.mp hp
      rw [List.getElem?_zip_eq_some, List.getElem?_drop, Nat.add_comm 1 k] at hk
      have hk1 := (List.getElem?_eq_some_iff.mp hk.2).1
      have := h k hk1
      rw [List.getD_eq_getElem?_getD, List.getD_eq_getElem?_getD, hk.1, hk.2] at this
      simpa using this
  rw [hm]
  unfold begs
  constructor
  · intro h k hk
    have e : ∀ m, m < l.length → bg f P l m = bg f Q l m := fun m hm => by
      have := congrArg (fun z => z[m]?) h
      simp only [List.getElem?_map, List.getElem?_range hm, Option.map_some] at this
      exact Option.some.inj this
    have e1 := e k (by omega)
    have e2 := e (k + 1) hk
    simp only [bg] at e2
    omega
  · intro h
    refine List.map_congr_left fun m hm => ?_
    rw [List.mem_range] at hm
    induction m with
    | zero => rfl
    | succ k ih =>
      simp only [bg]
      rw [ih (by omega), h k hm]
/-! ### a face is one -/
theorem face_is {f : Face} {lo hi : Int} (g : f.Good lo hi) (h1 : 1 ≤ lo) (h10 : hi ≤ 10) : isFace f.py = true := by
  have hl := g.lo
  have hh := g.hi
  have key : ∀ ls : List (Nat × Int), (∀ p ∈ ls, 97 ≤ p.1 ∧ p.1 ≤ 122 ∧ 10 ≤ p.2 ∧ p.2 ≤ 99) → letsF (ls.map encL) = some (ls.map (·.1)) := by
    intro ls
    induction ls with
    | nil => intro _; rfl
    | cons p ls ih =>
      intro h
      have hp := h p (by simp)
      have e : letF (encL p) = some p.1 := by
        show (if isFT 10 99 (.int p.2) = true then isL (lt p.1) else none) = _
        rw [if_pos (by simp [isFT]; omega)]
        simp [isL]
        omega
      rw [List.map_cons, List.map_cons]
      unfold letsF
      rw [e, ih fun q hq => h q (List.mem_cons_of_mem _ hq)]
  show (isFT 1 99 (.int f.w) && (decide (1 ≤ (f.ls.map encL).length ∧ (f.ls.map encL).length ≤ 10) && nodF (f.ls.map encL))) = true
  have e1 : isFT 1 99 (.int f.w) = true := by
    have := g.w0
    have := g.w1
    simp [isFT]
    omega
  have e2 : nodF (f.ls.map encL) = true := by
    unfold nodF
    rw [key f.ls g.ok]
    exact decide_eq_true g.nd
  have e3 : 1 ≤ (f.ls.map encL).length ∧ (f.ls.map encL).length ≤ 10 := by
    rw [List.length_map]
    omega
  rw [e1, e2, decide_eq_true e3]
  rfl
theorem law_fresh_new {S : Sto} {n : Nat} {f : Face} (hB : BoxAt S n) (b122 : ∀ c ∈ f.lets, c ≤ 122) (h10 : f.ls.length ≤ 10) :
    (F_law_fresh [.obj n, .py f.py] S).wp (fun d S' => ∃ c, d = .py (lt c) ∧ c ∉ f.lets ∧ (97 ≤ c ∧ c ≤ 122) ∧ Ch n S S') noE := by
  have hn := hB.lt
  have tk : ∀ {T : Sto} (m : Int), Ch n S T → 0 < m → m < 1073741824 → (F_law_take [.obj n, .py (.int m)] T).wp (fun d S2 => ∃ r, d = .py (PyData.int r) ∧ (0 ≤ r ∧ r < m) ∧ Ch n T S2) noE := fun m c a b =>
    (take_ok c.box a b).to fun d S2 ⟨r, e, r0, r1, c2, _⟩ => ⟨r, e, ⟨r0, r1⟩, c2⟩
  have c0 : Ch n S S := Ch.refl hB
  unfold F_law_fresh b_law_fresh
  refine wp_fn ?_
  have al : (Str.ofString "abcdefghijklmnopqrstuvwxyz").length ≤ 16777216 := by decide +kernel
  simp [init, law_letters_eq]
  refine ⟨al, ?_⟩
  rw [alphabet]
  refine wp_pureM (fun c : Nat => D.py (.str ⟨#[c]⟩)) (fun c => !decide (c ∈ f.lets)) (fun c => D.py (lt c)) (fun c hc => ?_) ?_
  · have hc' : c ≤ 300 := by
      simp at hc
      omega
    have ni := fun T => not_in_lts b122 (by simp; omega) c hc' T
    simp [ni]
    exact Decidable.em _
  have e2 : ((((List.range 26).map (97 + ·)).filter fun c => !decide (c ∈ f.lets)).map fun c => D.py (lt c)) = ((((List.range 26).map (97 + ·)).filter fun c => !decide (c ∈ f.lets)).map lt).map D.py := by simp
  rw [e2, pysOf_map]
  have hne : 0 < (((List.range 26).map (97 + ·)).filter fun c => !decide (c ∈ f.lets)).length := by
    refine Nat.pos_of_ne_zero fun e => ?_
    rw [List.length_eq_zero_iff, List.filter_eq_nil_iff] at e
    have := sub_len (l := (List.range 26).map (97 + ·)) (A := f.lets) (by decide +kernel) fun x hx => by simpa using e x hx
    simp at this
    omega
  have hm : ∀ c ∈ (((List.range 26).map (97 + ·)).filter fun c => !decide (c ∈ f.lets)), c ∉ f.lets ∧ (97 ≤ c ∧ c ≤ 122) := fun c hc => by
    have h2 := (List.mem_filter.mp hc).2
    have := (List.mem_filter.mp hc).1
    simp at this h2
    exact ⟨h2, by omega⟩
  have hlen : (((List.range 26).map (97 + ·)).filter fun c => !decide (c ∈ f.lets)).length ≤ 26 := by
    have := List.length_filter_le (fun c => !decide (c ∈ f.lets)) ((List.range 26).map (97 + ·))
    simpa using this
  generalize (((List.range 26).map (97 + ·)).filter fun c => !decide (c ∈ f.lets)) = G at *
  simp
  refine (tk G.length c0 (by omega) (by omega)).to ?_
  rintro _ T1 ⟨r, rfl, hr, c1⟩
  have hl : r.toNat < G.length := by omega
  have it : itemD (.py (.list (G.map lt))) (.py (.int r)) T1 = .ok (.py (lt G[r.toNat])) T1 := itemD_listI hr.1 (by simp [hl])
  rw [it]
  simp only [wp_ok]
  obtain ⟨U, k1, k2, _⟩ := c1.cut hn
  have := hm _ (List.getElem_mem hl)
  exact ⟨U, k1, rfl, _, rfl, this.1, this.2, k2⟩
end DV

set_option maxHeartbeats 4000000
namespace DV
open PySem
/-! Defs that are walked. -/
theorem wp_callVL {L : List (Nat × (List D → Sto → R D))} {i : Ex} {fs : Ax} {σ : En} {S : Sto} {a : Nat} {H : List D → Sto → R D} {P : D → Sto → Prop} {E : Str → Sto → Prop} (hi : i σ S = .ok (.raw a) S) (hl : L.lookup a = some H) :
    (callV L i fs σ S).wp P E = (callE H fs σ S).wp P E := by
  unfold callV
  rw [hi]
  show (match L.lookup a with
    | some F => (fs σ S).bind fun ds S2 => F ds S2
    | none => R.no).wp P E = _
  rw [hl]
  rfl
theorem look1 {A B : Nat} {F G : List D → Sto → R D} : List.lookup A [(A, F), (B, G)] = some F := by simp
theorem look2 {A B : Nat} {F G : List D → Sto → R D} (h : A ≠ B) : List.lookup B [(A, F), (B, G)] = some G := by
  have : (B == A) = false := by simpa using fun e => h (Eq.symm e)
  simp [List.lookup, this]
@[simp] theorem fnsI_ok (as : List Nat) (σ : En) (S : Sto) : fnsI as σ S = .ok (as.map D.raw) S := id rfl
end DV

set_option maxHeartbeats 4000000
namespace DV.k75
open PySem DV
theorem part_fitS' {f : Face} {G : List (List Nat)} (b122 : ∀ c ∈ f.lets, c ≤ 122) (h10 : f.ls.length ≤ 10) (hG : IsPart f.lets G) : Fit (encG G) 2 220 := by
  have llen : f.lets.length = f.ls.length := by simp
  have := hG.len2
  refine (Fit.tupleN (k := 1) (w := 20) (m := 10) (fun d hd => ?_) (by simp; omega)).mono (by decide) (by decide)
  obtain ⟨g, hg, rfl⟩ := List.mem_map.mp hd
  have := hG.len1 hg
  refine (Fit.tupleN (k := 0) (w := 1) (m := 10) (fun d hd => ?_) (by simp; omega)).mono (by decide) (by decide)
  obtain ⟨c, hc, rfl⟩ := List.mem_map.mp hd
  have := b122 c (hG.mem g hg c hc)
  exact Fit.lt (by omega)
theorem gapIn_all {Q : Int → Prop} (q0 : Q 0) {P : List Pair} (h : ∀ p ∈ P, Q p.2.2) (a b : Nat) : Q (gapIn P a b) := by
  unfold gapIn
  split
  · rename_i e
    exact h _ (List.mem_of_find?_eq_some e)
  · exact q0
theorem ne_self {ds : List PyData} {k w : Nat} (h : Fit (.tuple ds) k w) (hk : k ≤ 64) (T : Sto) : neD (.py (.tuple ds)) (.py (.tuple ds)) T = .ok (.py (.bool false)) T := by
  rw [neD_of (eqD_deep rfl (h.shaped hk) (h.shaped hk) T), SeqAt.eqv_refl _ h.ly]
  rfl
abbrev ext (o c : Nat) (g : List Nat) : List Nat := g ++ if o ∈ g then [c] else []
theorem part_loop {A B : Nat} {f f2 : Face} {P P2 : List Pair} {c o : Nat} {T : Sto} {a0 a1 a2 a4 a10 a11 a12 a13 a14 a15 a16 a17 a18 a19 a20 : Option D} {N : K} (hAB : A ≠ B) (b2 : ∀ x ∈ f2.lets, x ≤ 122) (h2 : f2.ls.length ≤ 10)
    (hL : ∃ G, (∀ g ∈ G, g.length ≤ 10) ∧ (∀ T, F_left_parting [.py f.py, .py (encP P)] T = .ok (.py (encG G)) T) ∧ IsPart f2.lets (G.map (ext o c)) ∧ ∀ T, F_left_parting [.py f2.py, .py (encP P2)] T = .ok (.py (encG (G.map (ext o c)))) T)
    (hR : ∃ G, (∀ g ∈ G, g.length ≤ 10) ∧ (∀ T, F_right_parting [.py f.py, .py (encP P)] T = .ok (.py (encG G)) T) ∧ IsPart f2.lets (G.map (ext o c)) ∧ ∀ T, F_right_parting [.py f2.py, .py (encP P2)] T = .ok (.py (encG (G.map (ext o c)))) T)
    (hN : ∀ v10 v11 v12, N.nx [a0, a1, a2, some (.py f.py), a4, some (.py (encP P)), some (.py (lt c)), some (.py (lt o)), some (.py f2.py), some (.py (encP P2)), v10, v11, v12, a13, a14, a15, a16, a17, a18, a19, a20] T) :
    (q_law_2 A B [a0, a1, a2, some (.py f.py), a4, some (.py (encP P)), some (.py (lt c)), some (.py (lt o)), some (.py f2.py), some (.py (encP P2)), a10, a11, a12, a13, a14, a15, a16, a17, a18, a19, a20] T).wp N := by
  have tt : ∀ ds T, tupleD [.py (.list ds)] T = .ok (.py (.tuple ds)) T := fun ds T => by simp [tupleD, seqOf]
  have nn : ∀ (x : Str) T, neD (.py (.str x)) (.py (.str x)) T = .ok (.py (.bool false)) T := fun x T => by
    show DV.R.ok (D.py (.bool (!decide (x = x)))) T = _
    simp
  have fit : ∀ {G : List (List Nat)}, IsPart f2.lets G → ∀ T, reprD [.py (encG G)] T = .ok (.py (.str (encG G).shown)) T := fun h T => (part_fitS' b2 h2 h).repr (by decide) (by decide) T
  have one : ∀ (G : List (List Nat)), (∀ g ∈ G, g.length ≤ 10) → ∀ {g : List Nat}, g ∈ G → ∀ T, addD (.py (.tuple (g.map lt))) (.py (.tuple (if o ∈ g then [lt c] else []))) T = .ok (.py (.tuple ((ext o c g).map lt))) T := fun G hG g hg T => by
    have := hG g hg
    rw [add_tup (by rw [List.length_map]; split <;> simp <;> omega)]
    congr 3
    rw [List.map_append]
    congr 1
    split <;> rfl
  unfold q_law_2
  simp [-wp_forL_cons]
  refine wp_forM (ls := [A, B]) D.raw (fun _ σ T' => wipeD σ [10, 11, 12] = [a0, a1, a2, some (.py f.py), a4, some (.py (encP P)), some (.py (lt c)), some (.py (lt o)), some (.py f2.py), some (.py (encP P2)), none, none, none, a13, a14, a15, a16, a17, a18, a19, a20] ∧ T' = T) ⟨rfl, rfl⟩ ?_ ?_
  · rintro pre z post σ T' e ⟨hσ, rfl⟩
    obtain ⟨v10, v11, v12, rfl⟩ := slot3 hσ
    clear hσ
    obtain ⟨F, hl, G, hG, f1, pG, f2'⟩ : ∃ F, List.lookup z [(A, F_left_parting), (B, F_right_parting)] = some F ∧ ∃ G, (∀ g ∈ G, g.length ≤ 10) ∧ (∀ T, F [.py f.py, .py (encP P)] T = .ok (.py (encG G)) T) ∧ IsPart f2.lets (G.map (ext o c)) ∧ ∀ T, F [.py f2.py, .py (encP P2)] T = .ok (.py (encG (G.map (ext o c)))) T := by
      have hz : z = A ∨ z = B := by
        have : z ∈ [A, B] := by rw [e]; simp
        simpa using this
      rcases hz with rfl | rfl
      · exact ⟨_, look1, hL⟩
      · exact ⟨_, look2 hAB, hR⟩
    simp
    rw [wp_callVL (a := z) rfl hl]
    simp [f1]
    refine wp_pureM1 (D.py ∘ fun g : List Nat => .tuple (g.map lt)) (fun g => D.py (.tuple ((ext o c g).map lt))) (fun g hg => ?_) ?_
    · have o1 := one G hG hg
      have ii := in_tup (g := g) o
      by_cases q : o ∈ g
      · simp only [q, if_true] at o1
        exact wp_eq (by simp [ii, q, o1, pysOf])
      · simp only [q, if_false] at o1
        exact wp_eq (by simp [ii, q, o1, pysOf])
    · have e2 : (G.map fun g => D.py (.tuple ((ext o c g).map lt))) = ((G.map (ext o c)).map fun g => PyData.tuple (g.map lt)).map D.py := by rw [List.map_map, List.map_map]; rfl
      rw [e2, pysOf_map]
      simp only [wp_ok]
      simp [q_law_1, -List.map_map]
      rw [wp_callVL (a := z) rfl hl]
      have fr := fit pG
      simp [f2', fr, tt, nn, -List.map_map]
  · rintro σ T' ⟨hσ, rfl⟩
    obtain ⟨v10, v11, v12, rfl⟩ := slot3 hσ
    exact hN _ _ _

theorem q6_ok {A B a o : Nat} {f : Face} {P Q : List Pair} {x e : Int} {T : Sto} {a0 a1 a2 a4 a6 a8 a9 a10 a11 a16 a17 a18 a19 a20 : Option D} {N : K} (ha : a ≤ 122) (ho : o ≤ 122)
    (ce : ∀ T, F_changed [.py f.py, .py (encP P), .py (encP Q)] T = .ok (.py (.tuple ((if x = e then [] else [(a, o)]).map encLL))) T)
    (hN : N.nx [a0, a1, a2, some (.py f.py), a4, some (.py (encP P)), a6, some (.py (lt o)), a8, a9, a10, a11, some (.py (lt a)), some (.py (.int x)), some (.py (.int e)), some (.py (encP Q)), a16, a17, a18, a19, a20] T) :
    (q_law_6 A B [a0, a1, a2, some (.py f.py), a4, some (.py (encP P)), a6, some (.py (lt o)), a8, a9, a10, a11, some (.py (lt a)), some (.py (.int x)), some (.py (.int e)), some (.py (encP Q)), a16, a17, a18, a19, a20] T).wp N := by
  have nei : ∀ (x y : Int) T, neD (.py (.int x)) (.py (.int y)) T = .ok (.py (.bool (decide (x ≠ y)))) T := fun x y T => by
    show DV.R.ok (D.py (.bool (!decide (x = y)))) T = _
    simp
  have n0 : ∀ T, neD (.py (.tuple [])) (.py (.tuple [])) T = .ok (.py (.bool false)) T := fun T => rfl
  have n1 : ∀ T, neD (.py (.tuple [.tuple [lt a, lt o]])) (.py (.tuple [.tuple [lt a, lt o]])) T = .ok (.py (.bool false)) T := fun T => ne_self (k := 2) (w := 100) ((Fit.tuple (.cons ((Fit.tuple (.cons (Fit.lt (c := a) (by omega)) (.cons (Fit.lt (c := o) (by omega)) (FitL.nil (w := 0)))))) (FitL.nil (w := 0)))).mono (by decide) (by decide)) (by decide) T
  unfold q_law_6
  by_cases h : x = e
  · simp only [h, if_true] at ce
    subst h
    simp [ce, nei, n0, pysOf]
    exact hN
  · simp only [h, if_false] at ce
    have e1 : ([(a, o)] : List (Nat × Nat)).map encLL = [.tuple [lt a, lt o]] := rfl
    rw [e1] at ce
    simp [ce, nei, h, n1, pysOf]
    exact hN
theorem mvs5 (P Q : List Pair) {ls : List (List Nat)} (h : ls.length = 5) : mvs P Q (ls.map tx) = (List.range 5).filter fun k => (ls.map (mvd P Q)).getD k false := by
  match ls, h with
  | [a, b, c, d, e], _ =>
    have t : ∀ l, txOf (tx l) = l := fun l => rfl
    have r5 : List.range 5 = [0, 1, 2, 3, 4] := by decide
    rw [r5]
    simp only [mvs, List.map_cons, List.map_nil, List.zipIdx_cons, List.zipIdx_nil, List.filter_cons, List.filter_nil, t, List.getD_cons_zero, List.getD_cons_succ]
    cases mvd P Q a <;> cases mvd P Q b <;> cases mvd P Q c <;> cases mvd P Q d <;> cases mvd P Q e <;> rfl
theorem begs_ne {f : Face} {P Q : List Pair} {lo hi : Int} (g : f.Good lo hi) (hP : Wid f P) (hQ : Wid f Q) {l : List Nat} (hl : l.length ≤ 100) (T : Sto) : neD (.py (tupI (begs f P l))) (.py (tupI (begs f Q l))) T = .ok (.py (.bool (mvd P Q l))) T := by
  have bnd : ∀ {P : List Pair}, Wid f P → (∀ x ∈ begs f P l, -999999999 ≤ x ∧ x ≤ 999999999) ∧ (begs f P l).length ≤ 2000 := fun {P} h => ⟨fun x hx => by
    obtain ⟨k, hk, rfl⟩ := List.mem_map.mp hx
    have := bg_bnd g h l k
    simp at hk
    omega, by simp [begs]; omega⟩
  rw [neD_of (enc_tup.eq (bnd hP) (bnd hQ) T)]
  congr 3
  have := begs_mvd f P Q l
  cases q : mvd P Q l with
  | false => simp [this.mpr q]
  | true =>
    have : ¬ begs f P l = begs f Q l := fun e => by
      rw [this.mp e] at q
      cases q
    simp [this]
-- slots: 0 _law_script, 1 _law_k, 2 _law_box_here, 3 _law_face_here, 4 _law_letters_here, 5 _law_pairs_here, 6 _law_letter, 7 _law_other, 8 _law_later, 9 _law_more, 10 _law_parting, 11 _law_due, 12 _law_one, 13 _law_gap, 14 _law_elder, 15 _law_turned, 16 _law_texts, 17 _law_moved, 18 _law_line, 19 _law_text_here, 20 _law_number
theorem true_law (A B : Nat) (ns : List Int) (hAB : A ≠ B) (h : ns.length ≤ 63) : ∃ S', F_law A B [.py (.list (ns.map .int))] [] = .ok (.py (.bool true)) S' := by
  refine law_all (n := 18) (c := 3) (by decide) (by decide) ?_
  intro k ys S n hB hy hk
  obtain ⟨y3, r3, rfl, h3⟩ := explode hy
  obtain ⟨y4, r4, rfl, h4⟩ := explode h3
  obtain ⟨y5, r5, rfl, h5⟩ := explode h4
  obtain ⟨y6, r6, rfl, h6⟩ := explode h5
  obtain ⟨y7, r7, rfl, h7⟩ := explode h6
  obtain ⟨y8, r8, rfl, h8⟩ := explode h7
  obtain ⟨y9, r9, rfl, h9⟩ := explode h8
  obtain ⟨y10, r10, rfl, h10⟩ := explode h9
  obtain ⟨y11, r11, rfl, h11⟩ := explode h10
  obtain ⟨y12, r12, rfl, h12⟩ := explode h11
  obtain ⟨y13, r13, rfl, h13⟩ := explode h12
  obtain ⟨y14, r14, rfl, h14⟩ := explode h13
  obtain ⟨y15, r15, rfl, h15⟩ := explode h14
  obtain ⟨y16, r16, rfl, h16⟩ := explode h15
  obtain ⟨y17, r17, rfl, h17⟩ := explode h16
  obtain ⟨y18, r18, rfl, h18⟩ := explode h17
  obtain ⟨y19, r19, rfl, h19⟩ := explode h18
  obtain ⟨y20, r20, rfl, h20⟩ := explode h19
  obtain rfl := nil_of h20
  have hn := hB.lt
  clear h3 h4 h5 h6 h7 h8 h9 h10 h11 h12 h13 h14 h15 h16 h17 h18 h19 h20 hy
  have tk : ∀ {T : Sto} (m : Int), Ch n S T → 0 < m → m < 1073741824 → (F_law_take [.obj n, .py (.int m)] T).wp (fun d S2 => ∃ r, d = .py (PyData.int r) ∧ (0 ≤ r ∧ r < m) ∧ Ch n T S2) noE := fun m c a b =>
    (take_ok c.box a b).to fun d S2 ⟨r, e, r0, r1, c2, _⟩ => ⟨r, e, ⟨r0, r1⟩, c2⟩
  simp
  refine (face_ok (n := n) (lo := 1) (hi := 7) hB (by decide) (by decide) (by decide)).to ?_
  rintro _ S1 ⟨f, rfl, gf, c1, _⟩
  have lo := gf.lo
  have hi := gf.hi
  have b122 : ∀ c ∈ f.lets, 97 ≤ c ∧ c ≤ 122 := fun c hc => gf.mem hc
  have b2 : ∀ c ∈ f.lets, c ≤ 122 := fun c hc => (b122 c hc).2
  have nd : f.lets.Nodup := gf.nd
  have h200 : f.ls.length ≤ 200 := by omega
  have llen : f.lets.length = f.ls.length := by simp
  simp [law_letters_eq]
  refine (law_pairs_ok (n := n) c1.box (by omega) (by omega)).to ?_
  rintro _ S2 ⟨R, rfl, rR, c2, _⟩
  have c12 := c1.trans c2
  have hW := wid_of gf rR
  have pR := PG.mlist (L := f.lets) (R := R) b2 rR.bnd9 (by omega)
  have eP := mlist_g nd rR
  have h9 : ∀ a ∈ f.lets, ∀ b ∈ f.lets, -9 ≤ gapIn (mlist f.lets R) a b ∧ gapIn (mlist f.lets R) a b ≤ 9 := fun a _ b _ => gapIn_all (Q := fun x => -9 ≤ x ∧ x ≤ 9) (by omega) (fun p hp => by
    obtain ⟨i, j, row, k1, k2, k3, k4, _⟩ := mem_mlist hp
    exact rR.bnd row (List.mem_of_getElem? k2) _ (List.mem_of_getElem? k4)) a b
  generalize mlist f.lets R = P at *
  have pf := pR.fit
  have ff := face_fit gf h200
  simp
  refine (law_fresh_new c12.box b2 (by omega)).to ?_
  rintro _ S3 ⟨c, rfl, hc, hcb, c3⟩
  have c13 := c12.trans c3
  have lL : ∀ T, lenD [.py (.list (f.lets.map lt))] T = .ok (.py (.int (f.ls.length : Nat))) T := fun T => by simp [lenD, seqOf]
  simp [lL]
  refine (tk f.ls.length c13 (by omega) (by omega)).to ?_
  rintro _ S4 ⟨r1, rfl, hr1, c4⟩
  have c14 := c13.trans c4
  have pick : ∀ r : Int, 0 ≤ r ∧ r < (f.ls.length : Nat) → ∃ i o, f.lets[i]? = some o ∧ ∀ T, itemD (.py (.list (f.lets.map lt))) (.py (.int r)) T = .ok (.py (lt o)) T := fun r hr => by
    have hl : r.toNat < f.lets.length := by omega
    exact ⟨r.toNat, f.lets[r.toNat], List.getElem?_eq_getElem hl, fun T => itemD_listI hr.1 (by simp [hl])⟩
  obtain ⟨jo, o, hjo, io⟩ := pick r1 hr1
  have ho := List.mem_of_getElem? hjo
  have wl := fun T => with_like_eq (P := P) nd (by omega) hc hcb ho T
  have wo : 10 ≤ wdL f o ∧ wdL f o ≤ 99 := by
    obtain ⟨p, q1, q2, q3⟩ := wdL_at nd hjo
    have := gf.ok p (List.mem_of_getElem? q1)
    omega
  have g2 := addF_good gf hc hcb wo
  have l2 : (addF f c (wdL f o)).lets = f.lets ++ [c] := addF_lets _ _ _
  have e2 := like_lst (P := P) (o := o) hc
  have nd2 : (f.lets ++ [c]).Nodup := l2 ▸ g2.nd
  have hst : ∀ x ∈ f.lets ++ [c], stnd c o x ∈ f.lets := fun x hx => by
    unfold stnd
    split
    · exact ho
    · rename_i q
      rcases List.mem_append.mp hx with hx | hx
      · exact hx
      · exact absurd (List.mem_singleton.mp hx) q
  have g9 : ∀ a ∈ f.lets ++ [c], ∀ b ∈ f.lets ++ [c], -9 ≤ gapIn P (stnd c o a) (stnd c o b) ∧ gapIn P (stnd c o a) (stnd c o b) ≤ 9 := fun a ha b hb => h9 _ (hst a ha) _ (hst b hb)
  rw [e2] at wl
  simp [io, wl]
  have k2 : (addF f c (wdL f o)).ls.length = f.ls.length + 1 := by simp [addF]
  generalize hf2 : addF f c (wdL f o) = f2 at *
  have b22 : ∀ x ∈ f2.lets, x ≤ 122 := fun x hx => (g2.mem hx).2
  -- is_face, is_list
  have ff2 := face_fit g2 (by omega)
  have isf := fun T => is_face_any ff2.x (by decide) T
  rw [face_is g2 (by decide) (by decide)] at isf
  have isl := fun T => is_list_any (f := f2) (encP (lstG2 (f.lets ++ [c]) fun l r => gapIn P (stnd c o l) (stnd c o r))) T
  rw [l2, lstG2_told nd2 g9] at isl
  have nb : ∀ T, notBD (.py (.bool true)) (.py (.bool true)) T = .ok (.py (.bool false)) T := fun T => rfl
  simp [q_law_0, isf, isl, nb, -wp_forL_cons]
  have gin : ∀ a ∈ f.lets ++ [c], ∀ b ∈ f.lets ++ [c], gapIn (lstG2 (f.lets ++ [c]) fun l r => gapIn P (stnd c o l) (stnd c o r)) a b = gapIn P (stnd c o a) (stnd c o b) := fun a ha b hb => gap_lstG2 nd2 ha hb
  obtain ⟨P2, hP2⟩ : ∃ P2, P2 = lstG2 (f.lets ++ [c]) fun l r => gapIn P (stnd c o l) (stnd c o r) := ⟨_, rfl⟩
  rw [← hP2] at gin ⊢
  have mk : ∀ {L : List Nat} {u : Nat → Nat → Int}, L.length ≤ 10 → (∀ a ∈ L, ∀ b ∈ L, -9 ≤ u a b ∧ u a b ≤ 9) → Mk (L.map fun l => L.map fun r => u l r) := fun {L u} hl hb => ⟨by simp; omega, fun r hr => by
    obtain ⟨l, _, rfl⟩ := List.mem_map.mp hr
    simp
    omega, fun r hr x hx => by
    obtain ⟨l, hl, rfl⟩ := List.mem_map.mp hr
    obtain ⟨y, hy, rfl⟩ := List.mem_map.mp hx
    have := hb l hl y hy
    omega⟩
  have len10 : ∀ {M : List (List Int)}, f.lets.length = M.length → ∀ g ∈ groups f.lets M, g.length ≤ 10 := fun hM g hg => by
    have := (groups_part nd hM).len1 hg
    omega
  refine part_loop (f2 := f2) hAB b22 (by omega) ⟨_, len10 (by simp), fun T => left_parting_eq f P T (mk (by omega) h9), ?_, fun T => ?_⟩ ⟨_, len10 (by simp), fun T => right_parting_eq f P T (mk (u := fun r l => gapIn P l r) (by omega) fun a ha b hb => h9 b hb a ha), ?_, fun T => ?_⟩ ?_
  · rw [← groups_stnd (fun a r => gapIn P a r) hc ho, l2]
    exact groups_part nd2 (by simp)
  · have e := left_parting_eq f2 P2 T (by
      rw [l2]
      refine mk (by simp; omega) fun a ha b hb => ?_
      rw [gin a ha b hb]
      exact g9 a ha b hb)
    rw [l2] at e
    rw [e, ← groups_stnd (fun a r => gapIn P a r) hc ho]
    congr 4
    exact List.map_congr_left fun a ha => List.map_congr_left fun b hb => gin a ha b hb
  · rw [← groups_stnd (fun a r => gapIn P r a) hc ho, l2]
    exact groups_part nd2 (by simp)
  · have e := right_parting_eq f2 P2 T (by
      rw [l2]
      refine mk (u := fun r l => gapIn P2 l r) (by simp; omega) fun a ha b hb => ?_
      rw [gin b hb a ha]
      exact g9 b hb a ha)
    rw [l2] at e
    rw [e, ← groups_stnd (fun a r => gapIn P r a) hc ho]
    congr 4
    exact List.map_congr_left fun a ha => List.map_congr_left fun b hb => gin b hb a ha
  intro v10 v11 v12
  have hc2 : c ∈ f2.lets := by rw [l2]; simp
  have n1 : ¬ f2.ls.length = 1 := by omega
  have wol := fun T => without_letter_eq (P := P2) hc2 T
  have hcs : ∀ x ∈ f.lets, stnd c o x = x := fun x hx => by
    have : x ≠ c := fun e => hc (e ▸ hx)
    unfold stnd
    rw [if_neg this]
  have eD : dropP P2 c = P := by
    rw [hP2, drop_lst hc]
    conv => rhs; rw [eP]
    exact lstG2_congr fun a ha b hb => by rw [hcs a ha, hcs b hb]
  have eF : dropF f2 c = f := by rw [← hf2]; exact drop_add hc
  rw [eD, eF] at wol
  simp only [if_neg n1] at wol
  have fpr : Fit (.tuple [f.py, encP P]) 4 300000 := (Fit.tuple (.cons (Fit.mono (k := 3) (w := 2000) ff (k' := 3) (w' := 2000) (by decide) (by decide)) (.cons (Fit.mono pf (k' := 3) (w' := 240000) (by decide) (by decide)) (FitL.nil (w := 0))))).mono (by decide) (by decide)
  have rpr := fpr.repr (by decide) (by decide)
  have nn : ∀ (x : Str) T, neD (.py (.str x)) (.py (.str x)) T = .ok (.py (.bool false)) T := fun x T => by
    show DV.R.ok (D.py (.bool (!decide (x = x)))) T = _
    simp
  -- with_letter
  have sh : Short 10000 (lt c) := fun x e => by cases e; simp [Str.length]
  have hd : isL (lt c) = some c := by simp [isL, hcb]
  have hyes : ∃ c', isL (lt c) = some c' ∧ c' ∉ f.lets := ⟨c, hd, hc⟩
  have wle := fun T => with_letter_any (f := f) (d := lt c) (e := .int (wdL f o)) sh h200 T
  have w99 : isFT 10 99 (.int (wdL f o)) = true := by simp [isFT]; omega
  have n10 : ¬ 10 ≤ f.ls.length := by omega
  simp only [if_pos hyes, w99, if_true, if_neg n10] at wle
  have epy : f2.py = .tuple [.int f.w, .tuple (f.ls.map encL ++ [.tuple [lt c, .int (wdL f o)]])] := by rw [← hf2]; exact addF_py _ _ _
  rw [← epy] at wle
  have nf2 : ∀ T, neD (.py f2.py) (.py f2.py) T = .ok (.py (.bool false)) T := fun T => by
    rw [epy] at ff2 ⊢
    exact ne_self ff2 (by decide) T
  have i1 : ∀ T, itemD (.py f.py) (.py (.int 1)) T = .ok (.py (.tuple (f.ls.map encL))) T := fun T => itemD_tupleI (by decide) rfl
  have lk := look_l ho
  have nk := lkv_nodup nd
  have dg : ∀ T, dgetV (.py (.dict ((lkv f).map fun p => (keyP p.1, p.2)))) (.py (lt o)) T = .ok (.py (.int (wdL f o))) T := fun T => by
    simp [dgetV, keyOf, lk]
  simp [q_law_3, wol, rpr, nn, q_law_4, i1, pairs_l, nk, dg, wle, nf2, pysOf, lL, -wp_forL_cons, -List.map_append]
  refine (tk f.ls.length c14 (by omega) (by omega)).to ?_
  rintro _ S5 ⟨r2, rfl, hr2, c5⟩
  have c15 := c14.trans c5
  obtain ⟨ia, a, hia, ita⟩ := pick r2 hr2
  have ha := List.mem_of_getElem? hia
  have su : ∀ (a b : Int) T, subD (.py (.int a)) (.py (.int b)) T = .ok (.py (.int (a - b))) T := fun a b T => rfl
  simp [ita]
  refine (tk 19 c15 (by decide) (by decide)).to ?_
  rintro _ S6 ⟨r3, rfl, hr3, c6⟩
  have c16 := c15.trans c6
  have gof := fun T => gap_of_eq ha ho P T
  have wg1 := fun T => with_gap_eq (P := P) (x := r3 - 9) nd h200 hia hjo (by omega) T
  rw [with_gap_lst nd hia hjo] at wg1
  obtain ⟨Q, hQ⟩ : ∃ Q, Q = lstG2 f.lets fun l r => if l = a ∧ r = o then r3 - 9 else gapIn P l r := ⟨_, rfl⟩
  have chg := changed_one (P := P) nd ha ho (r3 - 9)
  rw [← hQ] at wg1 chg
  have gQ : ∀ l ∈ f.lets, ∀ r ∈ f.lets, gapIn Q l r = if l = a ∧ r = o then r3 - 9 else gapIn P l r := fun l hl r hr => by rw [hQ]; exact gap_lstG2 nd hl hr
  have wg2 := fun T => with_gap_eq (P := Q) (x := gapIn P a o) nd h200 hia hjo (h9 a ha o ho) T
  rw [with_gap_lst nd hia hjo] at wg2
  have eQ : (lstG2 f.lets fun l r => if l = a ∧ r = o then gapIn P a o else gapIn Q l r) = P := by
    conv => rhs; rw [eP]
    refine lstG2_congr fun l hl r hr => ?_
    by_cases h : l = a ∧ r = o
    · rw [if_pos h, h.1, h.2]
    · rw [if_neg h, gQ l hl r hr, if_neg h]
  rw [eQ] at wg2
  have rP := pf.repr (by decide) (by decide)
  have ce := fun T => changed_eq f P Q T h200
  rw [chg] at ce
  have nei : ∀ (x y : Int) T, neD (.py (.int x)) (.py (.int y)) T = .ok (.py (.bool (decide (x ≠ y)))) T := fun x y T => by
    show DV.R.ok (D.py (.bool (!decide (x = y)))) T = _
    simp
  simp [su, gof, wg1, wg2, q_law_5, rP, nn, pysOf, -wp_forL_cons, -wp_ifE]
  refine q6_ok (b2 a ha) (b2 o ho) ce ?_
  have tt : ∀ ds T, tupleD [.py (.list ds)] T = .ok (.py (.tuple ds)) T := fun ds T => by simp [tupleD, seqOf]
  simp only []
  refine (draws tx (fun l => (∀ x ∈ l, f.has x) ∧ l.length ≤ 9) c16.box fun x S' hx cx => ?_).to ?_
  · simp
    refine (law_text_ok (most := 9) (c16.trans cx).box h200 (by decide) (by decide)).to ?_
    rintro _ S'' ⟨l, rfl, h1, h2, cy⟩
    exact ⟨l, rfl, ⟨h1, by omega⟩, cy⟩
  rintro _ S7 ⟨ts, rfl, ht, htp, c7⟩
  have c17 := c16.trans c7
  have ht3 : ts.length = 3 := by rw [ht]; rfl
  have e1 : ts.map (fun r => D.py (tx r)) = (ts.map tx).map D.py := by rw [List.map_map]; rfl
  rw [e1, pysOf_map]
  simp [-wp_forL_cons]
  refine (draws tx (fun l => (∀ x ∈ l, f.has x) ∧ l.length ≤ 11) c17.box fun x S' hx cx => ?_).to ?_
  · simp
    refine (law_text_ok (most := 9) (c17.trans cx).box h200 (by decide) (by decide)).to ?_
    rintro _ S'' ⟨l, rfl, h1, h2, cy⟩
    have t1 : ∀ T, addD (.py (tx l)) (.py (lt a)) T = .ok (.py (tx (l ++ [a]))) T := fun T => add_tx (a := l) (b := [a]) (by simp; omega) T
    have t2 : ∀ T, addD (.py (tx (l ++ [a]))) (.py (lt o)) T = .ok (.py (tx (l ++ [a] ++ [o]))) T := fun T => add_tx (a := l ++ [a]) (b := [o]) (by simp; omega) T
    simp [t1, t2, -List.append_assoc]
    refine ⟨⟨fun y hy => ?_, by omega⟩, cy⟩
    rcases hy with (hy | rfl) | rfl
    · exact h1 y hy
    · exact .inr ha
    · exact .inr ho
  rintro _ S8 ⟨us, rfl, hu, hup, c8⟩
  have hu2 : us.length = 2 := by rw [hu]; rfl
  have e3 : us.map (fun r => D.py (tx r)) = (us.map tx).map D.py := by rw [List.map_map]; rfl
  rw [e3, pysOf_map]
  obtain ⟨ls, hls⟩ : ∃ ls, ls = ts ++ us := ⟨_, rfl⟩
  have adl : ∀ T, addD (.py (.list (ts.map tx))) (.py (.list (us.map tx))) T = .ok (.py (.list (ls.map tx))) T := fun T => by
    unfold addD
    simp only
    rw [if_pos (by rw [List.length_map, List.length_map, sl_big']; omega), hls, List.map_append]
  have l5 : ls.length = 5 := by rw [hls, List.length_append]; omega
  have lp : ∀ l ∈ ls, (∀ x ∈ l, f.has x) ∧ l.length ≤ 11 := fun l hl => by
    rw [hls] at hl
    rcases List.mem_append.mp hl with hl | hl
    · have := htp l hl
      exact ⟨this.1, by omega⟩
    · exact hup l hl
  have hWQ : Wid f Q := ⟨hW.1, hW.2, fun x y => by
    have q9 : ∀ p ∈ Q, -9 ≤ p.2.2 ∧ p.2.2 ≤ 9 := fun p hp => by
      rw [hQ] at hp
      obtain ⟨l, hl, hp⟩ := List.mem_flatMap.mp hp
      obtain ⟨r, hr, rfl⟩ := List.mem_map.mp hp
      have := h9 l hl r (List.mem_filter.mp hr).1
      simp only
      split <;> omega
    unfold bt
    split
    · decide
    · exact gapIn_all (Q := fun x => -9 ≤ x ∧ x ≤ 9) (by decide) q9 x y⟩
  have sq : seqD (.py (.tuple (ls.map tx))) = some (ls.map tx) := rfl
  simp [adl, tt, sq, -List.map_map]
  rw [List.map_map]
  have shl : ∀ l ∈ ls, Short 10000 (tx l) := fun l hl x e => by
    cases e
    have := (lp l hl).2
    simp [Str.length]
    omega
  refine wp_pureM1 (D.py ∘ tx) (fun l => D.py (.bool (mvd P Q l))) (fun l hl => ?_) ?_
  · have b1 := fun T => (begins_any (P := P) nd (fun c hc => (b122 c hc).1) (shl l hl) T).2 l rfl (lp l hl).1
    have b2' := fun T => (begins_any (P := Q) nd (fun c hc => (b122 c hc).1) (shl l hl) T).2 l rfl (lp l hl).1
    have b3 := fun T => begs_ne gf hW hWQ (l := l) (by have := (lp l hl).2; omega) T
    exact wp_eq (by simp [b1, b2', b3])
  have e4 : ls.map (fun l => D.py (.bool (mvd P Q l))) = ((ls.map (mvd P Q)).map PyData.bool).map D.py := by rw [List.map_map, List.map_map]; rfl
  rw [e4, pysOf_map]
  have are : areTx f (.tuple (ls.map tx)) = true := by
    show (ls.map tx).all (isTx f) = true
    rw [List.all_eq_true]
    intro d hd
    obtain ⟨l, hl, rfl⟩ := List.mem_map.mp hd
    show (l.all fun c => decide (f.has c)) = true
    rw [List.all_eq_true]
    exact fun x hx => decide_eq_true ((lp l hl).1 x hx)
  have ml := fun T => (moved_lines_any (f := f) (P := P) (Q := Q) (p := .tuple (ls.map tx)) (fun ds e d hd => by
    cases e
    obtain ⟨l, hl, rfl⟩ := List.mem_map.mp hd
    exact shl l hl) T).2 _ rfl are
  rw [mvs5 P Q l5] at ml
  have bl5 : (ls.map (mvd P Q)).length = 5 := by simpa using l5
  generalize ls.map (mvd P Q) = bs at *
  simp [q_law_7, ml]
  refine wp_pureM (ls := List.range 5) (fun k : Nat => D.py (.int (0 + (k : Int)))) (fun k => bs.getD k false) (fun k : Nat => D.py (.int (k : Int))) (fun k hk => ?_) ?_
  · have hk5 : k < bs.length := by simp at hk; omega
    have ik : ∀ T, itemD (.py (.list (bs.map .bool))) (.py (.int (k : Int))) T = .ok (.py (.bool (bs.getD k false))) T := fun T => itemD_list k (by simp [hk5])
    simp [ik]
  · simp only [List.getD_eq_getElem?_getD]
    have e5 : (((List.range 5).filter fun k => bs[k]?.getD false).map fun k : Nat => D.py (.int (k : Int))) = (((List.range 5).filter fun k => bs[k]?.getD false).map fun k : Nat => PyData.int (k : Int)).map D.py := by rw [List.map_map]; rfl
    rw [e5, pysOf_map]
    have fit5 : Fit (.tuple (((List.range 5).filter fun k => bs[k]?.getD false).map fun k : Nat => PyData.int (k : Int))) 1 100 := by
      refine (Fit.tupleN (k := 0) (w := 1) (m := 5) (fun d hd => ?_) ?_).mono (by decide) (by decide)
      · obtain ⟨i, hi, rfl⟩ := List.mem_map.mp hd
        have := (List.mem_filter.mp hi).1
        simp at this
        exact (Fit.int (by omega) (by omega)).mono (by decide) (by decide)
      · rw [List.length_map]
        exact Nat.le_trans (List.length_filter_le _ _) (by simp)
    have n5 := fun T => ne_self fit5 (by decide) T
    simp [n5]
    exact .mk rfl
end DV.k75

open PySem PySem.W PyProof.Rows
set_option maxHeartbeats 0 in
theorem PySem.Challenge.cw_stampgaps_k75_whole_growing_faces_holds : PySem.Challenge.rw_stampgaps_k75_whole_growing_faces.Holds := by
  w_on; o_law; k_head; (case hw => w_witness2)
  k_fill
  refine DV.walk_ofD (l := PySem.Challenge.rw_stampgaps_k75_whole_growing_faces) (n := 63) (k := 6) (x := "_law_script") (F := DV.k75.F_law ?adA ?adB) rfl (by decide) rfl ⟨rfl, by decide, by decide⟩ (fun w h Y => PySem.W.kIn_of Y) ?F (fun  ns h => DV.k75.true_law  ?adA ?adB ns ?neab h)
  case F =>
    intro w mg fa h KX G hmg
    refine' DV.k75.all_mk KX G hmg ?a0 ?l0 ?c0 ?k0 ?a1 ?l1 ?c1 ?k1 ?a2 ?l2 ?c2 ?k2 ?a3 ?l3 ?c3 ?k3 ?a4 ?l4 ?c4 ?k4 ?a5 ?l5 ?c5 ?k5 ?a6 ?l6 ?c6 ?k6 ?a7 ?l7 ?c7 ?k7 ?a8 ?l8 ?c8 ?k8 ?a9 ?l9 ?c9 ?k9 ?a10 ?l10 ?c10 ?k10 ?a11 ?l11 ?c11 ?k11 ?a12 ?l12 ?c12 ?k12 ?a13 ?l13 ?c13 ?k13 ?a14 ?l14 ?c14 ?k14 ?a15 ?l15 ?c15 ?k15 ?a16 ?l16 ?c16 ?k16 ?a17 ?l17 ?c17 ?k17 ?a18 ?l18 ?c18 ?k18 ?a19 ?l19 ?c19 ?k19 ?a20 ?l20 ?c20 ?k20 ?a21 ?l21 ?c21 ?k21 ?a22 ?l22 ?c22 ?k22 ?a23 ?l23 ?c23 ?k23 ?a24 ?l24 ?c24 ?k24 ?a25 ?l25 ?c25 ?k25 ?a26 ?l26 ?c26 ?k26 ?a27 ?l27 ?c27 ?k27 ?a28 ?l28 ?c28 ?k28 ?a29 ?l29 ?c29 ?k29 ?a30 ?l30 ?c30 ?k30 ?a31 ?l31 ?c31 ?k31 ?a32 ?l32 ?c32 ?k32 ?a33 ?l33 ?c33 ?k33 ?a34 ?l34 ?c34 ?k34 ?a35 ?l35 ?c35 ?k35 ?a36 ?l36 ?c36 ?k36 ?a37 ?l37 ?c37 ?k37 ?a38 ?l38 ?c38 ?k38 ?a39 ?l39 ?c39 ?k39 ?a40 ?l40 ?c40 ?k40 ?a41 ?l41 ?c41 ?k41 ?a42 ?l42 ?c42 ?k42 ?a43 ?l43 ?c43 ?k43 ?a44 ?l44 ?c44 ?k44 ?xa_NoLetter ?h1_NoLetter ?q1_NoLetter ?q2_NoLetter ?q3_NoLetter ?q4_NoLetter ?h2_NoLetter ?q5_NoLetter ?n1_NoLetter ?h3_NoLetter ?q6_NoLetter ?h4_NoLetter ?q7_NoLetter ?n2_NoLetter ?xk_NoLetter ?xb_NoLetter ?xt_NoLetter ?xa_NoLine ?h1_NoLine ?q1_NoLine ?q2_NoLine ?q3_NoLine ?q4_NoLine ?h2_NoLine ?q5_NoLine ?n1_NoLine ?h3_NoLine ?q6_NoLine ?h4_NoLine ?q7_NoLine ?n2_NoLine ?xk_NoLine ?xb_NoLine ?xt_NoLine ?xa_TooMany ?h1_TooMany ?q1_TooMany ?q2_TooMany ?q3_TooMany ?q4_TooMany ?h2_TooMany ?q5_TooMany ?n1_TooMany ?h3_TooMany ?q6_TooMany ?h4_TooMany ?q7_TooMany ?n2_TooMany ?xk_TooMany ?xb_TooMany ?xt_TooMany ?xa_NoNumber ?h1_NoNumber ?q1_NoNumber ?q2_NoNumber ?q3_NoNumber ?q4_NoNumber ?h2_NoNumber ?q5_NoNumber ?n1_NoNumber ?h3_NoNumber ?q6_NoNumber ?h4_NoNumber ?q7_NoNumber ?n2_NoNumber ?xk_NoNumber ?xb_NoNumber ?xt_NoNumber ?xa_NoGap ?h1_NoGap ?q1_NoGap ?q2_NoGap ?q3_NoGap ?q4_NoGap ?h2_NoGap ?q5_NoGap ?n1_NoGap ?h3_NoGap ?q6_NoGap ?h4_NoGap ?q7_NoGap ?n2_NoGap ?xk_NoGap ?xb_NoGap ?xt_NoGap ?zc_LETTERS ?zc_FAR ?zc_MOST_LETTERS ?z_isinstance ?z_int ?z_bool ?z_str ?z_len ?z_tuple ?z_set ?z_enumerate ?z_all ?z_zip ?z_any ?z_abs ?z_divmod ?z_list ?z_range ?z_min ?z_max ?z_repr ?z_dict
    (case a0 => k_is); (case l0 => k_is); (case c0 => k_is); (case k0 => k_is); (case a1 => k_is); (case l1 => k_is); (case c1 => k_is); (case k1 => k_is); (case a2 => k_is); (case l2 => k_is); (case c2 => k_is); (case k2 => k_is); (case a3 => k_is); (case l3 => k_is); (case c3 => k_is); (case k3 => k_is); (case a4 => k_is); (case l4 => k_is); (case c4 => k_is); (case k4 => k_is); (case a5 => k_is); (case l5 => k_is); (case c5 => k_is); (case k5 => k_is); (case a6 => k_is); (case l6 => k_is); (case c6 => k_is); (case k6 => k_is); (case a7 => k_is); (case l7 => k_is); (case c7 => k_is); (case k7 => k_is); (case a8 => k_is); (case l8 => k_is); (case c8 => k_is); (case k8 => k_is); (case a9 => k_is); (case l9 => k_is); (case c9 => k_is); (case k9 => k_is); (case a10 => k_is); (case l10 => k_is); (case c10 => k_is); (case k10 => k_is); (case a11 => k_is); (case l11 => k_is); (case c11 => k_is); (case k11 => k_is); (case a12 => k_is); (case l12 => k_is); (case c12 => k_is); (case k12 => k_is); (case a13 => k_is); (case l13 => k_is); (case c13 => k_is); (case k13 => k_is); (case a14 => k_is); (case l14 => k_is); (case c14 => k_is); (case k14 => k_is); (case a15 => k_is); (case l15 => k_is); (case c15 => k_is); (case k15 => k_is); (case a16 => k_is); (case l16 => k_is); (case c16 => k_is); (case k16 => k_is); (case a17 => k_is); (case l17 => k_is); (case c17 => k_is); (case k17 => k_is); (case a18 => k_is); (case l18 => k_is); (case c18 => k_is); (case k18 => k_is); (case a19 => k_is); (case l19 => k_is); (case c19 => k_is); (case k19 => k_is); (case a20 => k_is); (case l20 => k_is); (case c20 => k_is); (case k20 => k_is); (case a21 => k_is); (case l21 => k_is); (case c21 => k_is); (case k21 => k_is); (case a22 => k_is); (case l22 => k_is); (case c22 => k_is); (case k22 => k_is); (case a23 => k_is); (case l23 => k_is); (case c23 => k_is); (case k23 => k_is); (case a24 => k_is); (case l24 => k_is); (case c24 => k_is); (case k24 => k_is); (case a25 => k_is); (case l25 => k_is); (case c25 => k_is); (case k25 => k_is); (case a26 => k_is); (case l26 => k_is); (case c26 => k_is); (case k26 => k_is); (case a27 => k_is); (case l27 => k_is); (case c27 => k_is); (case k27 => k_is); (case a28 => k_is); (case l28 => k_is); (case c28 => k_is); (case k28 => k_is); (case a29 => k_is); (case l29 => k_is); (case c29 => k_is); (case k29 => k_is); (case a30 => k_is); (case l30 => k_is); (case c30 => k_is); (case k30 => k_is); (case a31 => k_is); (case l31 => k_is); (case c31 => k_is); (case k31 => k_is); (case a32 => k_is); (case l32 => k_is); (case c32 => k_is); (case k32 => k_is); (case a33 => k_is); (case l33 => k_is); (case c33 => k_is); (case k33 => k_is); (case a34 => k_is); (case l34 => k_is); (case c34 => k_is); (case k34 => k_is); (case a35 => k_is); (case l35 => k_is); (case c35 => k_is); (case k35 => k_is); (case a36 => k_is); (case l36 => k_is); (case c36 => k_is); (case k36 => k_is); (case a37 => k_is); (case l37 => k_is); (case c37 => k_is); (case k37 => k_is); (case a38 => k_is); (case l38 => k_is); (case c38 => k_is); (case k38 => k_is); (case a39 => k_is); (case l39 => k_is); (case c39 => k_is); (case k39 => k_is); (case a40 => k_is); (case l40 => k_is); (case c40 => k_is); (case k40 => k_is); (case a41 => k_is); (case l41 => k_is); (case c41 => k_is); (case k41 => k_is); (case a42 => k_is); (case l42 => k_is); (case c42 => k_is); (case k42 => k_is); (case a43 => k_is); (case l43 => k_is); (case c43 => k_is); (case k43 => k_is); (case a44 => k_is); (case l44 => k_is); (case c44 => k_is); (case k44 => k_is); (case xa_NoLetter => k_is); (case h1_NoLetter => k_is); (case q1_NoLetter => exact rfl); (case q2_NoLetter => exact rfl); (case q3_NoLetter => exact rfl); (case q4_NoLetter => exact rfl); (case h2_NoLetter => k_is); (case q5_NoLetter => exact rfl); (case n1_NoLetter => k_is); (case h3_NoLetter => k_is); (case q6_NoLetter => exact rfl); (case h4_NoLetter => k_is); (case q7_NoLetter => exact rfl); (case n2_NoLetter => k_is); (case xk_NoLetter => k_is); (case xb_NoLetter => k_is); (case xt_NoLetter => k_is); (case xa_NoLine => k_is); (case h1_NoLine => k_is); (case q1_NoLine => exact rfl); (case q2_NoLine => exact rfl); (case q3_NoLine => exact rfl); (case q4_NoLine => exact rfl); (case h2_NoLine => k_is); (case q5_NoLine => exact rfl); (case n1_NoLine => k_is); (case h3_NoLine => k_is); (case q6_NoLine => exact rfl); (case h4_NoLine => k_is); (case q7_NoLine => exact rfl); (case n2_NoLine => k_is); (case xk_NoLine => k_is); (case xb_NoLine => k_is); (case xt_NoLine => k_is); (case xa_TooMany => k_is); (case h1_TooMany => k_is); (case q1_TooMany => exact rfl); (case q2_TooMany => exact rfl); (case q3_TooMany => exact rfl); (case q4_TooMany => exact rfl); (case h2_TooMany => k_is); (case q5_TooMany => exact rfl); (case n1_TooMany => k_is); (case h3_TooMany => k_is); (case q6_TooMany => exact rfl); (case h4_TooMany => k_is); (case q7_TooMany => exact rfl); (case n2_TooMany => k_is); (case xk_TooMany => k_is); (case xb_TooMany => k_is); (case xt_TooMany => k_is); (case xa_NoNumber => k_is); (case h1_NoNumber => k_is); (case q1_NoNumber => exact rfl); (case q2_NoNumber => exact rfl); (case q3_NoNumber => exact rfl); (case q4_NoNumber => exact rfl); (case h2_NoNumber => k_is); (case q5_NoNumber => exact rfl); (case n1_NoNumber => k_is); (case h3_NoNumber => k_is); (case q6_NoNumber => exact rfl); (case h4_NoNumber => k_is); (case q7_NoNumber => exact rfl); (case n2_NoNumber => k_is); (case xk_NoNumber => k_is); (case xb_NoNumber => k_is); (case xt_NoNumber => k_is); (case xa_NoGap => k_is); (case h1_NoGap => k_is); (case q1_NoGap => exact rfl); (case q2_NoGap => exact rfl); (case q3_NoGap => exact rfl); (case q4_NoGap => exact rfl); (case h2_NoGap => k_is); (case q5_NoGap => exact rfl); (case n1_NoGap => k_is); (case h3_NoGap => k_is); (case q6_NoGap => exact rfl); (case h4_NoGap => k_is); (case q7_NoGap => exact rfl); (case n2_NoGap => k_is); (case xk_NoGap => k_is); (case xb_NoGap => k_is); (case xt_NoGap => k_is); (case zc_LETTERS => k_is); (case zc_FAR => k_is); (case zc_MOST_LETTERS => k_is); (case z_isinstance => k_is); (case z_int => k_is); (case z_bool => k_is); (case z_str => k_is); (case z_len => k_is); (case z_tuple => k_is); (case z_set => k_is); (case z_enumerate => k_is); (case z_all => k_is); (case z_zip => k_is); (case z_any => k_is); (case z_abs => k_is); (case z_divmod => k_is); (case z_list => k_is); (case z_range => k_is); (case z_min => k_is); (case z_max => k_is); (case z_repr => k_is); (case z_dict => k_is)
  case neab => decide
