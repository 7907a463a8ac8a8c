import PyProof.Rows.All
import Wide.All
import OpenK.AllK
import Wide.FinOn
import HandS.ForMost
import HandS.ForExc
import HandS.IsInst
import HandS.Zip
import HandS.Lambda
import HandS.TupAny
import HandS.TupLe
import HandS.Deep
import HandS.RevRange
import HandS.Rev
import HandS.Conv
import HandS.NoneIn
import HandS.CallLocal
import HandS.WideBits
import HandS.Flow
import HandS.More
import KE.GoesNew
import KE.GoesMore
import HandS.Dict
import PyProof.NeKinds
import PyProof.EqKinds
import PyProof.EqAt
import HandS.TupMul
import HandS.SortInts
import HandS.ExcOwn
import HandS.ExcValue
import HandS.Style
import HandS.Sort
import KE.DataCmp
import HandS.ExcIs
import HandS.HotCalls
import PyProof.StrOps2
import PyProof.Rows.StrRev
import PyProof.SetRoads
import HandS.Strs
import HandS.TupSets
import KE.DataMinMax
import KE.KTupSum
import KE.SortKeyed
import KE.SortData
import HandS.SetFor
import KE.KDictPairs
import HandS.Text
import PySem.Challenge.RW_stampgaps_k28_tables_of_many_classes
set_option Elab.async false
set_option linter.all false
set_option maxRecDepth 100000
set_option maxHeartbeats 4000000
/-! Data-level meaning of the programs: values by data, lists that are changed by their number in a store. -/
namespace DV
open PySem

inductive D where
  | py (d : PyData)
  | obj (n : Nat)
  /-- the thing at an address, of which nothing is told -/
  | raw (a : Nat)
inductive O where
  | lst (ds : List D)
  | gone
  /-- the law's table of code objects stands at P, each of them bears the name q (number 0 alone) -/
  | tab (P : Nat) (q : Str)
  /-- a dict with tuple keys, one with plain keys -/
  | dt (kvs : List (List (Sum Int Str) × PyData))
  | dk (kvs : List (Sum Int Str × PyData))
  /-- an instance of a class of the module; a tuple in which there are things of the store -/
  | ins (c : Str) (fs : List (Str × D))
  | tpl (ds : List D)
abbrev Sto := List O
inductive R (α : Type) where
  | ok (a : α) (S : Sto)
  | ex (c : Str) (S : Sto)
  | no
abbrev En := List (Option D)
abbrev Ex := En → Sto → R D
abbrev Tx := En → Sto → R Bool
abbrev Ax := En → Sto → R (List D)
inductive F where
  | nx (σ : En) (S : Sto)
  | rt (d : D) (S : Sto)
  | bk (σ : En) (S : Sto)
  | ct (σ : En) (S : Sto)
  | ex (c : Str) (S : Sto)
  | no
abbrev Sx := En → Sto → F
/-- a target -/
abbrev Tg := D → En → Sto → R En

def R.bind {α β : Type} (r : R α) (k : α → Sto → R β) : R β :=
  match r with
  | .ok a S => k a S
  | .ex c S => .ex c S
  | .no => .no
def R.run {α : Type} (r : R α) (k : α → Sto → F) : F :=
  match r with
  | .ok a S => k a S
  | .ex c S => .ex c S
  | .no => .no
@[simp] theorem bind_ok {α β : Type} (a : α) (S : Sto) (k : α → Sto → R β) : (R.ok a S).bind k = k a S := rfl
@[simp] theorem bind_ex {α β : Type} (c : Str) (S : Sto) (k : α → Sto → R β) : (R.ex c S : R α).bind k = .ex c S := rfl
@[simp] theorem bind_no {α β : Type} (k : α → Sto → R β) : (R.no : R α).bind k = .no := rfl
@[simp] theorem run_ok {α : Type} (a : α) (S : Sto) (k : α → Sto → F) : (R.ok a S).run k = k a S := rfl
@[simp] theorem run_ex {α : Type} (c : Str) (S : Sto) (k : α → Sto → F) : (R.ex c S : R α).run k = .ex c S := rfl
@[simp] theorem run_no {α : Type} (k : α → Sto → F) : (R.no : R α).run k = .no := rfl

/-! ### sequences -/
def pysOf : List D → Option (List PyData)
  | [] => some []
  | d :: ds => match d, pysOf ds with
    | .py p, some ps => some (p :: ps)
    | _, _ => none
def seqOf (S : Sto) : D → Option (List D)
  | .py (.list ds) => some (ds.map .py)
  | .py (.tuple ds) => some (ds.map .py)
  | .obj n => match S[n]? with
    | some (.lst ds) => some ds
    | _ => none
  | _ => none
@[simp] theorem pysOf_nil : pysOf [] = some [] := rfl
@[simp] theorem pysOf_map (ds : List PyData) : pysOf (ds.map D.py) = some ds := by
  induction ds with
  | nil => rfl
  | cons d ds ih => simp [pysOf, ih]
@[simp] theorem pysOf_cons (p : PyData) (ds : List D) : pysOf (D.py p :: ds) = (pysOf ds).map (p :: ·) := by
  cases h : pysOf ds <;> simp [pysOf, h]

/-! ### expressions -/
def varE (i : Nat) : Ex := fun σ S => match σ[i]? with
  | some (some d) => .ok d S
  | _ => .no
def cE (d : PyData) : Ex := fun _ S => .ok (.py d) S
def nilA : Ax := fun _ S => .ok [] S
def consA (e : Ex) (r : Ax) : Ax := fun σ S => (e σ S).bind fun d S1 => (r σ S1).bind fun ds S2 => .ok (d :: ds) S2
def tupE (a : Ax) : Ex := fun σ S => (a σ S).bind fun ds S1 => match pysOf ds with
  | some ps => .ok (.py (.tuple ps)) S1
  | none => .no
/-- a new list as a value that is not changed -/
def frz (r : R (List D)) : R D := r.bind fun ds S => match pysOf ds with
  | some ps => .ok (.py (.list ps)) S
  | none => .no
/-- a new list that may be changed -/
def thw (r : R (List D)) : R D := r.bind fun ds S => .ok (.obj S.length) (S ++ [.lst ds])
def frzE (a : Ax) : Ex := fun σ S => frz (a σ S)
def thwE (a : Ax) : Ex := fun σ S => thw (a σ S)
def opE (g : D → D → Sto → R D) (a b : Ex) : Ex := fun σ S => (a σ S).bind fun x S1 => (b σ S1).bind fun y S2 => g x y S2
def op1 (g : D → Sto → R D) (a : Ex) : Ex := fun σ S => (a σ S).bind fun x S1 => g x S1
/-- a call of a function upon its arguments' values -/
def callE (g : List D → Sto → R D) (a : Ax) : Ex := fun σ S => (a σ S).bind fun ds S1 => g ds S1
def lsOk (S : Sto) : D → Bool
  | .py (.list _) => true
  | .obj n => match S[n]? with
    | some (.lst _) => true
    | _ => false
  | _ => false
/-- a list's method, a text's -/
def methL (g : D → List D → Sto → R D) (o : Ex) (a : Ax) : Ex := fun σ S => (o σ S).bind fun x S1 => if lsOk S1 x = true then (a σ S1).bind fun ds S2 => g x ds S2 else .no
def methS (g : D → List D → Sto → R D) (o : Ex) (a : Ax) : Ex := fun σ S => (o σ S).bind fun x S1 => match x with
  | .py (.str _) => (a σ S1).bind fun ds S2 => g x ds S2
  | _ => .no
def ifE (c : Tx) (a b : Ex) : Ex := fun σ S => (c σ S).bind fun k S1 => if k = true then a σ S1 else b σ S1
/-- and, or, not of truths -/
def andE (a b : Ex) : Ex := fun σ S => (a σ S).bind fun x S1 => match x with
  | .py (.bool true) => b σ S1
  | .py (.bool false) => .ok (.py (.bool false)) S1
  | _ => .no
def orE (a b : Ex) : Ex := fun σ S => (a σ S).bind fun x S1 => match x with
  | .py (.bool false) => b σ S1
  | .py (.bool true) => .ok (.py (.bool true)) S1
  | _ => .no
def notE (a : Ex) : Ex := fun σ S => (a σ S).bind fun x S1 => match x with
  | .py (.bool k) => .ok (.py (.bool (!k))) S1
  | _ => .no
/-! ### tests -/
def valT (a : Ex) : Tx := fun σ S => (a σ S).bind fun x S1 => match x with
  | .py (.bool k) => .ok k S1
  | _ => .no
def andT (a b : Tx) : Tx := fun σ S => (a σ S).bind fun k S1 => if k = true then b σ S1 else .ok false S1
def orT (a b : Tx) : Tx := fun σ S => (a σ S).bind fun k S1 => if k = true then .ok true S1 else b σ S1
def notT (a : Tx) : Tx := fun σ S => (a σ S).bind fun k S1 => .ok (!k) S1
def yesT : Tx := fun _ S => .ok true S
/-- a chain a < b < c -/
def chainE (g g' : D → D → Sto → R D) (a b c : Ex) : Ex := fun σ S => (a σ S).bind fun x S1 => (b σ S1).bind fun y S2 => (g x y S2).bind fun z S3 => match z with
  | .py (.bool true) => (c σ S3).bind fun w S4 => g' y w S4
  | .py (.bool false) => .ok (.py (.bool false)) S3
  | _ => .no

/-! ### operators by values -/
def addD : D → D → Sto → R D
  | .py (.int i), .py (.int j), S => .ok (.py (.int (i + j))) S
  | .py (.str x), .py (.str y), S => if x.length + y.length ≤ sizeLine then .ok (.py (.str (x ++ y))) S else .no
  | .py (.list xs), .py (.list ys), S => if xs.length + ys.length ≤ sizeLine then .ok (.py (.list (xs ++ ys))) S else .no
  | .py (.tuple xs), .py (.tuple ys), S => if xs.length + ys.length ≤ sizeLine then .ok (.py (.tuple (xs ++ ys))) S else .no
  | _, _, _ => .no
def subD : D → D → Sto → R D
  | .py (.int i), .py (.int j), S => .ok (.py (.int (i - j))) S
  | _, _, _ => .no
def mulD : D → D → Sto → R D
  | .py (.int i), .py (.int j), S => if (-(2 ^ 64) < i ∧ i < 2 ^ 64) ∨ (-(2 ^ 64) < j ∧ j < 2 ^ 64) then .ok (.py (.int (i * j))) S else .no
  | _, _, _ => .no
def fdivD : D → D → Sto → R D
  | .py (.int i), .py (.int j), S => if 0 < j ∧ j < 1073741824 then .ok (.py (.int (i / j))) S else .no
  | _, _, _ => .no
def modD : D → D → Sto → R D
  | .py (.int i), .py (.int j), S => if 0 < j then .ok (.py (.int (i % j))) S else .no
  | _, _, _ => .no
def negD : D → Sto → R D
  | .py (.int i), S => .ok (.py (.int (-i))) S
  | _, _ => .no
/-- == of whole numbers, truths, texts and None, without any look at their texts -/
def flatD : PyData → PyData → Option Bool
  | .none, .none => some true
  | .none, .int _ => some false
  | .int _, .none => some false
  | .none, .bool _ => some false
  | .bool _, .none => some false
  | .none, .str _ => some false
  | .str _, .none => some false
  | .int i, .int j => some (decide (i = j))
  | .str x, .str y => some (decide (x = y))
  | .bool a, .bool b => some (decide (a = b))
  | .int _, .str _ => some false
  | .str _, .int _ => some false
  | .bool _, .str _ => some false
  | .str _, .bool _ => some false
  | _, _ => none
/-- a text and a dict -/
def dkTx : PyData → PyData → Bool
  | .str _, .dict _ => true
  | .dict _, .str _ => true
  | _, _ => false
/-- surely unlike, whatever stands within -/
def offB : PyData → PyData → Bool
  | .str _, .list _ => true
  | .list _, .str _ => true
  | .str _, .tuple _ => true
  | .tuple _, .str _ => true
  | .tuple ds, .tuple es => ds.isEmpty != es.isEmpty
  | .list ds, .list es => ds.length != es.length
  | d, e => dkTx d e
def eqB (d e : PyData) : Option Bool := match flatD d e with
  | some k => some k
  | none => if SeqAt.shaped d = true ∧ SeqAt.shaped e = true then some (PyData.eqv d e) else if offB d e = true then some false else none
def eqD : D → D → Sto → R D
  | .py d, .py e, S => (match eqB d e with
    | some k => .ok (.py (.bool k)) S
    | none => .no)
  | _, _, _ => .no
def neD : D → D → Sto → R D
  | .py d, .py e, S => (match eqB d e with
    | some k => .ok (.py (.bool (!k))) S
    | none => .no)
  | _, _, _ => .no
def cmpI (p : Int → Int → Bool) : D → D → Sto → R D
  | .py (.int i), .py (.int j), S => .ok (.py (.bool (p i j))) S
  | _, _, _ => .no
def isNon : PyData → Bool
  | .none => true
  | _ => false
def isND : D → D → Sto → R D
  | .py d, .py .none, S => .ok (.py (.bool (isNon d))) S
  | _, _, _ => .no
def notND : D → D → Sto → R D
  | .py d, .py .none, S => .ok (.py (.bool (!isNon d))) S
  | _, _, _ => .no
def itemD : D → D → Sto → R D
  | .py (.str x), .py (.int i), S => if x.length ≤ sizeLine then (match L2.atI x.cps.toList i with
    | some c => .ok (.py (.str ⟨#[c]⟩)) S
    | none => .no) else .no
  | x, .py (.int i), S => match seqOf S x with
    | some ds => (match L2.atI ds i with
      | some d => .ok d S
      | none => .no)
    | none => .no
  | _, _, _ => .no

/-! ### built-ins by values -/
def lenD : List D → Sto → R D
  | [.py (.str x)], S => if x.length ≤ sizeLine then .ok (.py (.int (x.length : Nat))) S else .no
  | [d], S => (match seqOf S d with
    | some ds => .ok (.py (.int (ds.length : Nat))) S
    | none => .no)
  | _, _ => .no
def max2D : List D → Sto → R D
  | [.py (.int i), .py (.int j)], S => .ok (.py (.int (if j > i then j else i))) S
  | _, _ => .no
def min2D : List D → Sto → R D
  | [.py (.int i), .py (.int j)], S => .ok (.py (.int (if j < i then j else i))) S
  | _, _ => .no
def absD : List D → Sto → R D
  | [.py (.int i)], S => .ok (.py (.int (if i < 0 then -i else i))) S
  | _, _ => .no
def divmodD : List D → Sto → R D
  | [.py (.int i), .py (.int j)], S => if 0 < j ∧ j < 1073741824 then .ok (.py (.tuple [.int (i / j), .int (i % j)])) S else .no
  | _, _ => .no
def tupleD : List D → Sto → R D
  | [d], S => (match seqOf S d with
    | some ds => (match pysOf ds with
      | some ps => .ok (.py (.tuple ps)) S
      | none => .no)
    | none => .no)
  | _, _ => .no
/-- a new list of the items -/
def listD : List D → Sto → R (List D)
  | [.py (.str x)], S => if x.length ≤ sizeLine then .ok (x.cps.toList.map fun c => D.py (.str ⟨#[c]⟩)) S else .no
  | [d], S => (match seqOf S d with
    | some ds => .ok ds S
    | none => .no)
  | _, _ => .no
/-- the data of a value, the lists of the store within it as they stand -/
def deep (S : Sto) : Nat → D → Option PyData
  | 0, _ => none
  | _ + 1, .py d => some d
  | n + 1, .obj m => match S[m]? with
    | some (.lst ds) => (ds.mapM (deep S n)).map PyData.list
    | _ => none
  | _ + 1, .raw _ => none
def reprD : List D → Sto → R D
  | [d], S => (match deep S 8 d with
    | some p => if p.showable = true ∧ p.hasDict = false ∧ p.depth ≤ 60 ∧ p.shown.length ≤ sizeLine then .ok (.py (.str p.shown)) S else .no
    | none => .no)
  | _, _ => .no
/-- a call that makes a new list -/
def callL (g : List D → Sto → R (List D)) (a : Ax) : Ax := fun σ S => (a σ S).bind fun ds S1 => g ds S1
/-! ### methods by values -/
def appendD : D → List D → Sto → R D
  | .obj n, [d], S => (match S[n]? with
    | some (.lst ds) => if ds.length < sizeLine then .ok (.py .none) (S.set n (.lst (ds ++ [d]))) else .no
    | _ => .no)
  | _, _, _ => .no
def popD : D → List D → Sto → R D
  | .obj n, [], S => (match S[n]? with
    | some (.lst ds) => (match ds[ds.length - 1]? with
      | some d => .ok d (S.set n (.lst ds.dropLast))
      | none => .no)
    | _ => .no)
  | .obj n, [.py (.int i)], S => (match S[n]? with
    | some (.lst ds) => if 0 ≤ i ∧ i < 2 ^ 62 then (match ds[i.toNat]? with
      | some d => .ok d (S.set n (.lst (ds.eraseIdx i.toNat)))
      | none => .no) else .no
    | _ => .no)
  | _, _, _ => .no
/-- xs.extend(a new list) -/
def extE (o : Ex) (a : Ax) : Ex := fun σ S => (o σ S).bind fun x S1 => match x with
  | .obj n => (match S1[n]? with
    | some (.lst _) => (a σ S1).bind fun ds S2 => (match S2[n]? with
      | some (.lst es) => if es.length + ds.length ≤ sizeLine then .ok (.py .none) (S2.set n (.lst (es ++ ds))) else .no
      | _ => .no)
    | _ => .no)
  | _ => .no

/-! ### targets -/
def nmG (i : Nat) : Tg := fun d σ S => .ok (σ.set i (some d)) S
def nilG : List D → En → Sto → R En := fun ds σ S => match ds with
  | [] => .ok σ S
  | _ => .no
def consG (g : Tg) (r : List D → En → Sto → R En) : List D → En → Sto → R En := fun ds σ S => match ds with
  | d :: ds => (g d σ S).bind fun σ1 S1 => r ds σ1 S1
  | [] => .no
/-- a tuple to several targets -/
def tupG (n : Nat) (r : List D → En → Sto → R En) : Tg := fun d σ S => match d with
  | .py (.tuple ps) => if ps.length = n then r (ps.map .py) σ S else .no
  | _ => .no
/-- o[i] = d, of a list that may be changed -/
def ixG (o i : Ex) : Tg := fun d σ S => (o σ S).bind fun x S1 => (i σ S1).bind fun k S2 => match x, k with
  | .obj n, .py (.int k) => (match S2[n]? with
    | some (.lst ds) => (match L2.ixN ds.length k with
      | some j => .ok σ (S2.set n (.lst (ds.set j d)))
      | none => .no)
    | _ => .no)
  | _, _ => .no

/-! ### what is walked -/
abbrev It := En → Sto → R (List D)
def seqI (e : Ex) : It := fun σ S => (e σ S).bind fun d S1 => match d with
  | .py (.list ds) => .ok (ds.map .py) S1
  | .py (.tuple ds) => .ok (ds.map .py) S1
  | _ => .no
def txtI (e : Ex) : It := fun σ S => (e σ S).bind fun d S1 => match d with
  | .py (.str x) => if x.length ≤ 16777216 then .ok (x.cps.toList.map fun c => D.py (.str ⟨#[c]⟩)) S1 else .no
  | _ => .no
def rngV (lo : Int) (n : Nat) : List D := (List.range n).map fun (k : Nat) => D.py (.int (lo + (k : Int)))
def rng1I (e : Ex) : It := fun σ S => (e σ S).bind fun d S1 => match d with
  | .py (.int j) => if -(2 ^ 62) ≤ j ∧ j ≤ 16777216 then .ok (rngV 0 j.toNat) S1 else .no
  | _ => .no
def rng2I (a b : Ex) : It := fun σ S => (a σ S).bind fun x S1 => (b σ S1).bind fun y S2 => match x, y with
  | .py (.int i), .py (.int j) => if -(2 ^ 62) ≤ i ∧ j - i ≤ 16777216 ∧ i < 2 ^ 62 ∧ -(2 ^ 62) ≤ j ∧ j < 2 ^ 62 then .ok (rngV i (j - i).toNat) S2 else .no
  | _, _ => .no
def pyWalk (S : Sto) : D → Option (List PyData)
  | .py (.str x) => if x.length ≤ 16777216 then some (x.cps.toList.map fun c => PyData.str ⟨#[c]⟩) else none
  | .py (.list ds) => some ds
  | .py (.tuple ds) => some ds
  | _ => none
def zipI (a b : Ex) : It := fun σ S => (a σ S).bind fun x S1 => (b σ S1).bind fun y S2 => match pyWalk S2 x, pyWalk S2 y with
  | some xs, some ys => .ok ((xs.zip ys).map fun p => D.py (.tuple [p.1, p.2])) S2
  | _, _ => .no
def zip3I (a b c : Ex) : It := fun σ S => (a σ S).bind fun x S1 => (b σ S1).bind fun y S2 => (c σ S2).bind fun z S3 => match pyWalk S3 x, pyWalk S3 y, pyWalk S3 z with
  | some xs, some ys, some zs => .ok ((xs.zip (ys.zip zs)).map fun p => D.py (.tuple [p.1, p.2.1, p.2.2])) S3
  | _, _, _ => .no
def enumI (a : Ex) : It := fun σ S => (a σ S).bind fun x S1 => match pyWalk S1 x with
  | some xs => .ok (xs.zipIdx.map fun p => D.py (.tuple [.int (p.2 : Nat), p.1])) S1
  | none => .no
def rrngI (a b : Ex) : It := fun σ S => (a σ S).bind fun x S1 => (b σ S1).bind fun y S2 => match x, y with
  | .py (.int i), .py (.int j) => if -(2 ^ 62) ≤ i ∧ j - i ≤ 16777216 ∧ i < 2 ^ 62 ∧ -(2 ^ 62) ≤ j ∧ j < 2 ^ 62 then .ok (rngV i (j - i).toNat).reverse S2 else .no
  | _, _ => .no

def rrng1I (b : Ex) : It := fun σ S => (b σ S).bind fun y S2 => match y with
  | .py (.int j) => if -(2 ^ 62) ≤ j ∧ j ≤ 16777216 then .ok (rngV 0 j.toNat).reverse S2 else .no
  | _ => .no

/-! ### comprehensions -/
def wipeD (σ : En) : List Nat → En
  | [] => σ
  | v :: vs => (wipeD σ vs).set v none
def lcL (g : Tg) (c : Tx) (e : Ex) (σ : En) : List D → Sto → R (List D)
  | [], S => .ok [] S
  | x :: xs, S => match g x σ S with
    | .ok σ1 S1 => (match c σ1 S1 with
      | .ok k S2 => if k = true then (match e σ1 S2 with
        | .ok d S3 => (lcL g c e σ xs S3).bind fun ds S4 => .ok (d :: ds) S4
        | _ => .no) else lcL g c e σ xs S2
      | _ => .no)
    | _ => .no
def lcX (it : It) (vs : List Nat) (g : Tg) (c : Tx) (e : Ex) : Ax := fun σ S => (it σ S).bind fun xs S1 => lcL g c e (wipeD σ vs) xs S1
abbrev lcF (it : It) (vs : List Nat) (g : Tg) (c : Tx) (e : Ex) : Ex := frzE (lcX it vs g c e)
abbrev lcM (it : It) (vs : List Nat) (g : Tg) (c : Tx) (e : Ex) : Ex := thwE (lcX it vs g c e)

/-! ### statements -/
def passS : Sx := fun σ S => .nx σ S
def brkS : Sx := fun σ S => .bk σ S
def cntS : Sx := fun σ S => .ct σ S
def seqS (a b : Sx) : Sx := fun σ S => match a σ S with
  | .nx σ1 S1 => b σ1 S1
  | r => r
def asgS (e : Ex) (g : Tg) : Sx := fun σ S => (e σ S).run fun d S1 => (g d σ S1).run fun σ2 S2 => .nx σ2 S2
/-- a, b = x, y -/
def setAll : List Nat → List D → En → En
  | i :: is, d :: ds, σ => setAll is ds (σ.set i (some d))
  | _, _, σ => σ
def parS (is : List Nat) (a : Ax) : Sx := fun σ S => (a σ S).run fun ds S1 => .nx (setAll is ds σ) S1
def exprS (e : Ex) : Sx := fun σ S => (e σ S).run fun _ S1 => .nx σ S1
def retS (e : Ex) : Sx := fun σ S => (e σ S).run fun d S1 => .rt d S1
def ifS (c : Tx) (a b : Sx) : Sx := fun σ S => (c σ S).run fun k S1 => if k = true then a σ S1 else b σ S1
def raiseS (c : Str) : Sx := fun _ S => .ex c S
def forL (g : Tg) (b : Sx) : List D → En → Sto → F
  | [], σ, S => .nx σ S
  | x :: xs, σ, S => match g x σ S with
    | .ok σ1 S1 => (match b σ1 S1 with
      | .nx σ2 S2 => forL g b xs σ2 S2
      | .ct σ2 S2 => forL g b xs σ2 S2
      | .bk σ2 S2 => .nx σ2 S2
      | .rt d S2 => .rt d S2
      | .ex c S2 => .ex c S2
      | .no => .no)
    | .ex c S1 => .ex c S1
    | .no => .no
def forS (it : It) (g : Tg) (b : Sx) : Sx := fun σ S => (it σ S).run fun xs S1 => forL g b xs σ S1
/-- the list of a slot is not changed from here on -/
def fixS (i : Nat) : Sx := fun σ S => match σ[i]? with
  | some (some (.obj n)) => (match S[n]? with
    | some (.lst ds) => (match pysOf ds with
      | some ps => .nx (σ.set i (some (.py (.list ps)))) (S.set n .gone)
      | none => .no)
    | _ => .no)
  | _ => .no

/-- .. and its items, which are lists of the store -/
def fixL (S : Sto) : List D → Option (List PyData × Sto)
  | [] => some ([], S)
  | .py p :: ds => (fixL S ds).map fun r => (p :: r.1, r.2)
  | .obj n :: ds => match S[n]? with
    | some (.lst es) => (match pysOf es with
      | some ps => (fixL (S.set n .gone) ds).map fun r => (.list ps :: r.1, r.2)
      | none => none)
    | _ => none
  | .raw _ :: _ => none
def fix2S (i : Nat) : Sx := fun σ S => match σ[i]? with
  | some (some (.obj n)) => (match S[n]? with
    | some (.lst ds) => (match fixL (S.set n .gone) ds with
      | some (ps, S1) => .nx (σ.set i (some (.py (.list ps)))) S1
      | none => .no)
    | _ => .no)
  | _ => .no

/-! ### defs -/
def D.pure : D → Bool
  | .py _ => true
  | _ => false
def O.pure : O → Bool
  | .lst ds => ds.all D.pure
  | .gone => true
  | .tab _ _ => true
  | .dt _ => true
  | .dk _ => true
  | .ins _ fs => fs.all fun p => p.2.pure
  | .tpl ds => ds.all D.pure
open Classical in
/-- what a def has made for itself is forgotten where nothing leads to it -/
noncomputable def gc {α : Type} (p : Prop) (S S' : Sto) (k : Sto → α) : α :=
  if p ∧ S.length ≤ S'.length ∧ ∀ (i : Nat) (o : O), i < S.length → S'[i]? = some o → S[i]? = some o ∨ o.pure = true then k (S'.take S.length) else k S'
def init (n : Nat) (ds : List D) : En := ds.map some ++ List.replicate (n - ds.length) none
noncomputable def fnR (S : Sto) : F → R D
  | .nx _ S' => gc True S S' fun T => .ok (.py .none) T
  | .rt d S' => gc (d.pure = true) S S' fun T => .ok d T
  | .ex c S' => gc True S S' fun T => .ex c T
  | _ => .no
noncomputable def fnF (n : Nat) (b : Sx) : List D → Sto → R D := fun ds S => fnR S (b (init n ds) S)
end DV

set_option maxHeartbeats 4000000
/-! The data-level meaning holds of the model: relations. -/
namespace DV
open PySem PySem.Spec PyProof.Rows L2

/-! ### what is the same in a later heap -/
structure Keep (H H' : Hp) : Prop where
  tups : ∀ b xs, H b = some (.tup xs) → H' b = some (.tup xs)
  frzs : ∀ b o u, H b = some (.frz o u) → H' b = some (.frz o u)
theorem Keep.refl (H : Hp) : Keep H H := ⟨fun _ _ h => h, fun _ _ _ h => h⟩
theorem Keep.trans {H H1 H2 : Hp} (a : Keep H H1) (b : Keep H1 H2) : Keep H H2 :=
  ⟨fun c xs h => b.tups c xs (a.tups c xs h), fun c o u h => b.frzs c o u (a.frzs c o u h)⟩
/-- all but lists stays -/
theorem Keep.of {H H' : Hp} (h : ∀ b o, H b = some o → (∀ xs, o ≠ .lst xs) → H' b = some o) : Keep H H' where
  tups := fun b xs e => h b _ e (fun _ z => by cases z)
  frzs := fun b o u e => h b _ e (fun _ z => by cases z)
theorem Keep.new {H : Hp} {p : Addr} {o : HO} (h : H p = none) : Keep H (upd H p o) := .of fun b u e _ => by rw [upd_ne (ne_of_none e h)]; exact e
theorem Keep.list {H : Hp} {p : Addr} {xs : List V} {o : HO} (h : H p = some (.lst xs)) : Keep H (upd H p o) := .of fun b u e n => by
  rw [upd_ne (fun z => by subst z; rw [h] at e; cases e; exact n xs rfl)]
  exact e
/-- .. and the tables of code objects, too -/
structure KeepA (H H' : Hp) : Prop extends Keep H H' where
  tabs : ∀ P q, LamX.TabS H P q → LamX.TabS H' P q
instance {H H' : Hp} : Coe (KeepA H H') (Keep H H') := ⟨KeepA.toKeep⟩
theorem KeepA.refl (H : Hp) : KeepA H H := ⟨.refl H, fun _ _ h => h⟩
theorem KeepA.of {H H' : Hp} (h : ∀ b o, H b = some o → (∀ xs, o ≠ .lst xs) → H' b = some o) : KeepA H H' := ⟨.of h, fun P q ⟨ps, h1, h2, h3⟩ => ⟨ps, h _ _ h1 (fun _ z => by cases z), h2, fun pos cv hc => by
    obtain ⟨c, e1, e2⟩ := h3 pos cv hc
    exact ⟨c, e1, h _ _ e2 (fun _ z => by unfold LamX.CodeO at z; cases z)⟩⟩⟩
theorem KeepA.new {H : Hp} {p : Addr} {o : HO} (h : H p = none) : KeepA H (upd H p o) := .of fun b u e _ => by rw [upd_ne (ne_of_none e h)]; exact e
theorem KeepA.list {H : Hp} {p : Addr} {xs : List V} {o : HO} (h : H p = some (.lst xs)) : KeepA H (upd H p o) := .of fun b u e n => by
  rw [upd_ne (fun z => by subst z; rw [h] at e; cases e; exact n xs rfl)]
  exact e

/-- what may be changed in the heap: lists, dicts -/
inductive MO where
  | lst (vs : List V)
  | dt (kvs : List (List Key × V))
  | dk (kvs : List (Key × V))
  | ins (C dx : Addr) (fs : List (Str × V))
def MO.ho : MO → HO
  | .lst vs => .lst vs
  | .dt kvs => .dT kvs
  | .dk kvs => .dK kvs
  | .ins C dx fs => .ins C dx fs

/-! ### values -/
section
variable (K : PySem.W.Frag)
/-- a list that is never changed -/
def FL (H : Hp) (a : Addr) (xs : List V) : Prop := (∃ o, H a = some (.frz o (.lst xs))) ∨
  ∃ (o : Obj) (its : Array Value) (n : Nat), K.lookup a = some o ∧ o.cls = .type "list" ∧ o.dict = none ∧ o.data = .seq its n ∧ o.slots = #[] ∧ its.size ≤ sizeLine ∧ Vals xs its.toList
/-- a tuple whose object is known to have no dict -/
def FT (H : Hp) (a : Addr) (xs : List V) : Prop := (∃ o, H a = some (.frz o (.tup xs)) ∧ o.dict = none) ∨
  ∃ (o : Obj) (its : Array Value) (n : Nat), K.lookup a = some o ∧ o.cls = .type "tuple" ∧ o.dict = none ∧ o.data = .seq its n ∧ its.size ≤ sizeLine ∧ Vals xs its.toList
/-- a key as a datum -/
def keyP : Key → PyData
  | .inl i => .int i
  | .inr x => .str x
mutual
inductive Pp (H : Hp) : V → PyData → Prop
  | non : Pp H .non .none
  | bl (b : Bool) : Pp H (.bl b) (.bool b)
  | int (i : Int) : Pp H (.int i) (.int i)
  | str (x : Str) : Pp H (.str x) (.str x)
  | lst {a : Addr} {xs : List V} {ds : List PyData} : FL K H a xs → ds.length ≤ sizeLine → PpAll H xs ds → Pp H (.ref a) (.list ds)
  | tup {a : Addr} {xs : List V} {ds : List PyData} : FT K H a xs → ds.length ≤ sizeLine → PpAll H xs ds → Pp H (.ref a) (.tuple ds)
  | dic {a : Addr} {o : Obj} {kvs : List (Key × V)} {ds : List PyData} : H a = some (.frz o (.dK kvs)) → kvs.length ≤ sizeLine → PpAll H (kvs.map Prod.snd) ds → Pp H (.ref a) (.dict ((kvs.map fun kv => keyP kv.1).zip ds))
inductive PpAll (H : Hp) : List V → List PyData → Prop
  | nil : PpAll H [] []
  | cons {v : V} {vs : List V} {d : PyData} {ds : List PyData} : Pp H v d → PpAll H vs ds → PpAll H (v :: vs) (d :: ds)
end
end
section
variable {K : PySem.W.Frag} {H H' : Hp}
theorem FL.keep {a : Addr} {xs : List V} (k : Keep H H') (h : FL K H a xs) : FL K H' a xs := by
  rcases h with ⟨o, h⟩ | h
  · exact .inl ⟨o, k.frzs _ _ _ h⟩
  · exact .inr h
theorem FL.sq {a : Addr} {xs : List V} (h : FL K H a xs) : SqL K H a xs := by
  rcases h with ⟨o, h⟩ | ⟨o, its, n, h1, h2, h3, h4, _, h5⟩
  · exact .inl (.inr ⟨o, h⟩)
  · exact .inr ⟨o, its, n, h1, h2, h3, h4, h5⟩
theorem FT.keep {a : Addr} {xs : List V} (k : Keep H H') (h : FT K H a xs) : FT K H' a xs := by
  rcases h with ⟨o, h, d⟩ | h
  · exact .inl ⟨o, k.frzs _ _ _ h, d⟩
  · exact .inr h
theorem FT.sq {a : Addr} {xs : List V} (h : FT K H a xs) : SqT K H a xs := by
  rcases h with ⟨o, h, _⟩ | ⟨o, its, n, h1, h2, _, h3⟩
  · exact .inl (.inr ⟨o, h⟩)
  · exact .inr ⟨o, its, n, h1, h2, h3⟩
theorem FT.new {p : Addr} {xs : List V} {o : Obj} (d : o.dict = none) : FT K (upd H p (.frz o (.tup xs))) p xs := .inl ⟨o, upd_same, d⟩
theorem sqT_keep {a : Addr} {xs : List V} (k : Keep H H') (h : SqT K H a xs) : SqT K H' a xs := by
  rcases h with (h | ⟨o, h⟩) | h
  · exact .inl (.inl (k.tups _ _ h))
  · exact .inl (.inr ⟨o, k.frzs _ _ _ h⟩)
  · exact .inr h
mutual
theorem Pp.keep (k : Keep H H') : ∀ {v : V} {d : PyData}, Pp K H v d → Pp K H' v d
  | _, _, .non => .non
  | _, _, .bl b => .bl b
  | _, _, .int i => .int i
  | _, _, .str x => .str x
  | _, _, .lst h z hs => .lst (h.keep k) z (PpAll.keep k hs)
  | _, _, .tup h z hs => .tup (h.keep k) z (PpAll.keep k hs)
  | _, _, .dic h z hs => .dic (k.frzs _ _ _ h) z (PpAll.keep k hs)
theorem PpAll.keep (k : Keep H H') : ∀ {vs : List V} {ds : List PyData}, PpAll K H vs ds → PpAll K H' vs ds
  | _, _, .nil => .nil
  | _, _, .cons h hs => .cons (h.keep k) (hs.keep k)
end
mutual
theorem Pp.dp : ∀ {v : V} {d : PyData}, Pp K H v d → d.hasDict = false → Dp K H v d
  | _, _, .non, _ => .non
  | _, _, .bl b, _ => .bl b
  | _, _, .int i, _ => .int i
  | _, _, .str x, _ => .str x
  | _, _, .lst h _ hs, q => .lst h.sq (PpAll.dp hs (by rw [PyData.hasDict.eq_5] at q; exact q))
  | _, _, .tup h _ hs, q => .tup h.sq (PpAll.dp hs (by rw [PyData.hasDict.eq_6] at q; exact q))
  | _, _, .dic _ _ _, q => by rw [PyData.hasDict.eq_7] at q; cases q
theorem PpAll.dp : ∀ {vs : List V} {ds : List PyData}, PpAll K H vs ds → PyData.hasDictAll ds = false → DpAll K H vs ds
  | _, _, .nil, _ => .nil
  | _, _, .cons h hs, q => by
    rw [PyData.hasDictAll.eq_2, Bool.or_eq_false_iff] at q
    exact .cons (h.dp q.1) (hs.dp q.2)
end
theorem noDict_of {d : PyData} (h : SeqAt.shaped d = true) : d.hasDict = false := PyData.hasDict_of_canLay d (SeqAt.canLay_of_shaped h)
theorem PpAll.length : ∀ {vs : List V} {ds : List PyData}, PpAll K H vs ds → vs.length = ds.length
  | _, _, .nil => rfl
  | _, _, .cons _ hs => by rw [List.length_cons, List.length_cons, hs.length]
theorem PpAll.append : ∀ {vs ws : List V} {ds es : List PyData}, PpAll K H vs ds → PpAll K H ws es → PpAll K H (vs ++ ws) (ds ++ es)
  | _, _, _, _, .nil, q => q
  | _, _, _, _, .cons h hs, q => .cons h (hs.append q)
end

/-- a datum under the numbers of the store -/
inductive Rd (K : PySem.W.Frag) (ι : List Addr) (H : Hp) : V → D → Prop
  | py {v : V} {d : PyData} : Pp K H v d → Rd K ι H v (.py d)
  | obj {n : Nat} {a : Addr} : ι[n]? = some a → Rd K ι H (.ref a) (.obj n)
  | raw (a : Addr) : Rd K ι H (.ref a) (.raw a)
abbrev RdAll (K : PySem.W.Frag) (ι : List Addr) (H : Hp) : List V → List D → Prop := Paired (Rd K ι H)
inductive ObR (K : PySem.W.Frag) (ι : List Addr) (H : Hp) (a : Addr) : O → Prop
  | lst {vs : List V} {ds : List D} : H a = some (.lst vs) → RdAll K ι H vs ds → ObR K ι H a (.lst ds)
  | gone : ObR K ι H a .gone
  | tab {q : Str} : ObR K ι H a (.tab a q)
  | dt {kvs : List (List Key × V)} {es : List (List Key × PyData)} : H a = some (.dT kvs) → kvs.map Prod.fst = es.map Prod.fst → PpAll K H (kvs.map Prod.snd) (es.map Prod.snd) → ObR K ι H a (.dt es)
  | dk {kvs : List (Key × V)} {es : List (Key × PyData)} : H a = some (.dK kvs) → kvs.map Prod.fst = es.map Prod.fst → PpAll K H (kvs.map Prod.snd) (es.map Prod.snd) → ObR K ι H a (.dk es)
  | ins {c : Str} {C dx : Addr} {vs : List (Str × V)} {fs : List (Str × D)} : PySem.W.nsIn K mainGlobals c = some (some (.ref C)) → H a = some (.ins C dx vs) → vs.map Prod.fst = fs.map Prod.fst → RdAll K ι H (vs.map Prod.snd) (fs.map Prod.snd) → ObR K ι H a (.ins c fs)
  | tpl {o : Obj} {vs : List V} {ds : List D} : H a = some (.frz o (.tup vs)) → RdAll K ι H vs ds → ObR K ι H a (.tpl ds)
structure StR (K : PySem.W.Frag) (ι : List Addr) (H : Hp) (S : Sto) : Prop where
  len : ι.length = S.length
  nd : ι.Nodup
  there : ∀ (n : Nat) (a : Addr), ι[n]? = some a → H a ≠ none
  at_ : ∀ (n : Nat) (o : O) (a : Addr), S[n]? = some o → ι[n]? = some a → ObR K ι H a o
  tb : ∀ (n P : Nat) (q : Str), S[n]? = some (.tab P q) → LamX.TabS H P q
structure EnR (K : PySem.W.Frag) (ι : List Addr) (H : Hp) (σ : L2.St) (σd : En) : Prop where
  len : σ.length = σd.length
  at_ : ∀ (i : Nat) (d : D), σd[i]? = some (some d) → ∃ v, σ[i]? = some (some v) ∧ Rd K ι H v d
section
variable {K : PySem.W.Frag} {H H' H1 H2 : Hp} {ι ι' ι1 ι2 : List Addr} {v : V} {d : D} {S S' : Sto} {σ : L2.St} {σd : En}
theorem pre_get {α : Type} {l l' : List α} {n : Nat} {a : α} (p : l <+: l') (h : l[n]? = some a) : l'[n]? = some a := by
  obtain ⟨t, rfl⟩ := p
  obtain ⟨hn, e⟩ := List.getElem?_eq_some_iff.mp h
  rw [List.getElem?_append_left hn]
  exact h
theorem Rd.mono (p : ι <+: ι') (k : Keep H H') (h : Rd K ι H v d) : Rd K ι' H' v d := by
  cases h with
  | py h => exact .py (h.keep k)
  | obj h => exact .obj (pre_get p h)
  | raw a => exact .raw a
theorem RdAll.mono (p : ι <+: ι') (k : Keep H H') : ∀ {vs : List V} {ds : List D}, RdAll K ι H vs ds → RdAll K ι' H' vs ds
  | _, _, .nil => .nil
  | _, _, .cons h hs => .cons (h.mono p k) (RdAll.mono p k hs)
theorem EnR.mono (p : ι <+: ι') (k : Keep H H') (h : EnR K ι H σ σd) : EnR K ι' H' σ σd :=
  ⟨h.len, fun i d e => let ⟨v, e1, r⟩ := h.at_ i d e; ⟨v, e1, r.mono p k⟩⟩
theorem RdAll.pys : ∀ {vs : List V} {ds : List D} {ps : List PyData}, RdAll K ι H vs ds → pysOf ds = some ps → PpAll K H vs ps
  | _, _, _, .nil, e => by cases e; exact .nil
  | _, _, _, .cons (b := d) h hs, e => by
    cases h with
    | py h =>
      rw [pysOf_cons] at e
      rw [Option.map_eq_some_iff] at e
      obtain ⟨ps, e1, e2⟩ := e
      subst e2
      exact .cons h (RdAll.pys hs e1)
    | obj h => simp [pysOf] at e
    | raw a => simp [pysOf] at e
theorem RdAll.of_pys : ∀ {vs : List V} {ps : List PyData}, PpAll K H vs ps → RdAll K ι H vs (ps.map D.py)
  | _, _, .nil => .nil
  | _, _, .cons h hs => .cons (.py h) (RdAll.of_pys hs)
theorem RdAll.length : ∀ {vs : List V} {ds : List D}, RdAll K ι H vs ds → vs.length = ds.length := fun h => Paired.length h
theorem pysOf_length : ∀ {ds : List D} {ps : List PyData}, pysOf ds = some ps → ps.length = ds.length
  | [], _, e => by cases e; rfl
  | .py d :: ds, _, e => by
    rw [pysOf_cons, Option.map_eq_some_iff] at e
    obtain ⟨ps, e1, e2⟩ := e
    subst e2
    rw [List.length_cons, List.length_cons, pysOf_length e1]
  | .obj n :: ds, _, e => by simp [pysOf] at e
  | .raw n :: ds, _, e => by simp [pysOf] at e
theorem Paired.getR {α β : Type} {G : α → β → Prop} : ∀ {l₁ : List α} {l₂ : List β} {i : Nat} {y : β}, Paired G l₁ l₂ → l₂[i]? = some y → ∃ x, l₁[i]? = some x ∧ G x y
  | _, _, _, _, .nil, e => by simp at e
  | _, _, 0, _, .cons r _, e => by simp at e; subst e; exact ⟨_, rfl, r⟩
  | _, _, i + 1, y, .cons r t, e => by
    obtain ⟨x, h1, h2⟩ := Paired.getR (i := i) t (by simpa using e)
    exact ⟨x, by simpa using h1, h2⟩
theorem Paired.setB {α β : Type} {G : α → β → Prop} {x : α} {y : β} (r : G x y) : ∀ {l₁ : List α} {l₂ : List β} (i : Nat), Paired G l₁ l₂ → Paired G (l₁.set i x) (l₂.set i y)
  | _, _, _, .nil => .nil
  | _, _, 0, .cons _ t => .cons r t
  | _, _, i + 1, .cons q t => .cons q (Paired.setB r i t)
theorem Paired.app {α β : Type} {G : α → β → Prop} : ∀ {l₁ m₁ : List α} {l₂ m₂ : List β}, Paired G l₁ l₂ → Paired G m₁ m₂ → Paired G (l₁ ++ m₁) (l₂ ++ m₂)
  | _, _, _, _, .nil, q => q
  | _, _, _, _, .cons h hs, q => .cons h (Paired.app hs q)

theorem tab_set {S : Sto} {n m : Nat} {o : O} {P : Nat} {q : Str} (e : (S.set n o)[m]? = some (.tab P q)) (h : o ≠ .tab P q) : S[m]? = some (.tab P q) := by
  by_cases z : n = m
  · subst z
    have hl : n < S.length := by simpa using (List.getElem?_eq_some_iff.mp e).1
    rw [List.getElem?_set_self hl] at e
    exact absurd (Option.some.inj e) h
  · rwa [List.getElem?_set_ne z] at e
theorem tab_app {S : Sto} {m : Nat} {o : O} {P : Nat} {q : Str} (e : (S ++ [o])[m]? = some (.tab P q)) (h : o ≠ .tab P q) : S[m]? = some (.tab P q) := by
  by_cases z : m < S.length
  · rwa [List.getElem?_append_left z] at e
  · rw [List.getElem?_append_right (by omega)] at e
    have hz : m - S.length = 0 := by
      have := (List.getElem?_eq_some_iff.mp e).1
      simp at this
      omega
    rw [hz] at e
    exact absurd (Option.some.inj e) h
theorem ObR.mono {a : Addr} {o : O} (p : ι <+: ι') (k : Keep H H') (hl : ∀ vs : MO, H a = some vs.ho → H' a = some vs.ho) (h : ObR K ι H a o) : ObR K ι' H' a o := by
  cases h with
  | lst e r => exact .lst (hl (.lst _) e) (r.mono p k)
  | gone => exact .gone
  | tab => exact .tab
  | dt e f r => exact .dt (hl (.dt _) e) f (r.keep k)
  | dk e f r => exact .dk (hl (.dk _) e) f (r.keep k)
  | ins hc e f r => exact .ins hc (hl (.ins _ _ _) e) f (r.mono p k)
  | tpl e r => exact .tpl (k.frzs _ _ _ e) (r.mono p k)
/-- a heap in which the lists are as they were -/
theorem StR.keep (h : StR K ι H S) (k : KeepA H H') (hl : ∀ (b : Addr) (vs : MO), H b = some vs.ho → H' b = some vs.ho) (hn : ∀ b, H b ≠ none → H' b ≠ none) : StR K ι H' S :=
  ⟨h.len, h.nd, fun n a e => hn a (h.there n a e), fun n o a e1 e2 => (h.at_ n o a e1 e2).mono (List.prefix_refl _) k (hl a), fun n P q e => k.tabs P q (h.tb n P q e)⟩
theorem StR.new (h : StR K ι H S) {p : Addr} {o : HO} (hp : H p = none) : StR K ι (upd H p o) S :=
  h.keep (.new hp) (fun b vs e => by rw [upd_ne (ne_of_none e hp)]; exact e) fun b e => by
    unfold upd
    split
    · simp
    · exact e
/-- a list that is at no number is written -/
theorem StR.other (h : StR K ι H S) {p : Addr} {xs : List V} {o : HO} (hp : H p = some (.lst xs)) (hn : p ∉ ι) : StR K ι (upd H p o) S := by
  have ne : ∀ (n : Nat) (a : Addr), ι[n]? = some a → a ≠ p := fun n a e z => by
    subst z
    exact hn (List.mem_of_getElem? e)
  refine ⟨h.len, h.nd, fun n a e => ?_, fun n u a e1 e2 => ?_, fun n P q e => (KeepA.list hp).tabs P q (h.tb n P q e)⟩
  · rw [upd_ne (ne n a e)]
    exact h.there n a e
  · refine (h.at_ n u a e1 e2).mono (List.prefix_refl _) (.list hp) fun vs e => ?_
    rw [upd_ne (ne n a e2)]
    exact e
theorem StR.notin (h : StR K ι H S) {p : Addr} (hp : H p = none) : p ∉ ι := fun hm => by
  obtain ⟨n, e⟩ := List.mem_iff_getElem?.mp hm
  exact h.there n p e hp
/-- a list that stands at no number gets one -/
theorem StR.push (h : StR K ι H S) {p : Addr} {vs : List V} {ds : List D} (hp : H p = some (.lst vs)) (hn : p ∉ ι) (r : RdAll K ι H vs ds) : StR K (ι ++ [p]) H (S ++ [.lst ds]) := by
  refine ⟨by rw [List.length_append, List.length_append, h.len]; rfl, ?_, fun n a e => ?_, fun n o a e1 e2 => ?_, fun n P q e => ?_⟩
  · rw [List.nodup_append]
    exact ⟨h.nd, by simp, fun a ha b hb z => by
      rw [List.mem_singleton] at hb
      exact hn (hb ▸ z ▸ ha)⟩
  · by_cases hlt : n < ι.length
    · rw [List.getElem?_append_left hlt] at e
      exact h.there n a e
    · rw [List.getElem?_append_right (by omega)] at e
      have hz : n - ι.length = 0 := by
        have := (List.getElem?_eq_some_iff.mp e).1
        simp at this
        omega
      rw [hz] at e
      simp at e
      subst e
      rw [hp]
      simp
  · by_cases hlt : n < S.length
    · rw [List.getElem?_append_left hlt] at e1
      rw [List.getElem?_append_left (by rw [h.len]; exact hlt)] at e2
      exact (h.at_ n o a e1 e2).mono (List.prefix_append _ _) (.refl _) fun _ e => e
    · rw [List.getElem?_append_right (by omega)] at e1
      rw [List.getElem?_append_right (by rw [h.len]; omega), h.len] at e2
      have hz : n - S.length = 0 := by
        have := (List.getElem?_eq_some_iff.mp e1).1
        simp at this
        omega
      rw [hz] at e1 e2
      simp at e1 e2
      subst e1 e2
      exact .lst hp (r.mono (List.prefix_append _ _) (.refl _))
  · exact h.tb n P q (tab_app e fun z => by cases z)
theorem nodup_at {l : List Addr} {i j : Nat} {a : Addr} (nd : l.Nodup) (a1 : l[i]? = some a) (a2 : l[j]? = some a) : i = j := by
  obtain ⟨h1, e1⟩ := List.getElem?_eq_some_iff.mp a1
  obtain ⟨h2, e2⟩ := List.getElem?_eq_some_iff.mp a2
  exact (List.getElem_inj nd).mp (e1.trans e2.symm)
/-- a list of the store is written -/
theorem StR.set (h : StR K ι H S) {n : Nat} {p : Addr} {vs ws : List V} {ds : List D} (e : ι[n]? = some p) (hp : H p = some (.lst vs)) (r : RdAll K ι H ws ds) : StR K ι (upd H p (.lst ws)) (S.set n (.lst ds)) := by
  refine ⟨by rw [List.length_set, h.len], h.nd, fun m a e1 => ?_, fun m o a e1 e2 => ?_, fun n P q e1 => (KeepA.list hp).tabs P q (h.tb n P q (tab_set e1 fun z => by cases z))⟩
  · unfold upd
    split
    · simp
    · exact h.there m a e1
  · by_cases hm : m = n
    · subst hm
      rw [e] at e2
      cases e2
      have hlt : m < S.length := by
        have := (List.getElem?_eq_some_iff.mp e1).1
        simpa using this
      rw [List.getElem?_set_self hlt] at e1
      cases e1
      exact .lst upd_same (r.mono (List.prefix_refl _) (.list hp))
    · rw [List.getElem?_set_ne (Ne.symm hm)] at e1
      refine (h.at_ m o a e1 e2).mono (List.prefix_refl _) (.list hp) fun vs' e3 => ?_
      rw [upd_ne (fun z => hm (by subst z; exact nodup_at h.nd e2 e))]
      exact e3
/-- a list of the store is not changed from here on -/
theorem StR.fix (h : StR K ι H S) {n : Nat} {p : Addr} {vs : List V} {o : HO} (e : ι[n]? = some p) (hp : H p = some (.lst vs)) : StR K ι (upd H p o) (S.set n .gone) := by
  refine ⟨by rw [List.length_set, h.len], h.nd, fun m a e1 => ?_, fun m u a e1 e2 => ?_, fun n P q e1 => (KeepA.list hp).tabs P q (h.tb n P q (tab_set e1 fun z => by cases z))⟩
  · unfold upd
    split
    · simp
    · exact h.there m a e1
  · by_cases hm : m = n
    · subst hm
      have hlt : m < S.length := by
        have := (List.getElem?_eq_some_iff.mp e1).1
        simpa using this
      rw [List.getElem?_set_self hlt] at e1
      cases e1
      exact .gone
    · rw [List.getElem?_set_ne (Ne.symm hm)] at e1
      refine (h.at_ m u a e1 e2).mono (List.prefix_refl _) (.list hp) fun vs' e3 => ?_
      rw [upd_ne (fun z => hm (by subst z; exact nodup_at h.nd e2 e))]
      exact e3
end

/-! ### what is wanted behind a part -/
structure Post (K : PySem.W.Frag) (ι : List Addr) (H : Hp) (ι' : List Addr) (H' : Hp) (S' : Sto) : Prop where
  pre : ι <+: ι'
  keep : Keep H H'
  sto : StR K ι' H' S'
  frame : ∀ b vs, b ∉ ι → H b = some (.lst vs) → H' b = some (.lst vs) ∧ b ∉ ι'
  dom : ∀ b, H b ≠ none → H' b ≠ none
section
variable {K : PySem.W.Frag} {ι ι1 ι2 : List Addr} {H H1 H2 : Hp} {S S1 S2 : Sto}
theorem Post.refl (h : StR K ι H S) : Post K ι H ι H S := ⟨List.prefix_refl _, .refl _, h, fun _ _ n e => ⟨e, n⟩, fun _ e => e⟩
theorem Post.trans (a : Post K ι H ι1 H1 S1) (b : Post K ι1 H1 ι2 H2 S2) : Post K ι H ι2 H2 S2 :=
  ⟨a.pre.trans b.pre, a.keep.trans b.keep, b.sto, fun c vs n e => let ⟨e1, n1⟩ := a.frame c vs n e; b.frame c vs n1 e1, fun c e => b.dom c (a.dom c e)⟩
theorem upd_dom {H : Hp} {p : Addr} {o : HO} : ∀ b, H b ≠ none → upd H p o b ≠ none := fun b e => by
  unfold upd
  split
  · simp
  · exact e
theorem Post.new (h : StR K ι H S) {p : Addr} {o : HO} (hp : H p = none) : Post K ι H ι (upd H p o) S :=
  ⟨List.prefix_refl _, .new hp, h.new hp, fun b vs n e => ⟨by rw [upd_ne (ne_of_none e hp)]; exact e, n⟩, upd_dom⟩
/-- a list of the store is written -/
theorem Post.wr {n : Nat} {p : Addr} {vs : List V} {o : HO} (e : ι[n]? = some p) (hp : H p = some (.lst vs)) (h : StR K ι (upd H p o) S) : Post K ι H ι (upd H p o) S :=
  ⟨List.prefix_refl _, .list hp, h, fun b ws m q => ⟨by rw [upd_ne (fun z => m (by subst z; exact List.mem_of_getElem? e))]; exact q, m⟩, upd_dom⟩
/-- a list that is new since H is written, fixed -/
theorem Post.fixNew (a : Post K ι H ι1 H1 S1) {p : Addr} {vs : List V} {o : HO} (hp : H1 p = some (.lst vs)) (hn : p ∉ ι1) (h0 : H p = none) : Post K ι H ι1 (upd H1 p o) S1 :=
  ⟨a.pre, a.keep.trans (.list hp), a.sto.other hp hn, fun b ws m q => let ⟨e1, n1⟩ := a.frame b ws m q; ⟨by rw [upd_ne (ne_of_none q h0)]; exact e1, n1⟩, fun b e => upd_dom b (a.dom b e)⟩
end

/-- the class of an error by its name -/
def clsV (mg : Str → Option Value) (c : Str) : Value := (mg c).getD .none
section
variable (K : PySem.W.Frag) (mg : Str → Option Value) (E : XK) (ι : List Addr) (H : Hp)
def Wp {α β : Type} (rel : List Addr → Hp → α → β → Prop) (r : R β) (Q : α → Hp → Prop) : Prop := match r with
  | .ok d S' => ∀ v H' ι', Post K ι H ι' H' S' → rel ι' H' v d → Q v H'
  | .ex c S' => ∀ H' ι', Post K ι H ι' H' S' → E (clsV mg c) none H'
  | .no => False
def WpF (r : F) (N : Ends) : Prop := match r with
  | .nx σd S' => ∀ σ' H' ι', Post K ι H ι' H' S' → EnR K ι' H' σ' σd → N.nx σ' H'
  | .bk σd S' => ∀ σ' H' ι', Post K ι H ι' H' S' → EnR K ι' H' σ' σd → N.bk σ' H'
  | .ct σd S' => ∀ σ' H' ι', Post K ι H ι' H' S' → EnR K ι' H' σ' σd → N.ct σ' H'
  | .rt d S' => ∀ v H' ι', Post K ι H ι' H' S' → Rd K ι' H' v d → N.rt v H'
  | .ex c S' => ∀ H' ι', Post K ι H ι' H' S' → E (clsV mg c) none H'
  | .no => False
end
abbrev relD (K : PySem.W.Frag) : List Addr → Hp → V → D → Prop := fun ι H v d => Rd K ι H v d
abbrev relB : List Addr → Hp → Bool → Bool → Prop := fun _ _ b k => b = k
abbrev relA (K : PySem.W.Frag) : List Addr → Hp → List V → List D → Prop := fun ι H vs ds => RdAll K ι H vs ds
/-- a new list (since H0) that has no number yet -/
abbrev relL (K : PySem.W.Frag) (H0 : Hp) : List Addr → Hp → V → List D → Prop := fun ι H v ds => ∃ p vs, H0 p = none ∧ v = .ref p ∧ H p = some (.lst vs) ∧ p ∉ ι ∧ vs.length ≤ sizeLine ∧ RdAll K ι H vs ds
section
variable {K : PySem.W.Frag} {mg : Str → Option Value} {E : XK} {ι ι' : List Addr} {H H' : Hp} {S S' : Sto} {α β γ δ : Type} {rel : List Addr → Hp → α → β → Prop} {rel' : List Addr → Hp → γ → δ → Prop} {r : R β} {Q Q' : α → Hp → Prop}
theorem Wp.re (p : Post K ι H ι' H' S') (h : Wp K mg E ι H rel r Q) : Wp K mg E ι' H' rel r Q := by
  cases r with
  | ok d S1 => exact fun v H1 ι1 q => h v H1 ι1 (p.trans q)
  | ex c S1 => exact fun H1 ι1 q => h H1 ι1 (p.trans q)
  | no => exact h
theorem WpF.re {r : F} {N : Ends} (p : Post K ι H ι' H' S') (h : WpF K mg E ι H r N) : WpF K mg E ι' H' r N := by
  cases r with
  | nx d S1 => exact fun v H1 ι1 q => h v H1 ι1 (p.trans q)
  | bk d S1 => exact fun v H1 ι1 q => h v H1 ι1 (p.trans q)
  | ct d S1 => exact fun v H1 ι1 q => h v H1 ι1 (p.trans q)
  | rt d S1 => exact fun v H1 ι1 q => h v H1 ι1 (p.trans q)
  | ex c S1 => exact fun H1 ι1 q => h H1 ι1 (p.trans q)
  | no => exact h
theorem Wp.mono (h : Wp K mg E ι H rel r Q) (q : ∀ v H', Q v H' → Q' v H') : Wp K mg E ι H rel r Q' := by
  cases r with
  | ok d S1 => exact fun v H1 ι1 p x => q _ _ (h v H1 ι1 p x)
  | ex c S1 => exact h
  | no => exact h
theorem Wp.sub {rel2 : List Addr → Hp → α → β → Prop} (h : Wp K mg E ι H rel r Q) (s : ∀ ι H v d, rel2 ι H v d → rel ι H v d) : Wp K mg E ι H rel2 r Q := by
  cases r with
  | ok d S1 => exact fun v H1 ι1 p x => h v H1 ι1 p (s _ _ _ _ x)
  | ex c S1 => exact h
  | no => exact h
/-- a part, then the rest -/
theorem Wp.bind {k : β → Sto → R δ} {P : γ → Hp → Prop} (h : Wp K mg E ι H rel' (r.bind k) P) (q : ∀ d S', r = .ok d S' → ∀ v H' ι', Post K ι H ι' H' S' → rel ι' H' v d → Wp K mg E ι' H' rel' (k d S') P → Q v H') : Wp K mg E ι H rel r Q := by
  cases r with
  | ok d S1 => exact fun v H1 ι1 p x => q d S1 rfl v H1 ι1 p x (h.re p)
  | ex c S1 => exact h
  | no => exact h
/-- .. the rest as it was wanted ahead of it -/
theorem Wp.bind0 {k : β → Sto → R δ} {P : γ → Hp → Prop} (h : Wp K mg E ι H rel' (r.bind k) P) (q : ∀ d S', r = .ok d S' → ∀ v H' ι', Post K ι H ι' H' S' → rel ι' H' v d → Wp K mg E ι H rel' (k d S') P → Q v H') : Wp K mg E ι H rel r Q := by
  cases r with
  | ok d S1 => exact fun v H1 ι1 p x => q d S1 rfl v H1 ι1 p x h
  | ex c S1 => exact h
  | no => exact h
theorem Wp.run {k : β → Sto → F} {N : Ends} (h : WpF K mg E ι H (r.run k) N) (q : ∀ d S', r = .ok d S' → ∀ v H' ι', Post K ι H ι' H' S' → rel ι' H' v d → WpF K mg E ι' H' (k d S') N → Q v H') : Wp K mg E ι H rel r Q := by
  cases r with
  | ok d S1 => exact fun v H1 ι1 p x => q d S1 rfl v H1 ι1 p x (WpF.re p h)
  | ex c S1 => exact h
  | no => exact h
end
end DV

set_option maxHeartbeats 4000000
/-! The data-level meaning holds of the model: judgements, expressions, statements. -/
namespace DV
open PySem PySem.Spec PyProof.Rows L2

structure Okx (k : Nat) (X : Cx) (E : XK) : Prop where
  calm : X.calm = true
  nd : X.N.Nodup
  room : Room k X.A
  gd : X.A.guards = some []
  pass : Passes (L2.CX X.prog X.w) X E
  take : Takes X (fun cls d _ H => E cls d H)
  own : PassesOwn (model X.prog X.w) X.A X.env X.xe
theorem Okx.blk {k : Nat} {X : Cx} {E : XK} (o : Okx k X E) (s : Shared) (H : Hp) (scope : Scope) (cenv : Env) (fp : List Addr) : Okx k (X.blk s H scope cenv fp) E0 :=
  ⟨o.calm, o.nd, o.room, o.gd, passL, takes0, .never⟩

def DE (X : Cx) (E : XK) (e : Expr) (f : Ex) : Prop := ∃ t, PE X e t ∧ ∀ σ H σd S ι Q, EnR X.K ι H σ σd → StR X.K ι H S → Wp X.K X.mg E ι H (relD X.K) (f σd S) Q → t σ H Q
def DT (X : Cx) (E : XK) (e : Expr) (f : Tx) : Prop := ∃ t, PT X e t ∧ ∀ σ H σd S ι Q, EnR X.K ι H σ σd → StR X.K ι H S → Wp X.K X.mg E ι H relB (f σd S) Q → t σ H Q
def DW (X : Cx) (E : XK) (e : Expr) (f : Tx) : Prop := ∃ t, PW X e t ∧ ∀ σ H σd S ι Q, EnR X.K ι H σ σd → StR X.K ι H S → Wp X.K X.mg E ι H relB (f σd S) Q → t σ H Q
/-- a new list -/
def DL (X : Cx) (E : XK) (e : Expr) (f : Ax) : Prop := ∃ t, PE X e t ∧ ∀ σ H σd S ι Q, EnR X.K ι H σ σd → StR X.K ι H S → Wp X.K X.mg E ι H (relL X.K H) (f σd S) Q → t σ H Q
def DA (X : Cx) (E : XK) (es : List Expr) (f : Ax) : Prop := (∀ σ S ds S', f σ S = .ok ds S' → ds.length = es.length) ∧
  ∃ t, PA X es t ∧ ∀ σ H σd S ι Q, EnR X.K ι H σ σd → StR X.K ι H S → Wp X.K X.mg E ι H (relA X.K) (f σd S) Q → t σ H Q
def DS (X : Cx) (E : XK) (st : Stmt) (f : Sx) : Prop := ∃ t, PS X st t ∧ ∀ σ H σd S ι N, EnR X.K ι H σ σd → StR X.K ι H S → WpF X.K X.mg E ι H (f σd S) N → t N σ H
def DSs (X : Cx) (E : XK) (st : List Stmt) (f : Sx) : Prop := ∃ t, PSs X st t ∧ ∀ σ H σd S ι N, EnR X.K ι H σ σd → StR X.K ι H S → WpF X.K X.mg E ι H (f σd S) N → t N σ H
/-- a target; it sets the slots vs alone -/
def DG (X : Cx) (E : XK) (vs : List Nat) (tg : Expr) (g : Tg) : Prop := ∃ t, PG X tg t ∧ ∀ v d σ H σd S ι Q, EnR X.K ι H σ σd → StR X.K ι H S → Rd X.K ι H v d →
  Wp X.K X.mg E ι H (fun ι' H' σ' σd' => EnR X.K ι' H' σ' σd' ∧ wipe σ' vs = wipe σ vs) (g d σd S) Q → t v σ H Q
def DGs (X : Cx) (E : XK) (vs : List Nat) (tgs : List Expr) (g : List D → En → Sto → R En) : Prop := ∃ t, PGs X tgs t ∧ ∀ ws ds σ H σd S ι Q, EnR X.K ι H σ σd → StR X.K ι H S → RdAll X.K ι H ws ds →
  Wp X.K X.mg E ι H (fun ι' H' σ' σd' => EnR X.K ι' H' σ' σd' ∧ wipe σ' vs = wipe σ vs) (g ds σd S) Q → t ws σ H Q


/-! ### kinds of values -/
section
variable {K : PySem.W.Frag} {ι : List Addr} {H : Hp} {S : Sto} {v : V} {d : D}
theorem int_of {i : Int} (r : Rd K ι H v (.py (.int i))) : v = .int i := by
  cases r with
  | py r => cases r; rfl
theorem str_of {i : Str} (r : Rd K ι H v (.py (.str i))) : v = .str i := by
  cases r with
  | py r => cases r; rfl
/-- a sequence is read -/
theorem seq_of (hS : StR K ι H S) (r : Rd K ι H v d) {ds : List D} (h : seqOf S d = some ds) : ∃ a vs, v = .ref a ∧ (SqL K H a vs ∨ (FT K H a vs ∧ ∃ ps, d = .py (.tuple ps) ∧ ps.length ≤ sizeLine)) ∧ RdAll K ι H vs ds := by
  cases r with
  | py r =>
    cases r with
    | lst hf hz hs =>
      cases h
      exact ⟨_, _, rfl, .inl hf.sq, .of_pys hs⟩
    | tup hf hz hs =>
      cases h
      exact ⟨_, _, rfl, .inr ⟨hf, _, rfl, hz⟩, .of_pys hs⟩
    | _ => cases h
  | obj e =>
    rename_i n a
    simp only [seqOf] at h
    split at h
    · rename_i ds' he
      cases h
      cases hS.at_ _ _ _ he e with
      | lst ha rr => exact ⟨a, _, rfl, .inl (.of ha), rr⟩
    · cases h
  | raw a => cases h
theorem tyL (hS : StR K ι H S) (r : Rd K ι H v d) (h : lsOk S d = true) : tyV K "list" v H := by
  cases r with
  | py r =>
    cases r with
    | lst hf hz hs => exact .inl ⟨rfl, _, hf.sq⟩
    | _ => cases h
  | obj e =>
    rename_i n a
    simp only [lsOk] at h
    split at h
    · rename_i ds' he
      cases hS.at_ _ _ _ he e with
      | lst ha rr => exact .inl ⟨rfl, _, .of ha⟩
    · cases h
  | raw a => cases h
theorem atI_read {vs : List V} {ds : List D} {i : Int} {d : D} (r : RdAll K ι H vs ds) (h : atI ds i = some d) : ∃ v, atI vs i = some v ∧ Rd K ι H v d := by
  unfold atI at h ⊢
  rw [r.length]
  cases e : ixN ds.length i with
  | none => rw [e] at h; cases h
  | some j =>
    rw [e] at h
    obtain ⟨v, e1, e2⟩ := Paired.getR r h
    exact ⟨v, e1, e2⟩
theorem item_read {mg : Str → Option Value} {E : XK} {x y : V} {d e : D} {Q : VK} (hS : StR K ι H S) (rx : Rd K ι H x d) (ry : Rd K ι H y e) (h : Wp K mg E ι H (relD K) (itemD d e S) Q) : rIx K x y H Q := by
  unfold itemD at h
  split at h
  · rename_i z i
    split at h
    · rename_i hz
      split at h
      · rename_i c hc
        exact .inr (.inr ⟨z, i, c, str_of rx, int_of ry, hz, hc, h _ _ _ (.refl hS) (.py (.str _))⟩)
      · exact h.elim
    · exact h.elim
  · rename_i i hne
    split at h
    · rename_i ds hds
      split at h
      · rename_i d' hd'
        obtain ⟨a, vs, rfl, hq, rr⟩ := seq_of hS rx hds
        obtain ⟨v, hv, rv⟩ := atI_read rr hd'
        have q := h v H ι (.refl hS) rv
        rcases hq with hq | hq
        · exact .inl ⟨a, vs, i, v, rfl, int_of ry, hq, hv, q⟩
        · exact .inr (.inl ⟨a, vs, i, v, rfl, int_of ry, hq.1.sq, hv, q⟩)
      · exact h.elim
    · exact h.elim
  · exact h.elim
end
section
variable {X : Cx} {E : XK} {k : Nat} {e a b c : Expr} {f g h : Ex} {es : List Expr} {fs : Ax} {pos : Pos}
theorem De.mk {t : TE} (p : PE X e t) (q : ∀ σ H σd S ι Q, EnR X.K ι H σ σd → StR X.K ι H S → Wp X.K X.mg E ι H (relD X.K) (f σd S) Q → t σ H Q) : DE X E e f := ⟨t, p, q⟩

/-! ### names, constants -/
theorem de_var (i : Nat) {x : Str} (hN : X.N[i]? = some x := by rfl) (hv : Vis X.env.scope x := by first | exact Or.inl rfl | exact Or.inr (Or.inl rfl) | exact Or.inr (Or.inr rfl)) (hd : (x == ("__debug__" : Str)) = false := by decide)
    (hcd : (x == ("__classdict__" : Str)) = false := by decide) : DE X E (.Name x pos) (varE i) := by
  refine ⟨_, pe_var hN hv hd hcd, fun σ H σd S ι Q hE hS h => ?_⟩
  unfold varE at h
  split at h
  · rename_i d hd'
    obtain ⟨v, e1, r⟩ := hE.at_ i d hd'
    exact ⟨v, e1, h v H ι (.refl hS) r⟩
  · exact h.elim
theorem de_int {i : Int} {j : Nat} : DE X E (.Constant (.int i) j pos) (cE (.int i)) := ⟨_, pe_int, fun σ H σd S ι Q hE hS h => h _ _ _ (.refl hS) (.py (.int i))⟩
theorem de_bl {i : Bool} {j : Nat} : DE X E (.Constant (.bool i) j pos) (cE (.bool i)) := ⟨_, pe_bl, fun σ H σd S ι Q hE hS h => h _ _ _ (.refl hS) (.py (.bl i))⟩
theorem de_non {j : Nat} : DE X E (.Constant .none j pos) (cE .none) := ⟨_, pe_non, fun σ H σd S ι Q hE hS h => h _ _ _ (.refl hS) (.py .non)⟩
theorem de_str {x : Str} {j : Nat} : DE X E (.Constant (.str x) j pos) (cE (.str x)) := ⟨_, pe_str, fun σ H σd S ι Q hE hS h => h _ _ _ (.refl hS) (.py (.str x))⟩

/-! ### argument lists, displays -/
theorem da_nil : DA X E [] nilA := ⟨fun _ _ ds _ e => by cases e; rfl, _, pa_nil, fun σ H σd S ι Q hE hS h => h _ _ _ (.refl hS) .nil⟩
theorem da_cons (ha : DE X E e f) (hr : DA X E es fs) (hs : starEach (e :: es) X.env = (false, eval e X.env) :: starEach es X.env := by rfl) : DA X E (e :: es) (consA f fs) := by
  obtain ⟨t, p, q⟩ := ha
  obtain ⟨l, u, pu, qu⟩ := hr
  refine ⟨fun σ S ds S' h => ?_, _, pa_cons p pu hs, fun σ H σd S ι Q hE hS h => ?_⟩
  · unfold consA at h
    cases h1 : f σ S with
    | ok d S1 =>
      rw [h1, bind_ok] at h
      cases h2 : fs σ S1 with
      | ok dr S2 =>
        rw [h2, bind_ok] at h
        cases h
        rw [List.length_cons, List.length_cons, l _ _ _ _ h2]
      | ex c S2 => rw [h2] at h; cases h
      | no => rw [h2] at h; cases h
    | ex c S2 => rw [h1] at h; cases h
    | no => rw [h1] at h; cases h
  · refine q σ H σd S ι _ hE hS (Wp.bind h fun d S1 _ v H1 ι1 p1 r1 h1 => ?_)
    refine qu σ H1 σd S1 ι1 _ (hE.mono p1.pre p1.keep) p1.sto (Wp.bind h1 fun ds S2 _ vs H2 ι2 p2 r2 h2 => ?_)
    exact h2 _ _ _ (.refl p2.sto) (.cons (r1.mono p2.pre p2.keep) r2)
theorem small_line {n : Nat} (h : n ≤ 1000) : n ≤ sizeLine := Nat.le_trans h (by decide)
/-- a tuple that was made just now: its object is known -/
theorem tupF_ok {P : Program} {w : World} {H : Hp} {h : Heap} {a : Addr} {xs : List V} {us : List Value} {o : Obj} (hz : xs.length ≤ sizeLine) (r : Vals xs us) (e : h.get? a = some o) (hc : o.cls = .type "tuple") {n : Nat} (hd : o.data = .seq us.toArray n) : ObjOk P w H h a (.frz o (.tup xs)) :=
  ⟨e, hz, us, r, ⟨o, e, hc, n, hd⟩⟩
def tTupF (t : TA) : TE := fun σ H Q => t σ H fun xs H1 => xs.length ≤ sizeLine ∧ ∀ p (o : Obj), o.dict = none → H1 p = none → Q (.ref p) (upd H1 p (.frz o (.tup xs)))
theorem pe_tupF {x1 : Nat} {t : TA} (h : PA X es t) : PE X (.Tuple es x1 pos) (tTupF t) := by
  refine ⟨fun pins s σ H Q I hq => ?_⟩
  refine wpAny_Tuple_spliced (thn (h.run pos pins s σ H _ I hq) fun us s1 ⟨xs, H1, I1, r, z, q⟩ => ⟨by rw [← r.length]; exact z, ?_⟩)
  have hf : H1 s1.heap.objs.size = none := I1.hok.fresh (Nat.le_refl _)
  refine ⟨.ref s1.heap.objs.size, _, I1.laid (t' := s1.toks) (fun b u e => Heap.get?_push_of_some _ e) (Nat.le_refl _) ?_, rfl, q _ { cls := .type "tuple", data := .seq us.toArray } rfl hf⟩
  exact tupF_ok z r (Heap.get?_push_size _ rfl) rfl rfl
theorem de_tup {x1 : Nat} (ha : DA X E es fs) (hl : es.length ≤ 1000 := by decide) : DE X E (.Tuple es x1 pos) (tupE fs) := by
  obtain ⟨l, t, p, q⟩ := ha
  refine ⟨_, pe_tupF p, fun σ H σd S ι Q hE hS h => ?_⟩
  refine q σ H σd S ι _ hE hS (Wp.bind h fun ds S1 e1 vs H1 ι1 p1 r1 h1 => ?_)
  have hlen : ds.length ≤ sizeLine := by rw [l _ _ _ _ e1]; exact small_line hl
  cases hp : pysOf ds with
  | none => rw [hp] at h1; exact h1.elim
  | some ps =>
    rw [hp] at h1
    refine ⟨by rw [r1.length]; exact hlen, fun a o ho na => ?_⟩
    refine h1 _ _ _ (.new p1.sto na) (.py (.tup (.new ho) (by rw [pysOf_length hp]; exact hlen) ?_))
    exact (RdAll.pys r1 hp).keep (.new na)
theorem dl_lst (ha : DA X E es fs) (hl : es.length ≤ 1000 := by decide) : DL X E (.List es pos) fs := by
  obtain ⟨l, t, p, q⟩ := ha
  refine ⟨_, pe_lst p, fun σ H σd S ι Q hE hS h => ?_⟩
  refine q σ H σd S ι _ hE hS ?_
  cases hf : fs σd S with
  | no => rw [hf] at h; exact h.elim
  | ex c S1 => rw [hf] at h; exact h
  | ok ds S1 =>
    rw [hf] at h
    intro vs H1 ι1 p1 r1
    have hz : vs.length ≤ sizeLine := by rw [r1.length, l _ _ _ _ hf]; exact small_line hl
    refine ⟨hz, fun a na => ?_⟩
    refine h _ _ _ (p1.trans (.new p1.sto na)) ⟨a, vs, ?_, rfl, upd_same, p1.sto.notin na, hz, r1.mono (List.prefix_refl _) (.new na)⟩
    cases q0 : H a with
    | none => rfl
    | some u => exact absurd na (p1.dom a (by rw [q0]; simp))

/-! ### a list that is not changed from here on -/
def tFz (t : TE) : TE := fun σ H Q => t σ H fun v H1 => ∃ a xs, v = .ref a ∧ H1 a = some (.lst xs) ∧ ∀ o, Q v (upd H1 a (.frz o (.lst xs)))
theorem pe_frz {t : TE} (p : PE X e t) : PE X e (tFz t) := by
  refine ⟨fun pins s σ H Q I h => thn (p.run pins s σ H _ I h) fun u s1 ⟨v, H1, I1, r, a, xs, ev, ha, q⟩ => ?_⟩
  obtain ⟨o, I2⟩ := I1.lock ha trivial
  exact ⟨v, _, I2, r, q o⟩
/-- a new list, then fixed -/
theorem frz_post {ι ι1 : List Addr} {H H1 : Hp} {S1 : Sto} {v : V} {ds : List D} {ps : List PyData} (p1 : Post X.K ι H ι1 H1 S1) (r : relL X.K H ι1 H1 v ds) (hp : pysOf ds = some ps) :
    ∃ a xs, v = .ref a ∧ H1 a = some (.lst xs) ∧ ∀ o, Post X.K ι H ι1 (upd H1 a (.frz o (.lst xs))) S1 ∧ Pp X.K (upd H1 a (.frz o (.lst xs))) (.ref a) (.list ps) := by
  obtain ⟨a, vs, h0, rfl, ha, hn, hz, r⟩ := r
  refine ⟨a, vs, rfl, ha, fun o => ⟨p1.fixNew ha hn h0, .lst (.inl ⟨o, upd_same⟩) ?_ ?_⟩⟩
  · rw [pysOf_length hp, ← r.length]
    exact hz
  · exact (RdAll.pys r hp).keep (.list ha)
theorem de_frz {fl : Ax} (hl : DL X E e fl) : DE X E e (frzE fl) := by
  obtain ⟨t, p, q⟩ := hl
  refine ⟨_, pe_frz p, fun σ H σd S ι Q hE hS h => ?_⟩
  refine q σ H σd S ι _ hE hS (Wp.bind0 h fun ds S1 e1 v H1 ι1 p1 r1 h1 => ?_)
  cases hp : pysOf ds with
  | none => rw [hp] at h1; exact h1.elim
  | some ps =>
    rw [hp] at h1
    obtain ⟨a, xs, rfl, ha, z⟩ := frz_post p1 r1 hp
    exact ⟨a, xs, rfl, ha, fun o => h1 _ _ _ (z o).1 (.py (z o).2)⟩
theorem thw_post {ι ι1 : List Addr} {H H1 : Hp} {S1 : Sto} {v : V} {ds : List D} (p1 : Post X.K ι H ι1 H1 S1) (r : relL X.K H ι1 H1 v ds) : ∃ ι2, Post X.K ι H ι2 H1 (S1 ++ [.lst ds]) ∧ Rd X.K ι2 H1 v (.obj S1.length) := by
  obtain ⟨a, vs, h0, rfl, ha, hn, hz, r⟩ := r
  refine ⟨ι1 ++ [a], ⟨p1.pre.trans (List.prefix_append _ _), p1.keep, p1.sto.push ha hn r, fun b ws m q => ?_, p1.dom⟩, .obj ?_⟩
  · obtain ⟨e1, n1⟩ := p1.frame b ws m q
    refine ⟨e1, fun hm => ?_⟩
    rcases List.mem_append.mp hm with hm | hm
    · exact n1 hm
    · rw [List.mem_singleton] at hm
      exact ne_of_none q h0 hm
  · rw [← p1.sto.len]
    simp
theorem de_thw {fl : Ax} (hl : DL X E e fl) : DE X E e (thwE fl) := by
  obtain ⟨t, p, q⟩ := hl
  refine ⟨_, p, fun σ H σd S ι Q hE hS h => ?_⟩
  refine q σ H σd S ι _ hE hS (Wp.bind0 h fun ds S1 e1 v H1 ι1 p1 r1 h1 => ?_)
  obtain ⟨ι2, p2, r2⟩ := thw_post p1 r1
  exact h1 _ _ _ p2 r2
/-! ### operators by values -/
/-- an operator of the model does what g says -/
def DOp (X : Cx) (o : Value → Value → Sem Value) (g : D → D → Sto → R D) : Prop := ∃ r, OpR X o r ∧ ∀ x y d e H S ι E Q, StR X.K ι H S → Rd X.K ι H x d → Rd X.K ι H y e → Wp X.K X.mg E ι H (relD X.K) (g d e S) Q → r x y H Q
def DUn (X : Cx) (o : Value → Sem Value) (g : D → Sto → R D) : Prop := ∃ r, UnR X o r ∧ ∀ x d H S ι E Q, StR X.K ι H S → Rd X.K ι H x d → Wp X.K X.mg E ι H (relD X.K) (g d S) Q → r x H Q
/-- a built-in upon its arguments -/
def DC (X : Cx) (o : Value) (g : List D → Sto → R D) : Prop := ∃ r, CallR X o r ∧ ∀ xs ds H S ι E Q, StR X.K ι H S → RdAll X.K ι H xs ds → Wp X.K X.mg E ι H (relD X.K) (g ds S) Q → r xs H Q
/-- a built-in type's method -/
def DM (X : Cx) (T : String) (id : String) (g : D → List D → Sto → R D) : Prop := ∃ r, MtR X id r ∧ ∀ x xs d ds H S ι E Q, StR X.K ι H S → Rd X.K ι H x d → RdAll X.K ι H xs ds → Wp X.K X.mg E ι H (relD X.K) (g d ds S) Q → r x xs H Q
theorem op_read {o : Value → Value → Sem Value} {gg : D → D → Sto → R D} {r : R2} {ta tb : TE} (q : ∀ σ H σd S ι Q, EnR X.K ι H σ σd → StR X.K ι H S → Wp X.K X.mg E ι H (relD X.K) (f σd S) Q → ta σ H Q)
    (qu : ∀ σ H σd S ι Q, EnR X.K ι H σ σd → StR X.K ι H S → Wp X.K X.mg E ι H (relD X.K) (g σd S) Q → tb σ H Q)
    (qr : ∀ x y d e H S ι E Q, StR X.K ι H S → Rd X.K ι H x d → Rd X.K ι H y e → Wp X.K X.mg E ι H (relD X.K) (gg d e S) Q → r x y H Q)
    {σ : L2.St} {H : Hp} {σd : En} {S : Sto} {ι : List Addr} {Q : VK} (hE : EnR X.K ι H σ σd) (hS : StR X.K ι H S) (h : Wp X.K X.mg E ι H (relD X.K) (opE gg f g σd S) Q) : tOp r ta tb σ H Q := by
  refine q σ H σd S ι _ hE hS (Wp.bind h fun d S1 _ v H1 ι1 p1 r1 h1 => ?_)
  refine qu σ H1 σd S1 ι1 _ (hE.mono p1.pre p1.keep) p1.sto (Wp.bind h1 fun d2 S2 _ v2 H2 ι2 p2 r2 h2 => ?_)
  exact qr _ _ _ _ _ _ _ E _ p2.sto (r1.mono p2.pre p2.keep) r2 h2
/-- a truth, as a test of its own -/
theorem bool_of {K : PySem.W.Frag} {ι : List Addr} {H : Hp} {v : V} {c : Bool} (r : Rd K ι H v (.py (.bool c))) : v = .bl c := by
  cases r with
  | py r => cases r; rfl
theorem Wp.val {K : PySem.W.Frag} {mg : Str → Option Value} {ι : List Addr} {H : Hp} {r : R D} {Q : Bool → Hp → Prop} (h : Wp K mg E ι H relB (r.bind fun x S1 => match x with
    | .py (.bool k) => .ok k S1
    | _ => .no) Q) : Wp K mg E ι H (relD K) r (fun v H' => ∃ k, v = .bl k ∧ Q k H') := by
  refine Wp.bind h fun d3 S3 _ v3 H3 ι3 p3 r3 h3 => ?_
  split at h3
  · exact ⟨_, bool_of r3, h3 _ _ _ (.refl p3.sto) rfl⟩
  · exact h3.elim
theorem de_bin {op : Operator} {gg : D → D → Sto → R D} (ho : DOp X (binaryOp op) gg) (ha : DE X E a f) (hb : DE X E b g) : DE X E (.BinOp a op b pos) (opE gg f g) := by
  obtain ⟨t, p, q⟩ := ha
  obtain ⟨u, pu, qu⟩ := hb
  obtain ⟨r, hr, qr⟩ := ho
  exact ⟨_, pe_op hr p pu, fun σ H σd S ι Q hE hS h => op_read (o := binaryOp op) q qu qr hE hS h⟩
theorem de_cmp {op : CmpOp} {gg : D → D → Sto → R D} (ho : DOp X (compareOp op) gg) (ha : DE X E a f) (hb : DE X E b g) (hm : behindInMarks op b = false := by rfl) : DE X E (.Compare a [op] [b] pos) (opE gg f g) := by
  obtain ⟨t, p, q⟩ := ha
  obtain ⟨u, pu, qu⟩ := hb
  obtain ⟨r, hr, qr⟩ := ho
  exact ⟨_, pe_cmpR hr p pu hm, fun σ H σd S ι Q hE hS h => op_read (o := compareOp op) q qu qr hE hS h⟩
theorem dt_cmp {op : CmpOp} {gg : D → D → Sto → R D} (ho : DOp X (compareOp op) gg) (ha : DE X E a f) (hb : DE X E b g) (hm : behindInMarks op b = false := by rfl) : DT X E (.Compare a [op] [b] pos) (valT (opE gg f g)) := by
  obtain ⟨t, p, q⟩ := ha
  obtain ⟨u, pu, qu⟩ := hb
  obtain ⟨r, hr, qr⟩ := ho
  exact ⟨_, pt_cmpR hr p pu hm, fun σ H σd S ι Q hE hS h => op_read (o := compareOp op) q qu qr hE hS (Wp.val h)⟩
theorem de_un {op : UnaryOp} {gg : D → Sto → R D} (ho : DUn X (unaryOp op) gg) (ha : DE X E a f) : DE X E (.UnaryOp op a pos) (op1 gg f) := by
  obtain ⟨t, p, q⟩ := ha
  obtain ⟨r, hr, qr⟩ := ho
  refine ⟨_, pe_un hr p, fun σ H σd S ι Q hE hS h => ?_⟩
  refine q σ H σd S ι _ hE hS (Wp.bind h fun d S1 _ v H1 ι1 p1 r1 h1 => ?_)
  exact qr _ _ _ _ _ E _ p1.sto r1 h1
theorem dt_val (ha : DE X E a f) (he : ∀ whole, isTrue a X.env whole = (do let v ← whole; standAt a.pos; holding [v] (truthy v)) := by intro _; rfl) : DT X E a (valT f) := by
  obtain ⟨t, p, q⟩ := ha
  exact ⟨_, pt_val p he, fun σ H σd S ι Q hE hS h => q σ H σd S ι _ hE hS (Wp.val h)⟩

/-! ### and, or, not -/
variable {ft gt : Tx} {rest : List Expr}
theorem dw_and1 (ha : DT X E a ft) : DW X E (.BoolOp .And [a] pos) ft := by
  obtain ⟨t, p, q⟩ := ha
  exact ⟨_, pw_and1 p, q⟩
theorem dw_or1 (ha : DT X E a ft) : DW X E (.BoolOp .Or [a] pos) ft := by
  obtain ⟨t, p, q⟩ := ha
  exact ⟨_, pw_or1 p, q⟩
theorem dw_and (ha : DT X E a ft) (hb : DW X E (.BoolOp .And (b :: rest) pos) gt) : DW X E (.BoolOp .And (a :: b :: rest) pos) (andT ft gt) := by
  obtain ⟨t, p, q⟩ := ha
  obtain ⟨u, pu, qu⟩ := hb
  refine ⟨_, pw_and p pu, fun σ H σd S ι Q hE hS h => ?_⟩
  refine q σ H σd S ι _ hE hS (Wp.bind h fun d S1 _ v H1 ι1 p1 r1 h1 => ?_)
  cases r1
  cases d with
  | true => exact qu σ H1 σd S1 ι1 _ (hE.mono p1.pre p1.keep) p1.sto h1
  | false => exact h1 _ _ _ (.refl p1.sto) rfl
theorem dw_or (ha : DT X E a ft) (hb : DW X E (.BoolOp .Or (b :: rest) pos) gt) : DW X E (.BoolOp .Or (a :: b :: rest) pos) (orT ft gt) := by
  obtain ⟨t, p, q⟩ := ha
  obtain ⟨u, pu, qu⟩ := hb
  refine ⟨_, pw_or p pu, fun σ H σd S ι Q hE hS h => ?_⟩
  refine q σ H σd S ι _ hE hS (Wp.bind h fun d S1 _ v H1 ι1 p1 r1 h1 => ?_)
  cases r1
  cases d with
  | false => exact qu σ H1 σd S1 ι1 _ (hE.mono p1.pre p1.keep) p1.sto h1
  | true => exact h1 _ _ _ (.refl p1.sto) rfl
theorem dt_w (h : DW X E e ft) : DT X E e ft := by
  obtain ⟨t, p, q⟩ := h
  exact ⟨_, p.pt, q⟩
theorem dt_not (ha : DT X E a ft) : DT X E (.UnaryOp .Not a pos) (notT ft) := by
  obtain ⟨t, p, q⟩ := ha
  refine ⟨_, pt_not p, fun σ H σd S ι Q hE hS h => ?_⟩
  refine q σ H σd S ι _ hE hS (Wp.bind h fun d S1 _ v H1 ι1 p1 r1 h1 => ?_)
  cases r1
  exact h1 _ _ _ (.refl p1.sto) rfl
theorem de_one {op} (ha : DE X E a f) : DE X E (.BoolOp op [a] pos) f := by
  obtain ⟨t, p, q⟩ := ha
  exact ⟨_, pe_one p, q⟩
theorem de_and (ha : DE X E a f) (hb : DE X E (.BoolOp .And (b :: rest) pos) g) : DE X E (.BoolOp .And (a :: b :: rest) pos) (andE f g) := by
  obtain ⟨t, p, q⟩ := ha
  obtain ⟨u, pu, qu⟩ := hb
  refine ⟨_, pe_and p pu, fun σ H σd S ι Q hE hS h => ?_⟩
  refine q σ H σd S ι _ hE hS (Wp.bind h fun d S1 _ v H1 ι1 p1 r1 h1 => ?_)
  split at h1
  · exact ⟨_, bool_of r1, qu σ H1 σd S1 ι1 _ (hE.mono p1.pre p1.keep) p1.sto h1⟩
  · exact ⟨_, bool_of r1, h1 _ _ _ (.refl p1.sto) (.py (.bl false))⟩
  · exact h1.elim
theorem de_not (ha : DE X E a f) : DE X E (.UnaryOp .Not a pos) (notE f) := by
  obtain ⟨t, p, q⟩ := ha
  refine ⟨_, pe_not p, fun σ H σd S ι Q hE hS h => ?_⟩
  refine q σ H σd S ι _ hE hS (Wp.bind h fun d S1 _ v H1 ι1 p1 r1 h1 => ?_)
  split at h1
  · exact ⟨_, bool_of r1, h1 _ _ _ (.refl p1.sto) (.py (.bl _))⟩
  · exact h1.elim
theorem de_ife (hc : DT X E c ft) (ha : DE X E a f) (hb : DE X E b g) : DE X E (.IfExp c a b pos) (ifE ft f g) := by
  obtain ⟨t, p, q⟩ := hc
  obtain ⟨ta, pa, qa⟩ := ha
  obtain ⟨tb, pb, qb⟩ := hb
  refine ⟨_, pe_ifExp p pa pb, fun σ H σd S ι Q hE hS h => ?_⟩
  refine q σ H σd S ι _ hE hS (Wp.bind h fun d S1 _ v H1 ι1 p1 r1 h1 => ?_)
  cases r1
  cases d with
  | true => exact qa σ H1 σd S1 ι1 _ (hE.mono p1.pre p1.keep) p1.sto h1
  | false => exact qb σ H1 σd S1 ι1 _ (hE.mono p1.pre p1.keep) p1.sto h1
theorem chain_read {gg gg' : D → D → Sto → R D} {r r' : R2} {ta tb tc : TE} (q : ∀ σ H σd S ι Q, EnR X.K ι H σ σd → StR X.K ι H S → Wp X.K X.mg E ι H (relD X.K) (f σd S) Q → ta σ H Q)
    (qu : ∀ σ H σd S ι Q, EnR X.K ι H σ σd → StR X.K ι H S → Wp X.K X.mg E ι H (relD X.K) (g σd S) Q → tb σ H Q) (qw : ∀ σ H σd S ι Q, EnR X.K ι H σ σd → StR X.K ι H S → Wp X.K X.mg E ι H (relD X.K) (h σd S) Q → tc σ H Q)
    (qr : ∀ x y d e H S ι E Q, StR X.K ι H S → Rd X.K ι H x d → Rd X.K ι H y e → Wp X.K X.mg E ι H (relD X.K) (gg d e S) Q → r x y H Q)
    (qr' : ∀ x y d e H S ι E Q, StR X.K ι H S → Rd X.K ι H x d → Rd X.K ι H y e → Wp X.K X.mg E ι H (relD X.K) (gg' d e S) Q → r' x y H Q)
    {σ : L2.St} {H : Hp} {σd : En} {S : Sto} {ι : List Addr} {Q : VK} (hE : EnR X.K ι H σ σd) (hS : StR X.K ι H S) (h : Wp X.K X.mg E ι H (relD X.K) (chainE gg gg' f g h σd S) Q) : tChain r r' ta tb tc σ H Q := by
  refine q σ H σd S ι _ hE hS (Wp.bind h fun d S1 _ v H1 ι1 p1 r1 h1 => ?_)
  refine qu σ H1 σd S1 ι1 _ (hE.mono p1.pre p1.keep) p1.sto (Wp.bind h1 fun d2 S2 _ v2 H2 ι2 p2 r2 h2 => ?_)
  refine qr _ _ _ _ _ _ _ E _ p2.sto (r1.mono p2.pre p2.keep) r2 (Wp.bind h2 fun d3 S3 _ v3 H3 ι3 p3 r3 h3 => ?_)
  split at h3
  · refine ⟨_, bool_of r3, ?_⟩
    rw [if_pos rfl]
    refine qw σ H3 σd S3 ι3 _ (((hE.mono p1.pre p1.keep).mono p2.pre p2.keep).mono p3.pre p3.keep) p3.sto (Wp.bind h3 fun d4 S4 _ v4 H4 ι4 p4 r4 h4 => ?_)
    exact qr' _ _ _ _ _ _ _ E _ p4.sto ((r2.mono p3.pre p3.keep).mono p4.pre p4.keep) r4 h4
  · refine ⟨_, bool_of r3, ?_⟩
    rw [if_neg Bool.false_ne_true]
    exact h3 _ _ _ (.refl p3.sto) (.py (.bl false))
  · exact h3.elim
theorem de_chain {op op' : CmpOp} {gg gg' : D → D → Sto → R D} (ho : DOp X (compareOp op) gg) (ho' : DOp X (compareOp op') gg') (ha : DE X E a f) (hb : DE X E b g) (hc : DE X E c h) (hm : lastMarks [op, op'] [b, c] = false := by with_unfolding_all rfl) : DE X E (.Compare a [op, op'] [b, c] pos) (chainE gg gg' f g h) := by
  obtain ⟨t, p, q⟩ := ha
  obtain ⟨u, pu, qu⟩ := hb
  obtain ⟨w, pw, qw⟩ := hc
  obtain ⟨r, hr, qr⟩ := ho
  obtain ⟨r', hr', qr'⟩ := ho'
  exact ⟨_, pe_chain hr hr' p pu pw hm, fun σ H σd S ι Q hE hS h => chain_read q qu qw qr qr' hE hS h⟩
/-! ### calls of built-ins, methods, items -/
variable {p : Pos} {x : Str}
theorem de_callB {id : String} {gg : List D → Sto → R D} (hc : DC X (.builtin id) gg) (hm : X.mg x = none) (hv : bootBuiltins x = some (.builtin id)) (ha : DA X E (e :: es) fs) (hg : Gl X x := by rfl) (hn : x ≠ "__name__" := by decide) (hdb : (x == ("__debug__" : Str)) = false := by decide)
    (he : starEach (e :: es) X.env = (false, eval e X.env) :: starEach es X.env := by rfl) (hpl : (backTo pos (starEach es X.env)).any (·.1) = false := by rfl) : DE X E (.Call (.Name x p) (e :: es) [] pos) (callE gg fs) := by
  obtain ⟨l, t, pt, q⟩ := ha
  obtain ⟨r, hr, qr⟩ := hc
  refine ⟨_, pe_callB hr hg hm hv pt hn hdb he hpl, fun σ H σd S ι Q hE hS h => ?_⟩
  refine q σ H σd S ι _ hE hS (Wp.bind h fun ds S1 _ vs H1 ι1 p1 r1 h1 => ?_)
  exact qr _ _ _ _ _ E _ p1.sto r1 h1
theorem de_callTy {T : String} {gg : List D → Sto → R D} (hc : DC X (.type T) gg) (hm : X.mg x = none) (hv : bootBuiltins x = some (.type T)) (ha : DA X E (e :: es) fs) (hg : Gl X x := by rfl) (hn : x ≠ "__name__" := by decide) (hdb : (x == ("__debug__" : Str)) = false := by decide)
    (he : starEach (e :: es) X.env = (false, eval e X.env) :: starEach es X.env := by rfl) (hpl : (backTo pos (starEach es X.env)).any (·.1) = false := by rfl) : DE X E (.Call (.Name x p) (e :: es) [] pos) (callE gg fs) := by
  obtain ⟨l, t, pt, q⟩ := ha
  obtain ⟨r, hr, qr⟩ := hc
  refine ⟨_, pe_callTy hr hg hm hv pt hn hdb he hpl, fun σ H σd S ι Q hE hS h => ?_⟩
  refine q σ H σd S ι _ hE hS (Wp.bind h fun ds S1 _ vs H1 ι1 p1 r1 h1 => ?_)
  exact qr _ _ _ _ _ E _ p1.sto r1 h1

/-! ### methods, items -/
variable {o : Expr} {apos cpos : Pos} {name : Str} {id : String}
theorem de_methL {gg : D → List D → Sto → R D} (slot : Slot "list" name id) (hty : typeOf (.builtin id) = pure (.type "method_descriptor")) (hm : DM X "list" id gg) (ho : DE X E o f) (ha : DA X E (e :: es) fs)
    (hbase : attributeBase o name X.env (eval o X.env) = eval o X.env := by rfl)
    (hfew : ((backTo cpos (starEach (e :: es) X.env)).all (fun x => !x.1) && (backToKw cpos (keywordEach [] X.env)).all (fun x => x.1.isSome)
      && decide ((e :: es).length + ([] : List Keyword).length + (if ([] : List Keyword).isEmpty then 0 else 1) < 30)) = true := by rfl)
    (hline : (apos.endLine == cpos.line) = true := by rfl) (hs : starEach (e :: es) X.env = (false, eval e X.env) :: starEach es X.env := by rfl) (hplain : (backTo cpos (starEach es X.env)).any (·.1) = false := by rfl) :
    DE X E (.Call (.Attribute o name apos) (e :: es) [] cpos) (methL gg f fs) := by
  obtain ⟨t, p, q⟩ := ho
  obtain ⟨l, u, pu, qu⟩ := ha
  obtain ⟨r, hr, qr⟩ := hm
  refine ⟨_, pe_bm PySem.F.plainAttrs_list slot hty hr p pu hbase hfew hline hs hplain, fun σ H σd S ι Q hE hS h => ?_⟩
  refine q σ H σd S ι _ hE hS (Wp.bind h fun d S1 _ v H1 ι1 p1 r1 h1 => ?_)
  split at h1
  · rename_i hl
    refine ⟨tyL p1.sto r1 hl, ?_⟩
    refine qu σ H1 σd S1 ι1 _ (hE.mono p1.pre p1.keep) p1.sto (Wp.bind h1 fun d2 S2 _ v2 H2 ι2 p2 r2 h2 => ?_)
    exact qr _ _ _ _ _ _ _ E _ p2.sto (r1.mono p2.pre p2.keep) r2 h2
  · exact h1.elim
theorem de_methS {gg : D → List D → Sto → R D} (slot : Slot "str" name id) (hty : typeOf (.builtin id) = pure (.type "method_descriptor")) (hm : DM X "str" id gg) (ho : DE X E o f) (ha : DA X E (e :: es) fs)
    (hbase : attributeBase o name X.env (eval o X.env) = eval o X.env := by rfl)
    (hfew : ((backTo cpos (starEach (e :: es) X.env)).all (fun x => !x.1) && (backToKw cpos (keywordEach [] X.env)).all (fun x => x.1.isSome)
      && decide ((e :: es).length + ([] : List Keyword).length + (if ([] : List Keyword).isEmpty then 0 else 1) < 30)) = true := by rfl)
    (hline : (apos.endLine == cpos.line) = true := by rfl) (hs : starEach (e :: es) X.env = (false, eval e X.env) :: starEach es X.env := by rfl) (hplain : (backTo cpos (starEach es X.env)).any (·.1) = false := by rfl) :
    DE X E (.Call (.Attribute o name apos) (e :: es) [] cpos) (methS gg f fs) := by
  obtain ⟨t, p, q⟩ := ho
  obtain ⟨l, u, pu, qu⟩ := ha
  obtain ⟨r, hr, qr⟩ := hm
  refine ⟨_, pe_bm PySem.F.plainAttrs_str slot hty hr p pu hbase hfew hline hs hplain, fun σ H σd S ι Q hE hS h => ?_⟩
  refine q σ H σd S ι _ hE hS (Wp.bind h fun d S1 _ v H1 ι1 p1 r1 h1 => ?_)
  split at h1
  · rename_i z
    refine ⟨by cases r1 with | py r1 => cases r1; rfl, ?_⟩
    refine qu σ H1 σd S1 ι1 _ (hE.mono p1.pre p1.keep) p1.sto (Wp.bind h1 fun d2 S2 _ v2 H2 ι2 p2 r2 h2 => ?_)
    exact qr _ _ _ _ _ _ _ E _ p2.sto (r1.mono p2.pre p2.keep) r2 h2
  · exact h1.elim
/-- an item by its index -/
theorem de_item (ha : DE X E a f) (hb : DE X E b g) (hs : PlainIx b := by intro _ _; rfl) : DE X E (.Subscript a b pos) (opE itemD f g) := by
  obtain ⟨t, p, q⟩ := ha
  obtain ⟨u, pu, qu⟩ := hb
  refine ⟨_, pe_ix ix_seq p pu hs, fun σ H σd S ι Q hE hS h => op_read (o := binaryOp .Add) q qu (fun x y d e H S ι E Q hS rx ry h => ?_) hE hS h⟩
  exact item_read hS rx ry h
end
end DV

set_option maxHeartbeats 4000000
/-! Targets, statements, loops, comprehensions. -/
namespace DV
open PySem PySem.Spec PyProof.Rows L2
section
variable {X : Cx} {E : XK} {k : Nat} {e a b c : Expr} {f g h : Ex} {es : List Expr} {fs : Ax} {pos : Pos}

/-! ### targets -/
theorem EnR.set {K : PySem.W.Frag} {ι : List Addr} {H : Hp} {σ : L2.St} {σd : En} {v : V} {d : D} (h : EnR K ι H σ σd) (i : Nat) (r : Rd K ι H v d) : EnR K ι H (σ.set i (some v)) (σd.set i (some d)) := by
  refine ⟨by rw [List.length_set, List.length_set, h.len], fun j d' e => ?_⟩
  by_cases hj : j = i
  · subst hj
    have hlt : j < σd.length := by
      have := (List.getElem?_eq_some_iff.mp e).1
      simpa using this
    rw [List.getElem?_set_self hlt] at e
    cases e
    exact ⟨v, List.getElem?_set_self (by rw [h.len]; exact hlt), r⟩
  · rw [List.getElem?_set_ne (Ne.symm hj)] at e
    obtain ⟨v', e1, r'⟩ := h.at_ j d' e
    exact ⟨v', by rw [List.getElem?_set_ne (Ne.symm hj)]; exact e1, r'⟩
theorem wipe_get {i : Nat} {σ : L2.St} : ∀ {vs : List Nat}, i ∈ vs → i < σ.length → (wipe σ vs)[i]? = some none
  | v :: vs, hm, hl => by
    unfold wipe
    by_cases hi : v = i
    · subst hi
      rw [List.getElem?_set_self (by rw [wipe_length]; exact hl)]
    · rw [List.getElem?_set_ne hi]
      exact wipe_get ((List.mem_cons.mp hm).resolve_left (Ne.symm hi)) hl
theorem wipe_set_in {i : Nat} {x : Option V} {σ : L2.St} {vs : List Nat} (hm : i ∈ vs) : wipe (σ.set i x) vs = wipe σ vs := by
  apply List.ext_getElem?
  intro j
  by_cases hj : j ∈ vs
  · by_cases hl : j < σ.length
    · rw [wipe_get hj (by rw [List.length_set]; exact hl), wipe_get hj hl]
    · rw [List.getElem?_eq_none (by rw [wipe_length, List.length_set]; omega), List.getElem?_eq_none (by rw [wipe_length]; omega)]
  · rw [wipe_out hj, wipe_out hj, List.getElem?_set_ne (fun z => hj (by subst z; exact hm))]
theorem dg_name {vs : List Nat} (i : Nat) {x : Str} (hN : X.N.Nodup) (hi : X.N[i]? = some x := by rfl) (hx : Loc X.env.scope x := by first | exact Or.inl rfl | exact Or.inr rfl) (hf : X.fn x = true ∨ X.env.scope.names.lookup x = some .local := by first | exact .inl rfl | exact .inr rfl) (hm : i ∈ vs := by decide) : DG X E vs (.Name x pos) (nmG i) :=
  ⟨_, pg_name hN hi hx hf, fun v d σ H σd S ι Q hE hS r h => h _ _ _ (.refl hS) ⟨hE.set i r, wipe_set_in hm⟩⟩
theorem dgs_nil {vs : List Nat} : DGs X E vs [] nilG := ⟨_, pgs_nil, fun ws ds σ H σd S ι Q hE hS r h => by
  cases r with
  | nil => exact ⟨rfl, h _ _ _ (.refl hS) ⟨hE, rfl⟩⟩
  | cons _ _ => exact h.elim⟩
theorem dgs_cons {vs : List Nat} {tg : Expr} {tgs : List Expr} {gg : Tg} {gs : List D → En → Sto → R En} (h1 : DG X E vs tg gg) (h2 : DGs X E vs tgs gs) (hs : ∀ env, assignEach (tg :: tgs) env = (false, assign tg env) :: assignEach tgs env := by intro _; rfl) : DGs X E vs (tg :: tgs) (consG gg gs) := by
  obtain ⟨t, p, q⟩ := h1
  obtain ⟨u, pu, qu⟩ := h2
  refine ⟨_, pgs_cons p pu (by rw [hs]; rfl), fun ws ds σ H σd S ι Q hE hS r h => ?_⟩
  cases r with
  | nil => exact h.elim
  | cons r rs =>
    refine ⟨_, _, rfl, q _ _ σ H σd S ι _ hE hS r (Wp.bind h fun σ1 S1 _ v H1 ι1 p1 r1 h1 => ?_)⟩
    refine qu _ _ v H1 σ1 S1 ι1 _ r1.1 p1.sto (RdAll.mono p1.pre p1.keep rs) (Wp.sub h1 fun ι' H' v' σ2 z => ⟨z.1, z.2.trans r1.2⟩)
theorem dg_tup {vs : List Nat} {n kk : Nat} {tgs : List Expr} {gs : List D → En → Sto → R En} (hc : X.calm = true) (h : DGs X E vs tgs gs) (hn : (assignEach tgs X.env).length = n := by rfl) (hst : (assignEach tgs X.env).findIdx? (·.1) = none := by rfl) : DG X E vs (.Tuple tgs kk pos) (tupG n gs) := by
  obtain ⟨t, p, q⟩ := h
  refine ⟨_, pg_tup hc p hn hst, fun v d σ H σd S ι Q hE hS r h => ?_⟩
  unfold tupG at h
  split at h
  · split at h
    · rename_i ps hl
      cases r with
      | py r =>
        cases r with
        | tup hq hz hs => exact ⟨_, _, rfl, hq.sq, by rw [hs.length]; exact hl, q _ _ σ H σd S ι _ hE hS (.of_pys hs) h⟩
    · exact h.elim
  · exact h.elim
/-- o[i] = v of a list of the store -/
theorem dg_ix {vs : List Nat} {o i : Expr} (ho : DE X E o f) (hi : DE X E i g)
    (hz : ∀ v, assign (.Subscript o i pos) X.env v = (do let ov ← holding [v] (eval o X.env); let iv ← holding [v, ov] (eval i X.env); standAt pos; holding [v, ov, iv] (setItem ov iv v); release [v, ov, iv] []) := by intro _; rfl) : DG X E vs (.Subscript o i pos) (ixG f g) := by
  obtain ⟨t, p, q⟩ := ho
  obtain ⟨u, pu, qu⟩ := hi
  refine ⟨_, pg_sub p pu set_list hz, fun v d σ H σd S ι Q hE hS r h => ?_⟩
  refine q σ H σd S ι _ hE hS (Wp.bind h fun d1 S1 _ v1 H1 ι1 p1 r1 h1 => ?_)
  refine qu σ H1 σd S1 ι1 _ (hE.mono p1.pre p1.keep) p1.sto (Wp.bind h1 fun d2 S2 _ v2 H2 ι2 p2 r2 h2 => ?_)
  have r1' := r1.mono p2.pre p2.keep
  have r' := (r.mono p1.pre p1.keep).mono p2.pre p2.keep
  split at h2
  · split at h2
    · rename_i ds hds
      split at h2
      · rename_i j hj
        cases r1' with
        | obj e1 =>
          rename_i a
          cases p2.sto.at_ _ _ _ hds e1 with
          | lst ha rr =>
            rename_i ws
            refine ⟨a, ws, _, j, rfl, int_of r2, ha, by rw [rr.length]; exact hj, ?_⟩
            refine h2 _ _ _ (.wr e1 ha (p2.sto.set e1 ha (Paired.setB r' j rr))) ⟨?_, rfl⟩
            exact ((hE.mono p1.pre p1.keep).mono p2.pre p2.keep).mono (List.prefix_refl _) (.list ha)
      · exact h2.elim
    · exact h2.elim
  · exact h2.elim

/-! ### statements -/
theorem dss_nil : DSs X E [] passS := ⟨_, pss_nil, fun σ H σd S ι N hE hS h => h _ _ _ (.refl hS) hE⟩
theorem dss_cons {st : Stmt} {sts : List Stmt} {u w : Sx} (h1 : DS X E st u) (h2 : DSs X E sts w) : DSs X E (st :: sts) (seqS u w) := by
  obtain ⟨t, p, q⟩ := h1
  obtain ⟨t2, p2, q2⟩ := h2
  refine ⟨_, pss_cons p p2, fun σ H σd S ι N hE hS h => ?_⟩
  refine q σ H σd S ι _ hE hS ?_
  unfold seqS at h
  cases hu : u σd S with
  | nx σ1 S1 =>
    rw [hu] at h
    exact fun σ' H' ι' pp r => q2 σ' H' σ1 S1 ι' N r pp.sto (WpF.re pp h)
  | rt d S1 => rw [hu] at h; exact h
  | bk σ1 S1 => rw [hu] at h; exact h
  | ct σ1 S1 => rw [hu] at h; exact h
  | ex c S1 => rw [hu] at h; exact h
  | no => rw [hu] at h; exact h.elim
theorem dss_one {st : Stmt} {u : Sx} (h1 : DS X E st u) : DSs X E [st] u := by
  obtain ⟨t, p, q⟩ := h1
  exact ⟨_, pss_one p, q⟩
theorem ds_expr (ha : DE X E e f) (hs : swapsWith e none pos.line X.env = pure false := by rfl) : DS X E (.Expr e pos) (exprS f) := by
  obtain ⟨t, p, q⟩ := ha
  refine ⟨_, ps_expr p hs, fun σ H σd S ι N hE hS h => ?_⟩
  exact q σ H σd S ι _ hE hS (Wp.run h fun d S1 _ v H1 ι1 p1 r1 h1 => h1 _ _ _ (.refl p1.sto) (hE.mono p1.pre p1.keep))
theorem ds_ret (ha : DE X E e f) : DS X E (.Return (some e) pos) (retS f) := by
  obtain ⟨t, p, q⟩ := ha
  refine ⟨_, ps_ret p, fun σ H σd S ι N hE hS h => ?_⟩
  exact q σ H σd S ι _ hE hS (Wp.run h fun d S1 _ v H1 ι1 p1 r1 h1 => h1 _ _ _ (.refl p1.sto) r1)
theorem ds_if {ft : Tx} {u w : Sx} {as bs : List Stmt} (hc : DT X E c ft) (ha : DSs X E as u) (hb : DSs X E bs w) : DS X E (.If c as bs pos) (ifS ft u w) := by
  obtain ⟨t, p, q⟩ := hc
  obtain ⟨ta, pa, qa⟩ := ha
  obtain ⟨tb, pb, qb⟩ := hb
  refine ⟨_, ps_if p pa pb, fun σ H σd S ι N hE hS h => ?_⟩
  refine q σ H σd S ι _ hE hS (Wp.run h fun d S1 _ v H1 ι1 p1 r1 h1 => ?_)
  cases r1
  cases d with
  | true => exact qa σ H1 σd S1 ι1 _ (hE.mono p1.pre p1.keep) p1.sto h1
  | false => exact qb σ H1 σd S1 ι1 _ (hE.mono p1.pre p1.keep) p1.sto h1
/-- target = value, whatever the target -/
theorem ds_asg {vs : List Nat} {tg : Expr} {gg : Tg} (he : DE X E e f) (hg : DG X E vs tg gg) (hs : swapsWithSole [tg] e pos.line X.env = pure false := by rfl) (hw : swappedStores [tg] e X.env = pure none := by rfl)
    (h1 : (assignEach [tg] X.env).map (·.2) = [assign tg X.env] := by rfl) : DS X E (.Assign [tg] e pos) (asgS f gg) := by
  obtain ⟨t, p, q⟩ := he
  obtain ⟨u, pu, qu⟩ := hg
  refine ⟨_, ps_asg p pu hs hw h1, fun σ H σd S ι N hE hS h => ?_⟩
  refine q σ H σd S ι _ hE hS (Wp.run h fun d S1 _ v H1 ι1 p1 r1 h1 => ?_)
  exact qu v d σ H1 σd S1 ι1 _ (hE.mono p1.pre p1.keep) p1.sto r1 (Wp.run h1 fun σ2 S2 _ v2 H2 ι2 p2 r2 h2 => h2 _ _ _ (.refl p2.sto) r2.1)
/-- name = value -/
theorem ds_set (i : Nat) {x : Str} {pos' : Pos} (hN : X.N.Nodup) (he : DE X E e f) (hi : X.N[i]? = some x := by rfl) (hx : Loc X.env.scope x := by first | exact Or.inl rfl | exact Or.inr rfl) (hs : swapsWith e (some (.Name x pos')) pos.line X.env = pure false := by rfl)
    (hf : X.fn x = true ∨ X.env.scope.names.lookup x = some .local := by first | exact .inl rfl | exact .inr rfl) : DS X E (.Assign [.Name x pos'] e pos) (asgS f (nmG i)) := by
  obtain ⟨t, p, q⟩ := he
  refine ⟨_, ps_set hN hi hx p hs hf, fun σ H σd S ι N hE hS h => ?_⟩
  refine q σ H σd S ι _ hE hS (Wp.run h fun d S1 _ v H1 ι1 p1 r1 h1 => ?_)
  exact h1 _ _ _ (.refl p1.sto) ((hE.mono p1.pre p1.keep).set i r1)
theorem ds_par {i j : Nat} {x y : Str} {px py pt : Pos} {kt k2 pt2} (hc : X.calm = true) (hN : X.N.Nodup) (ha : DA X E [a, b] fs) (hi : X.N[i]? = some x := by rfl) (hj : X.N[j]? = some y := by rfl) (hij : i ≠ j := by decide)
    (hx : X.env.scope.names.lookup x = some .local := by rfl) (hy : X.env.scope.names.lookup y = some .local := by rfl)
    (hw : swappedStores [.Tuple [.Name x px, .Name y py] kt pt] (.Tuple [a, b] k2 pt2) X.env = pure (some [x, y]) := by rfl)
    (hs : swapsWithSole [.Tuple [.Name x px, .Name y py] kt pt] (.Tuple [a, b] k2 pt2) pos.line X.env = pure false := by rfl) :
    DS X E (.Assign [.Tuple [.Name x px, .Name y py] kt pt] (.Tuple [a, b] k2 pt2) pos) (parS [i, j] fs) := by
  obtain ⟨l, t, p, q⟩ := ha
  refine ⟨_, ps_par hc hN hi hj hij hx hy p hw hs, fun σ H σd S ι N hE hS h => ?_⟩
  refine q σ H σd S ι _ hE hS (Wp.run h fun d S1 e1 v H1 ι1 p1 r1 h1 => ?_)
  have hl := l _ _ _ _ e1
  cases r1 with
  | nil => cases hl
  | cons ra rs =>
    cases rs with
    | nil => cases hl
    | cons rb rt =>
      cases rt with
      | cons _ _ => cases hl
      | nil => exact ⟨_, _, rfl, h1 _ _ _ (.refl p1.sto) (((hE.mono p1.pre p1.keep).set i ra).set j rb)⟩
end
end DV

set_option maxHeartbeats 4000000
/-! Loops, comprehensions, what is walked. -/
namespace DV
open PySem PySem.Spec PyProof.Rows L2

/-- J walks the items xs, from the heap H0 on -/
structure WalkR (K : PySem.W.Frag) (H0 : Hp) (J : L2.It) (xs : List D) : Prop where
  len : xs.length ≤ sizeLine
  go : ∀ i H, Keep H0 H → i < xs.length → J.go i H
  stop : ∀ H, Keep H0 H → J.stop xs.length H
  yld : ∀ i H v H' x, Keep H0 H → xs[i]? = some x → J.yld i H v H' → KeepA H H' ∧ (∀ (b : Addr) (vs : MO), H b = some vs.ho → H' b = some vs.ho) ∧ (∀ b, H b ≠ none → H' b ≠ none) ∧ ∀ ι, Rd K ι H' v x
theorem WalkR.keep {K : PySem.W.Frag} {H0 H1 : Hp} {J : L2.It} {xs : List D} (w : WalkR K H0 J xs) (k : Keep H0 H1) : WalkR K H1 J xs :=
  ⟨w.len, fun i H q => w.go i H (k.trans q), fun H q => w.stop H (k.trans q), fun i H v H' x q => w.yld i H v H' x (k.trans q)⟩
def DI (X : Cx) (E : XK) (tg iter : Expr) (f : DV.It) : Prop := ∃ wi, PI X tg iter wi ∧ ∀ σ H σd S ι R, EnR X.K ι H σ σd → StR X.K ι H S → Wp X.K X.mg E ι H (fun _ H' J xs => WalkR X.K H' J xs) (f σd S) R → wi σ H R

section
variable {X : Cx} {E : XK} {k : Nat} {e a b c : Expr} {f g h : Ex} {es : List Expr} {fs : Ax} {pos : Pos}
theorem wipe_wipe (σ : L2.St) (vs : List Nat) : wipe (wipe σ vs) vs = wipe σ vs := by
  apply List.ext_getElem?
  intro j
  by_cases hj : j ∈ vs
  · by_cases hl : j < σ.length
    · rw [wipe_get hj (by rw [wipe_length]; exact hl), wipe_get hj hl]
    · rw [List.getElem?_eq_none (by rw [wipe_length, wipe_length]; omega), List.getElem?_eq_none (by rw [wipe_length]; omega)]
  · rw [wipe_out hj]
theorem drop_cons {α : Type} {xs : List α} {i : Nat} (hi : i < xs.length) : xs.drop i = xs[i] :: xs.drop (i + 1) := List.drop_eq_getElem_cons hi
/-- for target in iter: body -/
theorem ds_for {vs : List Nat} {tg iter : Expr} {body : List Stmt} {it : DV.It} {gg : Tg} {u : Sx} (o : Okx k X E) (hi : DI X E tg iter it) (hg : DG X E vs tg gg) (hb : DSs X E body u) (hs : ∀ x, foldedSetIterable iter X.env x = pure x := by intro _; rfl) :
    DS X E (.For tg iter body [] pos) (forS it gg u) := by
  obtain ⟨wi, p, q⟩ := hi
  obtain ⟨t, pt, qt⟩ := hg
  obtain ⟨tb, pb, qb⟩ := hb
  refine ⟨_, ps_for o.own o.calm p pt pb hs, fun σ H σd S ι N hE hS h => ?_⟩
  refine q σ H σd S ι _ hE hS (Wp.run h fun xs S1 _ J H1 ι1 p1 w h1 => ?_)
  refine ⟨fun i m σ' H' => m = xs.length - i ∧ i ≤ xs.length ∧ Keep H1 H' ∧ ∃ σd' S' ι', EnR X.K ι' H' σ' σd' ∧ StR X.K ι' H' S' ∧ WpF X.K X.mg E ι' H' (forL gg u (xs.drop i) σd' S') N,
    ⟨_, rfl, Nat.zero_le _, .refl _, σd, S1, ι1, hE.mono p1.pre p1.keep, p1.sto, by rw [List.drop_zero]; exact h1⟩, ?_⟩
  rintro i m σ' H' ⟨rfl, hle, kp, σd', S', ι', hE', hS', hw⟩
  by_cases hlt : i < xs.length
  · refine .inr ⟨w.go i H' kp hlt, fun σ2 H2 => i + 1 ≤ xs.length ∧ Keep H1 H2 ∧ ∃ σd' S' ι', EnR X.K ι' H2 σ2 σd' ∧ StR X.K ι' H2 S' ∧ WpF X.K X.mg E ι' H2 (forL gg u (xs.drop (i + 1)) σd' S') N,
      fun σ2 H2 ⟨z1, z2, z3⟩ => ⟨_, by omega, rfl, z1, z2, z3⟩, fun v H2 y => ?_⟩
    obtain ⟨k2, l2, n2, r2⟩ := w.yld i H' v H2 xs[i] kp (List.getElem?_eq_getElem hlt) y
    have pp : Post X.K ι' H' ι' H2 S' := ⟨List.prefix_refl _, k2, hS'.keep k2 l2 n2, fun b vs m q => ⟨l2 b (.lst vs) q, m⟩, n2⟩
    rw [drop_cons hlt] at hw
    have hw2 := WpF.re pp hw
    unfold forL at hw2
    refine qt v xs[i] σ' H2 σd' S' ι' _ (hE'.mono (List.prefix_refl _) k2) pp.sto (r2 ι') ?_
    cases hgx : gg xs[i] σd' S' with
    | no => rw [hgx] at hw2; exact hw2.elim
    | ex c S3 => rw [hgx] at hw2; exact hw2
    | ok σd3 S3 =>
      rw [hgx] at hw2
      intro σ3 H3 ι3 p3 r3
      refine qb σ3 H3 σd3 S3 ι3 _ r3.1 p3.sto ?_
      have hw3 := WpF.re p3 hw2
      simp only at hw3
      have nxt : ∀ σd4 S4, WpF X.K X.mg E ι3 H3 (forL gg u (xs.drop (i + 1)) σd4 S4) N → ∀ σ4 H4 ι4, Post X.K ι3 H3 ι4 H4 S4 → EnR X.K ι4 H4 σ4 σd4 →
          i + 1 ≤ xs.length ∧ Keep H1 H4 ∧ ∃ σd' S' ι', EnR X.K ι' H4 σ4 σd' ∧ StR X.K ι' H4 S' ∧ WpF X.K X.mg E ι' H4 (forL gg u (xs.drop (i + 1)) σd' S') N := fun σd4 S4 hz σ4 H4 ι4 p4 r4 =>
        ⟨hlt, ((kp.trans k2).trans p3.keep).trans p4.keep, σd4, S4, ι4, r4, p4.sto, WpF.re p4 hz⟩
      cases hu : u σd3 S3 with
      | nx σd4 S4 => rw [hu] at hw3; exact nxt _ _ hw3
      | ct σd4 S4 => rw [hu] at hw3; exact nxt _ _ hw3
      | bk σd4 S4 => rw [hu] at hw3; exact hw3
      | rt d S4 => rw [hu] at hw3; exact hw3
      | ex c S4 => rw [hu] at hw3; exact hw3
      | no => rw [hu] at hw3; exact hw3.elim
  · have hi : i = xs.length := by omega
    subst hi
    refine .inl ⟨w.stop H' kp, ?_⟩
    rw [List.drop_length] at hw
    exact hw _ _ _ (.refl hS') hE'
/-! ### comprehensions -/
/-- the tests of a comprehension -/
def DTs (X : Cx) (E : XK) (es : List Expr) (f : Tx) : Prop := ∃ t, PTs X es t ∧ ∀ σ H σd S ι Q, EnR X.K ι H σ σd → StR X.K ι H S → Wp X.K X.mg E ι H relB (f σd S) Q → t σ H Q
theorem dts_nil : DTs X E [] yesT := ⟨_, pts_nil, fun σ H σd S ι Q hE hS h => h _ _ _ (.refl hS) rfl⟩
theorem dts_one {ft : Tx} (h : DT X E c ft) : DTs X E [c] ft := by
  obtain ⟨t, p, q⟩ := h
  exact ⟨_, pts_one p, q⟩
theorem wipe_rel {K : PySem.W.Frag} {ι : List Addr} {H : Hp} {σ : L2.St} {σd : En} (h : EnR K ι H σ σd) : ∀ vs : List Nat, EnR K ι H (wipe σ vs) (wipeD σd vs)
  | [] => h
  | v :: vs => by
    have ih := wipe_rel h vs
    unfold wipe wipeD
    refine ⟨by rw [List.length_set, List.length_set, ih.len], fun j d e => ?_⟩
    by_cases hj : v = j
    · subst hj
      by_cases hl : v < (wipeD σd vs).length
      · rw [List.getElem?_set_self hl] at e; cases e
      · rw [List.getElem?_eq_none (by rw [List.length_set]; omega)] at e; cases e
    · rw [List.getElem?_set_ne hj] at e ⊢
      exact ih.at_ j d e
/-- one reading for every frame of a block -/
theorem uni_e {e : Expr} {f : Ex} {scope : Scope} (h : ∀ (s : Shared) (H : Hp) (C : Addr) (cl : List (Str × Addr)) (fp : List Addr), DE (X.blk s H scope (compEnvC scope cl C X.env) fp) E0 e f) :
    ∃ t, (∀ (s : Shared) (H : Hp) (C : Addr) (cl : List (Str × Addr)) (fp : List Addr), PE (X.blk s H scope (compEnvC scope cl C X.env) fp) e t) ∧
      ∀ σ H σd S ι Q, EnR X.K ι H σ σd → StR X.K ι H S → Wp X.K X.mg E0 ι H (relD X.K) (f σd S) Q → t σ H Q := by
  refine ⟨fun σ H Q => ∀ (s : Shared) (H1 : Hp) (C : Addr) (cl : List (Str × Addr)) (fp : List Addr), Classical.choose (h s H1 C cl fp) σ H Q, fun s H1 C cl fp => ?_, fun σ H σd S ι Q hE hS hw s H1 C cl fp => ?_⟩
  · exact ⟨fun pins s2 σ H Q I hq => (Classical.choose_spec (h s H1 C cl fp)).1.run pins s2 σ H Q I (hq s H1 C cl fp)⟩
  · exact (Classical.choose_spec (h s H1 C cl fp)).2 σ H σd S ι Q hE hS hw
theorem uni_t {es : List Expr} {f : Tx} {scope : Scope} (h : ∀ (s : Shared) (H : Hp) (C : Addr) (cl : List (Str × Addr)) (fp : List Addr), DTs (X.blk s H scope (compEnvC scope cl C X.env) fp) E0 es f) :
    ∃ t, (∀ (s : Shared) (H : Hp) (C : Addr) (cl : List (Str × Addr)) (fp : List Addr), PTs (X.blk s H scope (compEnvC scope cl C X.env) fp) es t) ∧
      ∀ σ H σd S ι Q, EnR X.K ι H σ σd → StR X.K ι H S → Wp X.K X.mg E0 ι H relB (f σd S) Q → t σ H Q := by
  refine ⟨fun σ H Q => ∀ (s : Shared) (H1 : Hp) (C : Addr) (cl : List (Str × Addr)) (fp : List Addr), Classical.choose (h s H1 C cl fp) σ H Q, fun s H1 C cl fp => ?_, fun σ H σd S ι Q hE hS hw s H1 C cl fp => ?_⟩
  · exact ⟨fun pins s2 σ H Q I hq => (Classical.choose_spec (h s H1 C cl fp)).1.run pins s2 σ H Q I (hq s H1 C cl fp)⟩
  · exact (Classical.choose_spec (h s H1 C cl fp)).2 σ H σd S ι Q hE hS hw
theorem uni_g {vs : List Nat} {tg : Expr} {g : Tg} {scope : Scope} (h : ∀ (s : Shared) (H : Hp) (C : Addr) (cl : List (Str × Addr)) (fp : List Addr), DG (X.blk s H scope (compEnvC scope cl C X.env) fp) E0 vs tg g) :
    ∃ t, (∀ (s : Shared) (H : Hp) (C : Addr) (cl : List (Str × Addr)) (fp : List Addr), PG (X.blk s H scope (compEnvC scope cl C X.env) fp) tg t) ∧
      ∀ v d σ H σd S ι Q, EnR X.K ι H σ σd → StR X.K ι H S → Rd X.K ι H v d → Wp X.K X.mg E0 ι H (fun ι' H' σ' σd' => EnR X.K ι' H' σ' σd' ∧ wipe σ' vs = wipe σ vs) (g d σd S) Q → t v σ H Q := by
  refine ⟨fun v σ H Q => ∀ (s : Shared) (H1 : Hp) (C : Addr) (cl : List (Str × Addr)) (fp : List Addr), Classical.choose (h s H1 C cl fp) v σ H Q, fun s H1 C cl fp => ?_, fun v d σ H σd S ι Q hE hS r hw s H1 C cl fp => ?_⟩
  · exact ⟨fun pins s2 σ H v u Q I rv hq => (Classical.choose_spec (h s H1 C cl fp)).1.run pins s2 σ H v u Q I rv (hq s H1 C cl fp)⟩
  · exact (Classical.choose_spec (h s H1 C cl fp)).2 v d σ H σd S ι Q hE hS r hw
/-- the reading of a comprehension -/
theorem lc_read {wi : TI} {g : TG} {tt : TT} {te : TE} {vs : List Nat} {it : DV.It} {gg : Tg} {ft : Tx} {fe : Ex}
    (q : ∀ σ H σd S ι R, EnR X.K ι H σ σd → StR X.K ι H S → Wp X.K X.mg E ι H (fun _ H' J xs => WalkR X.K H' J xs) (it σd S) R → wi σ H R)
    (qg : ∀ v d σ H σd S ι Q, EnR X.K ι H σ σd → StR X.K ι H S → Rd X.K ι H v d → Wp X.K X.mg E0 ι H (fun ι' H' σ' σd' => EnR X.K ι' H' σ' σd' ∧ wipe σ' vs = wipe σ vs) (gg d σd S) Q → g v σ H Q)
    (qt : ∀ σ H σd S ι Q, EnR X.K ι H σ σd → StR X.K ι H S → Wp X.K X.mg E0 ι H relB (ft σd S) Q → tt σ H Q)
    (qe : ∀ σ H σd S ι Q, EnR X.K ι H σ σd → StR X.K ι H S → Wp X.K X.mg E0 ι H (relD X.K) (fe σd S) Q → te σ H Q)
    {σ : L2.St} {H : Hp} {σd : En} {S : Sto} {ι : List Addr} {Q : VK} (hE : EnR X.K ι H σ σd) (hS : StR X.K ι H S) (h : Wp X.K X.mg E ι H (relL X.K H) (lcX it vs gg ft fe σd S) Q) : tLc wi g tt te vs σ H Q := by
  refine q σ H σd S ι _ hE hS (Wp.bind0 h fun xs S1 _ J H1 ι1 p1 w h1 => ?_)
  intro Dl hD
  have hD0 : H Dl = none := by
    cases q0 : H Dl with
    | none => rfl
    | some u => exact absurd hD (p1.dom Dl (by rw [q0]; simp))
  have p2 : Post X.K ι H ι1 (upd H1 Dl (.lst [])) S1 := p1.trans (.new p1.sto hD)
  refine ⟨fun i m H' => m = xs.length - i ∧ i ≤ xs.length ∧ Keep H1 H' ∧ ∃ ws ds S' ι', Post X.K ι H ι' H' S' ∧ H' Dl = some (.lst ws) ∧ Dl ∉ ι' ∧ ws.length ≤ i ∧ RdAll X.K ι' H' ws ds ∧
      Wp X.K X.mg E ι H (relL X.K H) ((lcL gg ft fe (wipeD σd vs) (xs.drop i) S').bind fun es S4 => .ok (ds ++ es) S4) Q,
    ⟨_, rfl, Nat.zero_le _, .new hD, [], [], S1, ι1, p2, upd_same, p1.sto.notin hD, Nat.le_refl _, .nil, ?_⟩, ?_⟩
  · rw [List.drop_zero]
    cases hl : lcL gg ft fe (wipeD σd vs) xs S1 <;> (rw [hl] at h1; exact h1)
  rintro i m H' ⟨rfl, hle, kp, ws, ds, S', ι', pp, hDl, hn, hlen, rr, hw⟩
  by_cases hlt : i < xs.length
  · refine .inr ⟨w.go i H' kp hlt, fun H2 => i + 1 ≤ xs.length ∧ Keep H1 H2 ∧ ∃ ws ds S' ι', Post X.K ι H ι' H2 S' ∧ H2 Dl = some (.lst ws) ∧ Dl ∉ ι' ∧ ws.length ≤ i + 1 ∧ RdAll X.K ι' H2 ws ds ∧
        Wp X.K X.mg E ι H (relL X.K H) ((lcL gg ft fe (wipeD σd vs) (xs.drop (i + 1)) S').bind fun es S4 => .ok (ds ++ es) S4) Q,
      fun H2 ⟨z1, z2, z3⟩ => ⟨_, by omega, rfl, z1, z2, z3⟩, fun v H2 y => ?_⟩
    obtain ⟨k2, l2, n2, r2⟩ := w.yld i H' v H2 xs[i] kp (List.getElem?_eq_getElem hlt) y
    have p3 : Post X.K ι' H' ι' H2 S' := ⟨List.prefix_refl _, k2, pp.sto.keep k2 l2 n2, fun b vs m q => ⟨l2 b (.lst vs) q, m⟩, n2⟩
    have pp2 := pp.trans p3
    rw [drop_cons hlt] at hw
    unfold lcL at hw
    refine qg v xs[i] _ H2 (wipeD σd vs) S' ι' _ (wipe_rel (hE.mono pp2.pre pp2.keep) vs) pp2.sto (r2 ι') ?_
    cases hgx : gg xs[i] (wipeD σd vs) S' with
    | no => rw [hgx] at hw; exact hw.elim
    | ex c S3 => rw [hgx] at hw; exact hw.elim
    | ok σd3 S3 =>
      rw [hgx] at hw
      intro σ3 H3 ι3 p4 r4
      refine ⟨r4.2.trans (wipe_wipe σ vs), ?_⟩
      have pp3 := pp2.trans p4
      refine qt σ3 H3 σd3 S3 ι3 _ r4.1 p4.sto ?_
      simp only at hw
      cases hft : ft σd3 S3 with
      | no => rw [hft] at hw; exact hw.elim
      | ex c S3 => rw [hft] at hw; exact hw.elim
      | ok kk S4 =>
        rw [hft] at hw
        intro bb H4 ι4 p5 r5
        cases r5
        have pp4 := pp3.trans p5
        have dl4 := (p3.trans p4).trans p5
        have hD4 := dl4.frame Dl ws hn hDl
        simp only at hw
        cases kk with
        | false =>
          rw [if_neg Bool.false_ne_true] at hw ⊢
          exact ⟨hlt, (kp.trans dl4.keep), ws, ds, S4, ι4, pp4, hD4.1, hD4.2, by omega, rr.mono dl4.pre dl4.keep, hw⟩
        | true =>
          rw [if_pos rfl] at hw ⊢
          refine qe σ3 H4 σd3 S4 ι4 _ (r4.1.mono p5.pre p5.keep) p5.sto ?_
          cases hfe : fe σd3 S4 with
          | no => rw [hfe] at hw; exact hw.elim
          | ex c S3 => rw [hfe] at hw; exact hw.elim
          | ok d S5 =>
            rw [hfe] at hw
            intro y H5 ι5 p6 r6
            have pp5 := pp4.trans p6
            have dl5 := dl4.trans p6
            have hD5 := dl5.frame Dl ws hn hDl
            have hz := w.len
            refine ⟨ws, hD5.1, by omega, hlt, (kp.trans dl5.keep).trans (.list hD5.1), ws ++ [y], ds ++ [d], S5, ι5, pp5.fixNew hD5.1 hD5.2 hD0, upd_same, hD5.2, by rw [List.length_append]; show ws.length + 1 ≤ _; omega, ?_, ?_⟩
            · exact Paired.app (RdAll.mono (List.prefix_refl _) (.list hD5.1) (rr.mono dl5.pre dl5.keep)) (.cons (r6.mono (List.prefix_refl _) (.list hD5.1)) .nil)
            · simp only at hw
              cases hl : lcL gg ft fe (wipeD σd vs) (xs.drop (i + 1)) S5 with
              | no => rw [hl] at hw; exact hw
              | ex c S6 => rw [hl] at hw; exact hw
              | ok es S6 =>
                rw [hl] at hw
                simp only [bind_ok] at hw ⊢
                rw [List.append_assoc]
                exact hw
  · have hi : i = xs.length := by omega
    subst hi
    refine .inl ⟨w.stop H' kp, ?_⟩
    rw [List.drop_length] at hw
    simp only [lcL, bind_ok, List.append_nil] at hw
    exact hw _ _ _ pp ⟨Dl, ws, hD0, rfl, hDl, hn, Nat.le_trans hlen w.len, rr⟩
end
end DV

set_option maxHeartbeats 4000000
/-! Comprehensions as expressions, lists fixed, what is walked. -/
namespace DV
open PySem PySem.Spec PyProof.Rows L2
section
variable {X : Cx} {E : XK} {k : Nat} {e a b c : Expr} {f g h : Ex} {es : List Expr} {fs : Ax} {pos : Pos}
theorem dl_lc {elt tg iter : Expr} {ifs : List Expr} {scope : Scope} (own : List (Str × Nat)) {it : DV.It} {gg : Tg} {ft : Tx} {fe : Ex} (o : Okx k X E) (hi : DI X E tg iter it)
    (hg : ∀ (s : Shared) (H : Hp) (C : Addr) (cl : List (Str × Addr)) (fp : List Addr), Okx k (X.blk s H scope (compEnvC scope cl C X.env) fp) E0 → DG (X.blk s H scope (compEnvC scope cl C X.env) fp) E0 (own.map (·.2)) tg gg)
    (ht : ∀ (s : Shared) (H : Hp) (C : Addr) (cl : List (Str × Addr)) (fp : List Addr), Okx k (X.blk s H scope (compEnvC scope cl C X.env) fp) E0 → DTs (X.blk s H scope (compEnvC scope cl C X.env) fp) E0 ifs ft)
    (he : ∀ (s : Shared) (H : Hp) (C : Addr) (cl : List (Str × Addr)) (fp : List Addr), Okx k (X.blk s H scope (compEnvC scope cl C X.env) fp) E0 → DE (X.blk s H scope (compEnvC scope cl C X.env) fp) E0 elt fe)
    (ok : BlkOk X.N X.env.scope scope own := by exact blkOk_by (by rfl)) (hs : ∀ x, foldedSetIterable iter X.env x = pure x := by intro _; rfl) :
    DL X E (.ListComp elt [⟨tg, iter, ifs, 0⟩] scope pos) (lcX it (own.map (·.2)) gg ft fe) := by
  obtain ⟨wi, p, q⟩ := hi
  obtain ⟨tg', pg, qg⟩ := uni_g fun s H C cl fp => hg s H C cl fp (o.blk s H scope _ fp)
  obtain ⟨tt, pt, qt⟩ := uni_t fun s H C cl fp => ht s H C cl fp (o.blk s H scope _ fp)
  obtain ⟨te, pe, qe⟩ := uni_e fun s H C cl fp => he s H C cl fp (o.blk s H scope _ fp)
  exact ⟨_, pe_lc o.calm o.nd p ok pg pt pe hs, fun σ H σd S ι Q hE hS h => lc_read q qg qt qe hE hS h⟩
/-- name = [..] on one line, fixed or not -/
def tFzS (t : TS) : TS := fun N σ H => t { N with nx := fun σ' H' => ∃ a xs, H' a = some (.lst xs) ∧ ∀ o, N.nx σ' (upd H' a (.frz o (.lst xs))) } σ H
theorem ps_frz {st : Stmt} {t : TS} (p : PS X st t) : PS X st (tFzS t) := by
  refine ⟨fun pins s σ H N I h => thn (p.run pins s σ H _ I h) fun fl s1 q => ?_⟩
  cases fl with
  | next =>
    obtain ⟨σ', H', I1, a, xs, ha, q⟩ := q
    obtain ⟨o, I2⟩ := I1.lock ha trivial
    exact ⟨σ', _, I2, q o⟩
  | brk => exact q
  | cont => exact q
  | ret v => exact q
theorem ds_setLcF (i : Nat) {y : Str} {py spos : Pos} {elt tg iter : Expr} {ifs : List Expr} {scope : Scope} (own : List (Str × Nat)) {it : DV.It} {gg : Tg} {ft : Tx} {fe : Ex} (o : Okx k X E) (hi : DI X E tg iter it)
    (hg : ∀ (s : Shared) (H : Hp) (C : Addr) (cl : List (Str × Addr)) (fp : List Addr), Okx k (X.blk s H scope (compEnvC scope cl C X.env) fp) E0 → DG (X.blk s H scope (compEnvC scope cl C X.env) fp) E0 (own.map (·.2)) tg gg)
    (ht : ∀ (s : Shared) (H : Hp) (C : Addr) (cl : List (Str × Addr)) (fp : List Addr), Okx k (X.blk s H scope (compEnvC scope cl C X.env) fp) E0 → DTs (X.blk s H scope (compEnvC scope cl C X.env) fp) E0 ifs ft)
    (he : ∀ (s : Shared) (H : Hp) (C : Addr) (cl : List (Str × Addr)) (fp : List Addr), Okx k (X.blk s H scope (compEnvC scope cl C X.env) fp) E0 → DE (X.blk s H scope (compEnvC scope cl C X.env) fp) E0 elt fe)
    (hy : X.N[i]? = some y := by rfl) (hyl : X.env.scope.names.lookup y = some .local := by rfl)
    (hsw : swapsWith (.ListComp elt [⟨tg, iter, ifs, 0⟩] scope pos) (some (.Name y py)) spos.line X.env = pure true := by exact sw_true rfl rfl rfl (by decide +kernel))
    (ok : BlkOk X.N X.env.scope scope own := by exact blkOk_by (by rfl)) (hs : ∀ x, foldedSetIterable iter X.env x = pure x := by intro _; rfl) :
    DS X E (.Assign [.Name y py] (.ListComp elt [⟨tg, iter, ifs, 0⟩] scope pos) spos) (asgS (lcF it (own.map (·.2)) gg ft fe) (nmG i)) := by
  obtain ⟨wi, p, q⟩ := hi
  obtain ⟨tg', pg, qg⟩ := uni_g fun s H C cl fp => hg s H C cl fp (o.blk s H scope _ fp)
  obtain ⟨tt, pt, qt⟩ := uni_t fun s H C cl fp => ht s H C cl fp (o.blk s H scope _ fp)
  obtain ⟨te, pe, qe⟩ := uni_e fun s H C cl fp => he s H C cl fp (o.blk s H scope _ fp)
  refine ⟨_, ps_frz (ps_setLc o.calm o.nd hy hyl hsw p ok pg pt pe hs), fun σ H σd S ι N hE hS h => ?_⟩
  refine (lc_read q qg qt qe hE hS ?_ : tLc wi tg' tt te (own.map (·.2)) σ H (fun x H1 => ∃ a xs, H1 a = some (.lst xs) ∧ ∀ o, N.nx (σ.set i (some x)) (upd H1 a (.frz o (.lst xs)))))
  unfold asgS lcF frzE at h
  cases hl : lcX it (own.map (·.2)) gg ft fe σd S with
  | no => rw [hl] at h; exact h.elim
  | ex c S1 => rw [hl] at h; exact h
  | ok ds S1 =>
    rw [hl] at h
    intro v H1 ι1 p1 r1
    cases hp : pysOf ds with
    | none => simp only [frz, bind_ok, hp, run_no] at h; exact h.elim
    | some ps =>
      simp only [frz, bind_ok, hp, run_ok, nmG] at h
      obtain ⟨a, xs, rfl, ha, z⟩ := frz_post p1 r1 hp
      refine ⟨a, xs, ha, fun o => h _ _ _ (z o).1 ?_⟩
      exact (hE.mono p1.pre (z o).1.keep).set i (.py (z o).2)
theorem ds_setLcM (i : Nat) {y : Str} {py spos : Pos} {elt tg iter : Expr} {ifs : List Expr} {scope : Scope} (own : List (Str × Nat)) {it : DV.It} {gg : Tg} {ft : Tx} {fe : Ex} (o : Okx k X E) (hi : DI X E tg iter it)
    (hg : ∀ (s : Shared) (H : Hp) (C : Addr) (cl : List (Str × Addr)) (fp : List Addr), Okx k (X.blk s H scope (compEnvC scope cl C X.env) fp) E0 → DG (X.blk s H scope (compEnvC scope cl C X.env) fp) E0 (own.map (·.2)) tg gg)
    (ht : ∀ (s : Shared) (H : Hp) (C : Addr) (cl : List (Str × Addr)) (fp : List Addr), Okx k (X.blk s H scope (compEnvC scope cl C X.env) fp) E0 → DTs (X.blk s H scope (compEnvC scope cl C X.env) fp) E0 ifs ft)
    (he : ∀ (s : Shared) (H : Hp) (C : Addr) (cl : List (Str × Addr)) (fp : List Addr), Okx k (X.blk s H scope (compEnvC scope cl C X.env) fp) E0 → DE (X.blk s H scope (compEnvC scope cl C X.env) fp) E0 elt fe)
    (hy : X.N[i]? = some y := by rfl) (hyl : X.env.scope.names.lookup y = some .local := by rfl)
    (hsw : swapsWith (.ListComp elt [⟨tg, iter, ifs, 0⟩] scope pos) (some (.Name y py)) spos.line X.env = pure true := by exact sw_true rfl rfl rfl (by decide +kernel))
    (ok : BlkOk X.N X.env.scope scope own := by exact blkOk_by (by rfl)) (hs : ∀ x, foldedSetIterable iter X.env x = pure x := by intro _; rfl) :
    DS X E (.Assign [.Name y py] (.ListComp elt [⟨tg, iter, ifs, 0⟩] scope pos) spos) (asgS (lcM it (own.map (·.2)) gg ft fe) (nmG i)) := by
  obtain ⟨wi, p, q⟩ := hi
  obtain ⟨tg', pg, qg⟩ := uni_g fun s H C cl fp => hg s H C cl fp (o.blk s H scope _ fp)
  obtain ⟨tt, pt, qt⟩ := uni_t fun s H C cl fp => ht s H C cl fp (o.blk s H scope _ fp)
  obtain ⟨te, pe, qe⟩ := uni_e fun s H C cl fp => he s H C cl fp (o.blk s H scope _ fp)
  refine ⟨_, ps_setLc o.calm o.nd hy hyl hsw p ok pg pt pe hs, fun σ H σd S ι N hE hS h => ?_⟩
  refine (lc_read q qg qt qe hE hS ?_ : tLc wi tg' tt te (own.map (·.2)) σ H (fun x H1 => N.nx (σ.set i (some x)) H1))
  unfold asgS lcM thwE at h
  cases hl : lcX it (own.map (·.2)) gg ft fe σd S with
  | no => rw [hl] at h; exact h.elim
  | ex c S1 => rw [hl] at h; exact h
  | ok ds S1 =>
    rw [hl] at h
    intro v H1 ι1 p1 r1
    simp only [thw, bind_ok, run_ok, nmG] at h
    obtain ⟨ι2, p2, r2⟩ := thw_post p1 r1
    exact h _ _ _ p2 ((hE.mono p2.pre p2.keep).set i r2)

theorem EnR.setD {K : PySem.W.Frag} {ι : List Addr} {H : Hp} {σ : L2.St} {σd : En} {v : V} {d : D} {i : Nat} (h : EnR K ι H σ σd) (e : σ[i]? = some (some v)) (r : Rd K ι H v d) : EnR K ι H σ (σd.set i (some d)) := by
  refine ⟨by rw [List.length_set, h.len], fun j d' e' => ?_⟩
  by_cases hj : i = j
  · subst hj
    have hlt : i < σd.length := by
      have := (List.getElem?_eq_some_iff.mp e').1
      simpa using this
    rw [List.getElem?_set_self hlt] at e'
    cases e'
    exact ⟨v, e, r⟩
  · rw [List.getElem?_set_ne hj] at e'
    exact h.at_ j d' e'

/-! ### a list of a slot is fixed -/
def tFix (t : TS) : TS := fun N σ H => ∃ a xs, H a = some (.lst xs) ∧ (xs.length ≤ sizeLine → ∀ o, t N σ (upd H a (.frz o (.lst xs))))
theorem pss_fix {sts : List Stmt} {t : TS} (p : PSs X sts t) : PSs X sts (tFix t) := by
  refine ⟨fun pins s σ H N I ⟨a, xs, ha, h⟩ => ?_⟩
  obtain ⟨o, I2⟩ := I.lock ha trivial
  exact p.run pins s σ _ N I2 (h (I.hok a _ ha).1 o)
theorem fix_post {ι : List Addr} {H : Hp} {S : Sto} {n : Nat} {a : Addr} {vs : List V} {o : HO} (hS : StR X.K ι H S) (e : ι[n]? = some a) (ha : H a = some (.lst vs)) : Post X.K ι H ι (upd H a o) (S.set n .gone) :=
  .wr e ha (hS.fix e ha)
theorem dss_fix {sts : List Stmt} {w : Sx} (i : Nat) (h : DSs X E sts w) : DSs X E sts (seqS (fixS i) w) := by
  obtain ⟨t, p, q⟩ := h
  refine ⟨_, pss_fix p, fun σ H σd S ι N hE hS h => ?_⟩
  unfold seqS fixS at h
  cases hi : σd[i]? with
  | none => rw [hi] at h; exact h.elim
  | some od =>
    cases od with
    | none => rw [hi] at h; exact h.elim
    | some d =>
      cases d with
      | py d => rw [hi] at h; exact h.elim
      | raw d => rw [hi] at h; exact h.elim
      | obj n =>
        rw [hi] at h
        simp only at h
        cases hn : S[n]? with
        | none => rw [hn] at h; exact h.elim
        | some u =>
          cases u with
          | gone => rw [hn] at h; exact h.elim
          | tab _ _ => rw [hn] at h; exact h.elim
          | dt _ => rw [hn] at h; exact h.elim
          | dk _ => rw [hn] at h; exact h.elim
          | ins _ _ => rw [hn] at h; exact h.elim
          | tpl _ => rw [hn] at h; exact h.elim
          | lst ds =>
            rw [hn] at h
            simp only at h
            cases hp : pysOf ds with
            | none => rw [hp] at h; exact h.elim
            | some ps =>
              rw [hp] at h
              simp only at h
              obtain ⟨v, e1, r⟩ := hE.at_ i _ hi
              cases r with
              | obj en =>
                rename_i a
                cases hS.at_ _ _ _ hn en with
                | lst ha rr =>
                  rename_i vs
                  refine ⟨a, vs, ha, fun hz o => ?_⟩
                  have pp := fix_post (X := X) (o := .frz o (.lst vs)) hS en ha
                  refine q σ _ _ _ ι N ((hE.mono pp.pre pp.keep).setD e1 (.py (.lst (.inl ⟨o, upd_same⟩) ?_ ?_))) pp.sto (WpF.re pp h)
                  · rw [pysOf_length hp, ← rr.length]
                    exact hz
                  · exact (RdAll.pys rr hp).keep pp.keep
/-! ### what is walked -/
theorem pi_or {tg iter : Expr} {w1 w2 : TI} (h1 : PI X tg iter w1) (h2 : PI X tg iter w2) : PI X tg iter (fun σ H R => w1 σ H R ∨ w2 σ H R) :=
  ⟨fun pins s σ H R I h => h.elim (fun h => h1.run pins s σ H R I h) fun h => h2.run pins s σ H R I h⟩
theorem get_pys {ds : List PyData} {i : Nat} {x : D} (h : (ds.map D.py)[i]? = some x) : ∃ d, ds[i]? = some d ∧ x = .py d := by
  rw [List.getElem?_map, Option.map_eq_some_iff] at h
  obtain ⟨d, h1, h2⟩ := h
  exact ⟨d, h1, h2.symm⟩
theorem PpAll.getR {K : PySem.W.Frag} {H : Hp} : ∀ {vs : List V} {ds : List PyData} {i : Nat} {d : PyData}, PpAll K H vs ds → ds[i]? = some d → ∃ v, vs[i]? = some v ∧ Pp K H v d
  | _, _, _, _, .nil, e => by simp at e
  | _, _, 0, _, .cons r _, e => by simp at e; subst e; exact ⟨_, rfl, r⟩
  | _, _, i + 1, y, .cons r t, e => by
    obtain ⟨x, h1, h2⟩ := PpAll.getR (i := i) t (by simpa using e)
    exact ⟨x, by simpa using h1, h2⟩
theorem walk_list {K : PySem.W.Frag} {H0 : Hp} {a : Addr} {xs : List V} {ds : List PyData} (hf : FL K H0 a xs) (hz : ds.length ≤ sizeLine) (al : PpAll K H0 xs ds) : WalkR K H0 (Itl K a) (ds.map D.py) := by
  have hl := al.length
  refine ⟨by rw [List.length_map]; exact hz, fun i H kp hi => ?_, fun H kp => ?_, fun i H v H' x kp hx y => ?_⟩
  · rw [List.length_map, ← hl] at hi
    exact ⟨xs, xs[i], (hf.keep kp).sq, List.getElem?_eq_getElem hi⟩
  · exact ⟨xs, (hf.keep kp).sq, by rw [List.length_map, hl]; exact Nat.le_refl _⟩
  · obtain ⟨e, y⟩ := y
    subst e
    obtain ⟨d, hd, rfl⟩ := get_pys hx
    obtain ⟨w, hw, pw⟩ := al.getR hd
    have := y xs (hf.keep kp).sq
    rw [hw] at this
    cases this
    exact ⟨.refl _, fun _ _ h => h, fun _ h => h, fun ι => .py (pw.keep kp)⟩
theorem walk_tup {K : PySem.W.Frag} {H0 : Hp} {a : Addr} {xs : List V} {ds : List PyData} (hf : SqT K H0 a xs) (hz : ds.length ≤ sizeLine) (al : PpAll K H0 xs ds) : WalkR K H0 (Itt K a) (ds.map D.py) := by
  have hl := al.length
  refine ⟨by rw [List.length_map]; exact hz, fun i H kp hi => ?_, fun H kp => ?_, fun i H v H' x kp hx y => ?_⟩
  · rw [List.length_map, ← hl] at hi
    exact ⟨xs, xs[i], sqT_keep kp hf, List.getElem?_eq_getElem hi⟩
  · exact ⟨xs, sqT_keep kp hf, by rw [List.length_map, hl]; exact Nat.le_refl _⟩
  · obtain ⟨e, y⟩ := y
    subst e
    obtain ⟨d, hd, rfl⟩ := get_pys hx
    obtain ⟨w, hw, pw⟩ := al.getR hd
    have := y xs (sqT_keep kp hf)
    rw [hw] at this
    cases this
    exact ⟨.refl _, fun _ _ h => h, fun _ h => h, fun ι => .py (pw.keep kp)⟩
theorem di_seq {tg : Expr} (ha : DE X E e f) : DI X E tg e (seqI f) := by
  obtain ⟨t, p, q⟩ := ha
  refine ⟨_, pi_or (pi_list p) (pi_tup p), fun σ H σd S ι R hE hS h => ?_⟩
  cases hf : f σd S with
  | no => unfold seqI at h; rw [hf] at h; exact h.elim
  | ex c S1 =>
    unfold seqI at h; rw [hf] at h
    refine .inl (q σ H σd S ι _ hE hS ?_)
    rw [hf]
    exact h
  | ok d S1 =>
    unfold seqI at h
    rw [hf] at h
    simp only [bind_ok] at h
    cases d with
    | obj n => exact h.elim
    | raw n => exact h.elim
    | py d =>
      cases d with
      | list ds =>
        refine .inl (q σ H σd S ι _ hE hS ?_)
        rw [hf]
        intro v H1 ι1 p1 r1
        cases r1 with
        | py r =>
          cases r with
          | lst hf hz al => exact ⟨_, rfl, ⟨_, hf.sq⟩, h _ _ _ p1 (walk_list hf hz al)⟩
      | tuple ds =>
        refine .inr (q σ H σd S ι _ hE hS ?_)
        rw [hf]
        intro v H1 ι1 p1 r1
        cases r1 with
        | py r =>
          cases r with
          | tup hf hz al => exact ⟨_, rfl, ⟨_, hf.sq⟩, h _ _ _ p1 (walk_tup hf.sq hz al)⟩
      | _ => exact h.elim
theorem di_txt {tg : Expr} (ha : DE X E e f) : DI X E tg e (txtI f) := by
  obtain ⟨t, p, q⟩ := ha
  refine ⟨_, pi_str p, fun σ H σd S ι R hE hS h => ?_⟩
  refine q σ H σd S ι _ hE hS (Wp.bind0 h fun d S1 _ v H1 ι1 p1 r1 h1 => ?_)
  cases d with
  | obj n => exact h1.elim
  | raw n => exact h1.elim
  | py d =>
    cases d with
    | str x =>
      simp only at h1
      split at h1
      · rename_i hz
        refine ⟨x, str_of r1, h1 _ _ _ p1 ⟨?_, fun i H kp hi => ?_, fun H kp => ?_, fun i H v H' y kp hx yy => ?_⟩⟩
        · rw [List.length_map, sizeLine_eq]
          exact hz
        · show i < x.cps.size
          simpa using hi
        · show x.cps.size ≤ _
          simp
        · obtain ⟨e, c, hc, rfl⟩ := yy
          subst e
          rw [List.getElem?_map, Option.map_eq_some_iff] at hx
          obtain ⟨c', h1, h2⟩ := hx
          subst h2
          rw [Array.getElem?_toList, hc] at h1
          cases h1
          exact ⟨.refl _, fun _ _ h => h, fun _ h => h, fun ι => .py (.str _)⟩
      · exact h1.elim
    | _ => exact h1.elim
theorem rngV_get {lo : Int} {n i : Nat} {x : D} (h : (rngV lo n)[i]? = some x) : i < n ∧ x = .py (.int (lo + (i : Int))) := by
  have hl : i < n := by
    have := (List.getElem?_eq_some_iff.mp h).1
    unfold rngV at this
    simpa using this
  unfold rngV at h
  rw [List.getElem?_map, List.getElem?_range hl] at h
  cases h
  exact ⟨hl, rfl⟩
theorem rngV_len {lo : Int} {n : Nat} : (rngV lo n).length = n := by
  unfold rngV
  simp
theorem walk_rng {K : PySem.W.Frag} {H0 : Hp} {lo : Int} {n : Nat} (hz : n ≤ sizeLine) : WalkR K H0 (Itr lo n) (rngV lo n) := by
  refine ⟨by rw [rngV_len]; exact hz, fun i H kp hi => ?_, fun H kp => ?_, fun i H v H' x kp hx y => ?_⟩
  · rw [rngV_len] at hi
    exact hi
  · show n ≤ _
    rw [rngV_len]
    exact Nat.le_refl _
  · obtain ⟨e, y⟩ := y
    subst e y
    obtain ⟨_, rfl⟩ := rngV_get hx
    exact ⟨.refl _, fun _ _ h => h, fun _ h => h, fun ι => .py (.int _)⟩
theorem toNat_line {j : Int} (h : j ≤ 16777216) : j.toNat ≤ sizeLine := by
  rw [sizeLine_eq]
  omega
variable {p : Pos}
theorem di_rng1 {tg : Expr} (hm : X.mg "range" = none) (ha : DE X E a f) (hg : Gl X "range" := by rfl) (hs : starEach [a] X.env = [(false, eval a X.env)] := by rfl) : DI X E tg (.Call (.Name "range" p) [a] [] pos) (rng1I f) := by
  obtain ⟨t, pt, q⟩ := ha
  refine ⟨_, pi_range1 hg hm (pa_cons pt pa_nil hs) hs, fun σ H σd S ι R hE hS h => ?_⟩
  refine q σ H σd S ι _ hE hS (Wp.bind0 h fun d S1 _ v H1 ι1 p1 r1 h1 => ?_)
  split at h1
  · split at h1
    · rename_i hz
      refine ⟨_, by rw [int_of r1], hz.1, by have := hz.2; omega, h1 _ _ _ p1 (walk_rng (toNat_line hz.2))⟩
    · exact h1.elim
  · exact h1.elim
end
end DV

set_option maxHeartbeats 4000000
/-! The tuples that zip and enumerate give out have no dict. -/
namespace DV
open PySem
/-- the object there has no dict -/
def NoD (h : Heap) (T : Addr) : Prop := ∃ o, h.get? T = some o ∧ o.dict = none
section
variable {prog : Program} {w : World} {A : Around} {fp wr : List Addr} {n : Nat} {St : Nat → Heap → Prop} {I : Addr}
/-- a walk over tuples, each without a dict -/
structure WalksD (prog : Program) (w : World) (A : Around) (I : Addr) (fp wr : List Addr) (n : Nat) (Pt : Nat → Array Value → Prop) (St : Nat → Heap → Prop) (Mid : Nat → Addr → Heap → Prop) : Prop where
  base : WalksT prog w A I fp wr n Pt St Mid
  itemD : ∀ i (s : Shared) (Q : Option Value → Shared → Prop) (E : Value → Shared → Prop), i < n → St i s.heap →
    (∀ T vals h' tk, Pt i vals → s.heap.objs.size ≤ T → h'.IsTuple T vals → NoD h' T → Mid i T h' → (∀ b o, b ∉ wr → s.heap.get? b = some o → h'.get? b = some o) → Q (some (.ref T)) { s with heap := h', toks := tk }) →
    wpAny (model prog w) A (pyNext (.ref I)) Q E s
theorem WalksD.goes {elts : List Expr} {k : Nat} {pos : Pos} {Pt : Nat → Array Value → Prop} {Mid : Nat → Addr → Heap → Prop} (W : WalksD prog w A I fp wr n Pt St Mid) :
    GoesN prog w A (.Tuple elts k pos) I fp wr n (fun i h₀ v h => ∃ T vals, v = .ref T ∧ h₀.objs.size ≤ T ∧ Pt i vals ∧ h.IsTuple T vals ∧ NoD h T) St := by
  have G := GoesN.ofWalksT (elts := elts) (k := k) (pos := pos) W.base
  refine ⟨G.sub, G.frame, fun i s Q E hi st hQ => ?_, G.stops, G.self⟩
  refine wpAny_with_toks (n := s.toks) (Nat.le_refl _) (W.itemD i s _ _ hi st fun T vals h1 tk hP ge isT nd mid k1 htk => ⟨_, rfl, ?_⟩)
  refine W.base.go elts k pos i T { s with heap := h1, toks := tk } _ _ mid fun h2 st2 k2 => ?_
  have nw := W.base.apart i T h1 mid
  obtain ⟨ob, e1, e2⟩ := nd
  exact hQ _ h2 tk ⟨T, vals, rfl, ge, hP, isT.at fun o e => k2 T o nw e, ob, k2 T ob nw e1, e2⟩ st2 (fun b o hb e => k2 b o hb (k1 b o hb e)) htk
end
theorem away {h : Heap} {c : Addr} {o : Obj} (e : h.get? c = some o) : h.objs.size ≠ c := Nat.ne_of_gt (Heap.lt_size e)
section
variable {prog : Program} {w : World} {A : Around} {z TI TO i1 i2 i3 : Addr} {fp1 fp2 fp3 : List Addr} {n1 n2 n3 : Nat} {P1 P2 P3 : Nat → Value → Prop} {St1 St2 St3 : Nat → Heap → Prop}
theorem zip2_noD {elts : List Expr} {k : Nat} {pos : Pos} (S : ZipSep2 z TI TO i1 i2 fp1 fp2) (D1 : Draws prog w A.in1 i1 fp1 n1 P1 St1) (D2 : Draws prog w A.in1 i2 fp2 n2 P2 St2) :
    GoesN prog w A (.Tuple elts k pos) z (z :: TI :: TO :: (fp1 ++ fp2)) [z, TO, i1, i2] (min n1 n2) (fun i h₀ v h => ∃ T x y, v = .ref T ∧ h₀.objs.size ≤ T ∧ P1 i x ∧ P2 i y ∧ h.IsTuple T #[x, y] ∧ NoD h T)
      (fun i h => IsZip h z TI TO .none ∧ IsTupOf2 h TI (.ref i1) (.ref i2) ∧ (∃ a1 a2, IsTupOf2 h TO a1 a2) ∧ St1 i h ∧ St2 i h) := by
  have W := WalksT.zipD2 S D1 D2
  refine (WalksD.goes ⟨W, fun i s Q E hi st q => ?_⟩).mono fun i h₀ v h _ ⟨T, vals, ev, ge, ⟨x, y, hx, hy, evs⟩, isT, nd⟩ => ⟨T, x, y, ev, ge, hx, hy, evs ▸ isT, nd⟩
  obtain ⟨zz, ti, ⟨a1, a2, to⟩, s1, s2⟩ := st
  obtain ⟨_, e1⟩ := D1.live _ _ s1
  obtain ⟨_, e2⟩ := D2.live _ _ s2
  have l : i < n1 ∧ i < n2 := by omega
  refine wpAny_pyNext_zipD2_item S D1 D2 zz ti to s1 s2 l.1 l.2 fun x y h' tk px py zz' to' t1 t2 nw _ kp => ?_
  exact q _ #[x, y] h' tk ⟨x, y, px, py, rfl⟩ (Nat.le_refl _) ⟨_, nw, rfl, _, rfl⟩ ⟨_, nw, rfl⟩ ⟨zz', kp _ _ S.TIz S.TITO S.TIi1 S.TIi2 ti, ⟨_, _, to'⟩, t1, t2, away zz, away to, away e1, away e2⟩ fun b o hb e => by
    simp only [List.mem_cons, List.not_mem_nil, or_false, not_or] at hb
    exact kp b o hb.1 hb.2.1 hb.2.2.1 hb.2.2.2 e
theorem enum_noD {elts : List Expr} {k : Nat} {pos : Pos} {it : Addr} {fp : List Addr} {n : Nat} {P : Nat → Value → Prop} {St : Nat → Heap → Prop} (k₀ : Int) (D : Draws prog w A.in1 it fp n P St) (e : Addr) (hei : e ≠ it) (hef : e ∉ fp) (hif : it ∈ fp) :
    GoesN prog w A (.Tuple elts k pos) e (e :: fp) [e, it] n (fun i h₀ v h => ∃ T t x, v = .ref T ∧ h₀.objs.size ≤ T ∧ P i x ∧ h.IsTuple T #[.int (k₀ + (i : Int)) t, x] ∧ NoD h T) (fun i h => (∃ old, IsEnum h e it (k₀ + (i : Int)) old) ∧ St i h) := by
  have W := WalksT.enumFrom k₀ D e hei hef hif
  refine (WalksD.goes ⟨W, fun i s Q E hi st q => ?_⟩).mono fun i h₀ v h _ ⟨T, vals, ev, ge, ⟨t, x, hx, evs⟩, isT, nd⟩ => ⟨T, t, x, ev, ge, hx, evs ▸ isT, nd⟩
  obtain ⟨⟨old, he⟩, hs⟩ := st
  obtain ⟨_, e1⟩ := D.live _ _ hs
  refine wpAny_pyNext_enum_itemC D he hs hi hei hef fun x h' tk px ou hs' nw _ kp => ?_
  exact q _ #[.int (k₀ + (i : Int)) tk, x] h' (tk + 1) ⟨_, _, px, rfl⟩ (Nat.le_refl _) ⟨_, nw, rfl, _, rfl⟩ ⟨_, nw, rfl⟩ ⟨⟨_, ou⟩, hs', away he, away e1⟩ fun b o hb z => by
    simp only [List.mem_cons, List.not_mem_nil, or_false, not_or] at hb
    exact kp b o hb.1 hb.2 z
end
end DV

set_option maxHeartbeats 4000000
/-! zip, enumerate over lists, tuples, texts in any mix. -/
namespace DV
open PySem PySem.Spec PyProof.Rows L2

/-- a source that is walked -/
inductive SK where
  | lst (a : Addr)
  | tup (a : Addr)
  | txt (x : Str) (t : Tok)
def SK.src : SK → List Addr
  | .lst a => [a]
  | .tup a => [a]
  | .txt _ _ => []
def SK.st (k : SK) (it : Addr) (i : Nat) (h : Heap) : Prop := match k with
  | .lst a => h.IsListIter it a i
  | .tup a => h.IsTupleIter it a i
  | .txt x t => h.IsStrIter it (strIterType x) x t i
def SK.val : SK → Value
  | .lst a => .ref a
  | .tup a => .ref a
  | .txt x t => .str x t
def SK.ob : SK → Obj
  | .lst a => { cls := .type "list_iterator", data := .fields #[.ref a, .int 0 0] }
  | .tup a => { cls := .type "tuple_iterator", data := .fields #[.ref a, .int 0 0] }
  | .txt x t => { cls := .type (strIterType x), data := .fields #[.str x t, .int 0 0] }
/-- the source holds the items -/
def SK.ok (K : PySem.W.Frag) (H : Hp) : SK → List V → Prop
  | .lst a, xs => FL K H a xs
  | .tup a, xs => SqT K H a xs
  | .txt x _, xs => xs = x.cps.toList.map fun c => V.str ⟨#[c]⟩
def SK.hold (k : SK) (h : Heap) (its : List Value) : Prop := match k with
  | .lst a => h.IsList a its.toArray
  | .tup a => h.IsTuple a its.toArray
  | .txt _ _ => True
def SK.n (k : SK) (its : List Value) : Nat := match k with
  | .txt x _ => x.cps.size
  | _ => its.length
def SK.P (k : SK) (its : List Value) (i : Nat) (v : Value) : Prop := match k with
  | .txt x _ => ∃ c u, x.cps[i]? = some c ∧ v = .str ⟨#[c]⟩ u
  | _ => its.toArray[i]? = some v
theorem SK.ok.keep {K : PySem.W.Frag} {H H' : Hp} {k : SK} {xs : List V} (q : Keep H H') (h : k.ok K H xs) : k.ok K H' xs := by
  cases k with
  | lst a => exact FL.keep q h
  | tup a => exact sqT_keep q h
  | txt x t => exact h
theorem SK.draws {prog : Program} {w : World} {A : Around} (hh : A.handled = none) (k : SK) (it : Addr) (hne : ∀ a ∈ k.src, a ≠ it) (its : List Value) :
    Draws prog w A it (it :: k.src) (k.n its) (k.P its) (fun i h => k.st it i h ∧ k.hold h its) := by
  cases k with
  | lst a => exact Draws.list hh it a (hne a (by simp [SK.src])) its.toArray
  | tup a => exact Draws.tuple hh it a (hne a (by simp [SK.src])) its.toArray
  | txt x t =>
    have D := Draws.text (prog := prog) (w := w) hh it x t
    exact ⟨fun i h st => D.live i h st.1, fun i h h' st k => ⟨D.frame i h h' st.1 k, trivial⟩, fun i s Q E hi st hQ => D.item i s Q E hi st.1 fun x h' tk hP hs hb => hQ x h' tk hP ⟨hs, trivial⟩ hb, fun s Q E st hE => D.done s Q E st.1 hE⟩
theorem SK.begins (k : SK) (its : List Value) : Begins k.val k.ob fun h => k.hold h its := by
  cases k with
  | lst a => exact begins_list a its.toArray
  | tup a => exact begins_tuple a its.toArray
  | txt x t =>
    have B := begins_text x t
    exact ⟨B.iter, B.keeps, B.free⟩
/-- the state of a source's iterator hangs on that iterator alone -/
theorem SK.st_keep {k : SK} {it : Addr} {i : Nat} {h h' : Heap} (st : k.st it i h) (q : ∀ o, h.get? it = some o → h'.get? it = some o) : k.st it i h' := by
  cases k with
  | lst a => exact Heap.IsListIter.at st fun o e => q o e
  | tup a => exact Heap.IsTupleIter.at st fun o e => q o e
  | txt x t => obtain ⟨o, e, c, d⟩ := st; exact ⟨o, q o e, c, d⟩
theorem SK.st_obj {k : SK} {it : Addr} {i : Nat} {h : Heap} (st : k.st it i h) : ∃ o, h.get? it = some o ∧ ∀ v, o.data ≠ .cell v := by
  cases k with
  | lst a => obtain ⟨o, e, _, d⟩ := st; exact ⟨o, e, fun v z => by rw [d] at z; cases z⟩
  | tup a => obtain ⟨o, e, _, d⟩ := st; exact ⟨o, e, fun v z => by rw [d] at z; cases z⟩
  | txt x t => obtain ⟨o, e, _, d⟩ := st; exact ⟨o, e, fun v z => by rw [d] at z; cases z⟩
theorem SK.st0 (k : SK) {it : Addr} {h : Heap} (e : h.get? it = some k.ob) : k.st it 0 h := by
  cases k with
  | lst a => exact ⟨_, e, rfl, rfl⟩
  | tup a => exact ⟨_, e, rfl, rfl⟩
  | txt x t => exact ⟨_, e, rfl, rfl⟩
section
variable {X : Cx} {pins : List (Addr × Obj)} {σ : L2.St} {H : Hp} {s : Shared}
/-- what the source holds, in the heap as it stands -/
theorem SK.heap {k : SK} {xs : List V} (I : Inv X pins σ H s) (h : k.ok X.K H xs) : ∃ its : List Value, k.hold s.heap its ∧ k.n its = xs.length ∧ (∀ i v, k.P its i v → ∃ x, xs[i]? = some x ∧ RelV x v) ∧ ∀ a ∈ k.src, a < s.heap.objs.size := by
  cases k with
  | lst a =>
    obtain ⟨its, rv, p, z⟩ := I.list (FL.sq h)
    exact ⟨its, p.isList, rv.length.symm, fun i v e => by
      have e' : its[i]? = some v := by simpa [SK.P] using e
      exact Paired.getR rv e', fun b hb => by
      rw [show b = a by simpa [SK.src] using hb]
      exact p.lt⟩
  | tup a =>
    obtain ⟨its, rv, p, z⟩ := I.tuple h
    exact ⟨its, p, rv.length.symm, fun i v e => by
      have e' : its[i]? = some v := by simpa [SK.P] using e
      exact Paired.getR rv e', fun b hb => by
      rw [show b = a by simpa [SK.src] using hb]
      exact p.lt⟩
  | txt x t =>
    refine ⟨[], trivial, ?_, fun i v e => ?_, fun b hb => by simp [SK.src] at hb⟩
    · have h' : xs = _ := h
      rw [h']
      simp [SK.n]
    · obtain ⟨c, u, h1, h2⟩ := e
      have h' : xs = _ := h
      refine ⟨.str ⟨#[c]⟩, ?_, ⟨u, h2⟩⟩
      rw [h', List.getElem?_map, Array.getElem?_toList, h1]
      rfl
end
/-- an iterator whose i-th item is a new tuple of the values gv i -/
def ItN (Src : Hp → Prop) (n : Nat) (gv : Nat → List V) : L2.It :=
  ⟨fun i H => i < n ∧ Src H, fun i H v H' => ∃ T o, v = .ref T ∧ H T = none ∧ o.dict = none ∧ H' = upd H T (.frz o (.tup (gv i))), fun i H => i = n ∧ Src H⟩
/-- a turn of such an iterator, from the model's own walk -/
theorem turn_new {P : Program} {w : World} {K : PySem.W.Frag} {tg : Expr} {Src : Hp → Prop} {n : Nat} {gv : Nat → List V} {it : Addr} {fp : List Addr} {tn : Nat → Heap → Prop} (mem : it ∈ fp)
    (obj : ∀ i h, tn i h → ∀ b ∈ fp, ∃ o, h.get? b = some o ∧ ∀ v, o.data ≠ .cell v)
    (keep : ∀ i h h', tn i h → (∀ b ∈ fp, ∀ o, h.get? b = some o → h'.get? b = some o) → tn i h')
    (self : ∀ (A : Around) (i : Nat) (s : Shared) (Q : Value → Shared → Prop) (E : Value → Shared → Prop), tn i s.heap → Q (.ref it) s → wpAny (model P w) A (pyIter (.ref it)) Q E s)
    (small : ∀ i, (gv i).length ≤ sizeLine)
    (goes : ∀ (X : Cx), X.prog = P → X.w = w → X.K = K → X.A.handled = none → ∀ (i : Nat) (pins : List (Addr × Obj)) (s : Shared) (σ : L2.St) (H : Hp), Inv X pins σ H s → tn i s.heap → Src H →
      ∃ (fg wr : List Addr) (Y : Nat → Heap → Value → Heap → Prop) (St : Nat → Heap → Prop), GoesN P w X.A tg it fg wr n Y St ∧ St i s.heap ∧ (∀ b ∈ wr, b ∈ fp) ∧
        (∀ h v h', i < n → Y i h v h' → ∃ T us, v = .ref T ∧ h.objs.size ≤ T ∧ Vals (gv i) us ∧ h'.IsTuple T us.toArray ∧ NoD h' T) ∧ (∀ h', St (i + 1) h' → tn (i + 1) h')) :
    Turn P w K tg (ItN Src n gv) fp it tn where
  mem := mem
  obj := obj
  keep := keep
  self := self
  item := by
    intro X hP hw hK hc i pins s σ H E I hf st hg
    obtain ⟨hi, hsrc⟩ := hg
    obtain ⟨fg, wr, Y, St, W, hst, hwr, hY, hSt⟩ := goes X hP hw hK (I.ok.hd hc) i pins s σ H I st hsrc
    refine W.goes i s _ E hi hst fun v h' tk y st' hk htk => ?_
    obtain ⟨T, us, rfl, hT, rv, ⟨o, e1, e2, n1, e3⟩, o2, e4, e5⟩ := hY _ _ _ hi y
    cases e1.symm.trans e4
    have new : ObjOk X.prog X.w (upd H T (.frz o (.tup (gv i)))) h' T (.frz o (.tup (gv i))) := tupF_ok (small i) rv e1 e2 e3
    refine ⟨.ref T, _, I.turnedNew (t' := tk) (ch := wr) hk (fun b hb => hf b (hwr b hb)) hT new, rfl, ⟨T, o, rfl, I.hok.fresh hT, e5, rfl⟩, hSt _ st', fun b hb => ?_⟩
    obtain ⟨o, ho, _⟩ := obj i _ st b hb
    rw [upd_ne (Nat.ne_of_lt (Nat.lt_of_lt_of_le (Heap.lt_size ho) hT))]
    exact (hf b hb).1
  done := by
    intro X hP hw hK hc i pins s σ H E I hf st hg
    obtain ⟨hi, hsrc⟩ := hg
    subst hi
    obtain ⟨fg, wr, Y, St, W, hst, hwr, _, _⟩ := goes X hP hw hK (I.ok.hd hc) i pins s σ H I st hsrc
    exact W.stops s (fun s1 => Inv X pins σ H s1) E hst fun h' tk hk htk => I.turnedL (t' := tk) (ch := wr) hk fun b hb => hf b (hwr b hb)
/-- a value that is a source -/
def srcV (K : PySem.W.Frag) (H : Hp) (v : V) (xs : List V) : Prop :=
  (∃ a, v = .ref a ∧ FL K H a xs) ∨ (∃ a, v = .ref a ∧ SqT K H a xs) ∨ ∃ x, v = .str x ∧ xs = x.cps.toList.map fun c => V.str ⟨#[c]⟩
theorem srcV.sk {K : PySem.W.Frag} {H : Hp} {v : V} {xs : List V} {u : Value} (h : srcV K H v xs) (r : RelV v u) : ∃ k : SK, u = k.val ∧ k.ok K H xs := by
  rcases h with ⟨a, rfl, h⟩ | ⟨a, rfl, h⟩ | ⟨x, rfl, h⟩
  · cases r; exact ⟨.lst a, rfl, h⟩
  · cases r; exact ⟨.tup a, rfl, h⟩
  · obtain ⟨t, rfl⟩ := r; exact ⟨.txt x t, rfl, h⟩
theorem srcV.of {K : PySem.W.Frag} {ι : List Addr} {H : Hp} {S : Sto} {v : V} {d : D} {ds : List PyData} (r : Rd K ι H v d) (h : pyWalk S d = some ds) : ∃ xs, srcV K H v xs ∧ PpAll K H xs ds ∧ ds.length ≤ sizeLine := by
  cases r with
  | obj e => simp [pyWalk] at h
  | raw e => simp [pyWalk] at h
  | py r =>
    cases r with
    | lst hf hz al => cases h; exact ⟨_, .inl ⟨_, rfl, hf⟩, al, hz⟩
    | tup hf hz al => cases h; exact ⟨_, .inr (.inl ⟨_, rfl, hf.sq⟩), al, hz⟩
    | str x =>
      simp only [pyWalk] at h
      split at h
      · rename_i hz
        cases h
        refine ⟨_, .inr (.inr ⟨x, rfl, rfl⟩), ?_, ?_⟩
        · generalize x.cps.toList = l
          induction l with
          | nil => exact .nil
          | cons c l ih => exact .cons (.str _) ih
        · rw [List.length_map, sizeLine_eq]
          exact hz
      · cases h
    | _ => simp [pyWalk] at h

section
variable {X : Cx} {E : XK} {e a b c : Expr} {f g h : Ex} {pos p : Pos}
def iZipM (K : PySem.W.Frag) (ta : TA) : TI := fun σ H R => ta σ H fun vs H1 => ∃ v1 v2 xs ys, vs = [v1, v2] ∧ srcV K H1 v1 xs ∧ srcV K H1 v2 ys ∧
  ∀ Src : Hp → Prop, (∀ H', Keep H1 H' → Src H') → R (ItN Src (min xs.length ys.length) fun i => [xs.getD i .non, ys.getD i .non]) H1
theorem getD_of {xs : List V} {i : Nat} {x : V} (h : xs[i]? = some x) : xs.getD i .non = x := by
  rw [List.getD_eq_getElem?_getD, h]
  rfl
abbrev zipTn (k1 k2 : SK) (N : Addr) : Nat → Heap → Prop := fun i h => IsZip h (N + 4) (N + 2) (N + 3) .none ∧ IsTupOf2 h (N + 2) (.ref N) (.ref (N + 1)) ∧ (∃ a1 a2, IsTupOf2 h (N + 3) a1 a2) ∧ k1.st N i h ∧ k2.st (N + 1) i h
theorem turn_zip2 {P : Program} {w : World} {K : PySem.W.Frag} {elts : List Expr} {kk : Nat} {tpos : Pos} {k1 k2 : SK} {N : Addr} {xs ys : List V} (l1 : ∀ a ∈ k1.src, a < N) (l2 : ∀ a ∈ k2.src, a < N) :
    Turn P w K (.Tuple elts kk tpos) (ItN (fun H => k1.ok K H xs ∧ k2.ok K H ys) (min xs.length ys.length) fun i => [xs.getD i .non, ys.getD i .non]) [N + 4, N + 2, N + 3, N, N + 1] (N + 4) (zipTn k1 k2 N) := by
  have S := zip_sep2 (N := N) l1 l2
  refine turn_new (by simp) ?_ ?_ ?_ (fun i => by show 2 ≤ sizeLine; decide) ?_
  · intro i h st c hc
    obtain ⟨hz, hTI, ⟨x, y, hTO⟩, h1, h2⟩ := st
    have e' : c = N + 4 ∨ c = N + 2 ∨ c = N + 3 ∨ c = N ∨ c = N + 1 := by simpa using hc
    rcases e' with q | q | q | q | q
    · rw [q]; exact ⟨_, hz, fun v q => nomatch q⟩
    · rw [q]; exact ⟨_, hTI, fun v q => nomatch q⟩
    · rw [q]; exact ⟨_, hTO, fun v q => nomatch q⟩
    · rw [q]; exact SK.st_obj h1
    · rw [q]; exact SK.st_obj h2
  · intro i h h' st k
    obtain ⟨hz, hTI, ⟨x, y, hTO⟩, h1, h2⟩ := st
    exact ⟨k (N + 4) (by simp) _ hz, k (N + 2) (by simp) _ hTI, ⟨x, y, k (N + 3) (by simp) _ hTO⟩, SK.st_keep h1 fun o q => k N (by simp) o q, SK.st_keep h2 fun o q => k (N + 1) (by simp) o q⟩
  · exact fun A i s Q E st h => wpAny_pyIter_zip st.1 h
  · intro X' hP hw hK hh i pins' s' σ' H' I' st hsrc
    subst hP hw hK
    obtain ⟨its1', d1', n1', P1', l1'⟩ := SK.heap I' hsrc.1
    obtain ⟨its2', d2', n2', P2', l2'⟩ := SK.heap I' hsrc.2
    have W := zip2_noD (elts := elts) (k := kk) (pos := tpos) S (SK.draws (prog := X'.prog) (w := X'.w) (A := X'.A.in1) hh k1 N (fun a ha => Nat.ne_of_lt (l1 a ha)) its1') (SK.draws (A := X'.A.in1) hh k2 (N + 1) (fun a ha => Nat.ne_of_lt (Nat.lt_succ_of_lt (l2 a ha))) its2')
    rw [n1', n2'] at W
    refine ⟨_, _, _, _, W, ⟨st.1, st.2.1, st.2.2.1, ⟨st.2.2.2.1, d1'⟩, ⟨st.2.2.2.2, d2'⟩⟩, fun b hb => ?_, fun h v h' hi y => ?_, fun h' st' => ⟨st'.1, st'.2.1, st'.2.2.1, st'.2.2.2.1.1, st'.2.2.2.2.1⟩⟩
    · have e' : b = N + 4 ∨ b = N + 3 ∨ b = N ∨ b = N + 1 := by simpa using hb
      rcases e' with q | q | q | q <;> simp [q]
    · obtain ⟨T, x, y, rfl, hT, p1, p2, ht, nd⟩ := y
      obtain ⟨v1, e1, r1⟩ := P1' _ _ p1
      obtain ⟨v2, e2, r2⟩ := P2' _ _ p2
      refine ⟨T, [x, y], rfl, hT, ?_, ht, nd⟩
      rw [getD_of e1, getD_of e2]
      exact .cons r1 (.cons r2 .nil)
theorem pi_zipM {e2 : Expr} {ta : TA} {tpos : Pos} {elts : List Expr} {kk : Nat} (hg : Gl X "zip") (hm : X.mg "zip" = none) (hc : X.calm = true) (ha : PA X [e, e2] ta)
    (hs : starEach [e, e2] X.env = (false, eval e X.env) :: starEach [e2] X.env := by rfl) (hpl : (backTo pos (starEach [e2] X.env)).any (·.1) = false := by rfl) :
    PI X (.Tuple elts kk tpos) (.Call (.Name "zip" p) [e, e2] [] pos) (iZipM X.K ta) := by
  refine ⟨fun pins s σ H R I h => ?_⟩
  refine Call_ (ld_blt I hg hm PyProof.Rows.boot_zip (PyProof.Rows.callWith_type1 (thn (ha.run pos pins s σ H _ I h) fun us s1 ⟨vs, H1, I1, r1, q1⟩ => ?_) hs hpl))
  obtain ⟨v1, v2, xs, ys, rfl, h1, h2, q⟩ := q1
  obtain ⟨u1, u2, rfl, r1, r2⟩ := vals2 r1
  obtain ⟨k1, rfl, o1⟩ := h1.sk r1
  obtain ⟨k2, rfl, o2⟩ := h2.sk r2
  obtain ⟨its1, d1, n1, P1, l1⟩ := SK.heap I1 o1
  obtain ⟨its2, d2, n2, P2, l2⟩ := SK.heap I1 o2
  refine zip_begins2 (SK.begins k1 its1) (SK.begins k2 its2) d1 d2 fun h' hz hTI hTO hi1 hi2 hsz hk => wpAny_pyIter_zip hz ?_
  have I2 : Inv X pins σ H1 { s1 with heap := h' } := I1.kept (t' := s1.toks) hk
  have S := zip_sep2 (N := s1.heap.objs.size) l1 l2
  generalize hN : s1.heap.objs.size = N at *
  have fresh5 : ∀ c, c ∈ [N + 4, N + 2, N + 3, N, N + 1] → FpOk X pins H1 c := fun c hcm => by
    have e' : c = N + 4 ∨ c = N + 2 ∨ c = N + 3 ∨ c = N ∨ c = N + 1 := by simpa using hcm
    have hle : s1.heap.objs.size ≤ c := by
      rw [hN]
      rcases e' with z | z | z | z | z
      · rw [z]; exact Nat.le_add_right _ _
      · rw [z]; exact Nat.le_add_right _ _
      · rw [z]; exact Nat.le_add_right _ _
      · rw [z]; exact Nat.le_refl _
      · rw [z]; exact Nat.le_add_right _ _
    exact I1.fpOk hle (I1.hok.fresh hle)
  refine ⟨N + 4, [N + 4, N + 2, N + 3, N, N + 1], fun i h => IsZip h (N + 4) (N + 2) (N + 3) .none ∧ IsTupOf2 h (N + 2) (.ref N) (.ref (N + 1)) ∧ (∃ a1 a2, IsTupOf2 h (N + 3) a1 a2) ∧ k1.st N i h ∧ k2.st (N + 1) i h,
    ItN (fun H => k1.ok X.K H xs ∧ k2.ok X.K H ys) (min xs.length ys.length) fun i => [xs.getD i .non, ys.getD i .non], H1, rfl, I2, ?_, ⟨hz, hTI, ⟨_, _, hTO⟩, SK.st0 k1 hi1, SK.st0 k2 hi2⟩, fresh5, q _ fun H' kp => ⟨o1.keep kp, o2.keep kp⟩⟩
  exact turn_zip2 l1 l2
/-- the items of a walk over new tuples -/
theorem walk_new {K : PySem.W.Frag} {H0 : Hp} {Src : Hp → Prop} {n : Nat} {gv : Nat → List V} {ps : List (List PyData)} (hn : n = ps.length) (hz : ps.length ≤ sizeLine) (hs : ∀ H', Keep H0 H' → Src H')
    (hv : ∀ i p, ps[i]? = some p → p.length ≤ sizeLine ∧ PpAll K H0 (gv i) p) : WalkR K H0 (ItN Src n gv) (ps.map fun p => D.py (.tuple p)) := by
  refine ⟨by rw [List.length_map]; exact hz, fun i H kp hi => ?_, fun H kp => ?_, fun i H v H' x kp hx y => ?_⟩
  · rw [List.length_map] at hi
    exact ⟨by rw [hn]; exact hi, hs H kp⟩
  · exact ⟨by rw [List.length_map]; exact hn.symm, hs H kp⟩
  · obtain ⟨T, o, rfl, hT, ho, rfl⟩ := y
    rw [List.getElem?_map, Option.map_eq_some_iff] at hx
    obtain ⟨p, h1, rfl⟩ := hx
    obtain ⟨hl, al⟩ := hv i p h1
    exact ⟨.new hT, fun b vs e => by rw [upd_ne (ne_of_none e hT)]; exact e, upd_dom, fun ι => .py (.tup (.new ho) hl (al.keep (kp.trans (.new hT))))⟩
theorem di_zip {tpos : Pos} {elts : List Expr} {kk : Nat} (hm : X.mg "zip" = none) (hc : X.calm = true) (ha : DE X E a f) (hb : DE X E b g) (hg : Gl X "zip" := by rfl)
    (hs : starEach [a, b] X.env = (false, eval a X.env) :: starEach [b] X.env := by rfl) (hs2 : starEach [b] X.env = (false, eval b X.env) :: starEach [] X.env := by rfl) (hpl : (backTo pos (starEach [b] X.env)).any (·.1) = false := by rfl) :
    DI X E (.Tuple elts kk tpos) (.Call (.Name "zip" p) [a, b] [] pos) (zipI f g) := by
  obtain ⟨t, pt, q⟩ := ha
  obtain ⟨u, pu, qu⟩ := hb
  refine ⟨_, pi_zipM hg hm hc (pa_cons pt (pa_cons pu pa_nil hs2) hs) hs hpl, fun σ H σd S ι R hE hS h => ?_⟩
  refine q σ H σd S ι _ hE hS (Wp.bind0 h fun d S1 _ v H1 ι1 p1 r1 h1 => ?_)
  refine qu σ H1 σd S1 ι1 _ (hE.mono p1.pre p1.keep) p1.sto (Wp.bind0 (Wp.re p1 h1) fun d2 S2 _ v2 H2 ι2 p2 r2 h2 => ?_)
  split at h2
  · rename_i xs ys hx hy
    obtain ⟨vs, s1, al1, z1⟩ := srcV.of (S := S2) (r1.mono p2.pre p2.keep) hx
    obtain ⟨ws, s2, al2, z2⟩ := srcV.of (S := S2) r2 hy
    refine ⟨v, v2, vs, ws, rfl, s1, s2, fun Src hSrc => h2 _ _ _ p2 ?_⟩
    have e : ((xs.zip ys).map fun p => D.py (.tuple [p.1, p.2])) = ((xs.zip ys).map fun p => [p.1, p.2]).map fun p => D.py (.tuple p) := by rw [List.map_map]; rfl
    rw [e]
    refine walk_new ?_ ?_ hSrc fun i pp hp => ?_
    · rw [List.length_map, List.length_zip, al1.length, al2.length]
    · rw [List.length_map, List.length_zip]
      exact Nat.le_trans (Nat.min_le_left _ _) z1
    · rw [List.getElem?_map, Option.map_eq_some_iff] at hp
      obtain ⟨⟨x, y⟩, h3, rfl⟩ := hp
      rw [List.getElem?_zip_eq_some] at h3
      obtain ⟨v1, e1, r1⟩ := al1.getR h3.1
      obtain ⟨v3, e2, r3⟩ := al2.getR h3.2
      refine ⟨by show 2 ≤ sizeLine; decide, ?_⟩
      rw [getD_of e1, getD_of e2]
      exact .cons r1 (.cons r3 .nil)
  · exact h2.elim
end
end DV
namespace PySem
open Sem (wp)
set_option maxHeartbeats 1000000 in
theorem dv_meets_enumerate {v : Value} {o : Obj} {H : Heap → Prop} (B : Begins v o H) :
    Meets (Builtin.«enumerate.__new__» ⟨[.type "enumerate", v], []⟩) (fun _ R s => H s.heap ∧
      R (.ok (.ret (.ref (s.heap.push o).objs.size))) { s with heap := (s.heap.push o).push { cls := .type "enumerate", data := .fields #[.none, .bool false, .ref s.heap.objs.size, rawInt 0, .none, .none] } }) :=
  .of_wp fun prog w A R s h => by
    obtain ⟨hp, g, d, tk, os⟩ := s; obtain ⟨h1, h⟩ := h
    have hsub := sub_enumerate
    have q1 : ∀ {A' : Around} {E : Value → Shared → Prop} {Q : Value → Shared → Prop}, Q (.ref hp.objs.size) ⟨hp.push o, g, d, tk, os⟩ → wpAny (model prog w) A' (pyIter v) Q E ⟨hp, g, d, tk, os⟩ :=
      fun q => B.iter prog w _ _ ⟨hp, g, d, tk, os⟩ _ h1 q
    wp_walk using q1
    refine wpAny_stack_any fun st => wpAny_pure ?_
    split
    · rename_i c _ _ _ _ _
      cases (c == Value.type "enumerate")
      · wp_walk using q1
        exact ⟨_, rfl, h⟩
      · wp_walk using q1
        exact ⟨_, rfl, h⟩
    · wp_walk using q1
      exact ⟨_, rfl, h⟩
end PySem
namespace DV
open PySem PySem.Spec PyProof.Rows L2
end DV

set_option maxHeartbeats 4000000
namespace DV
open PySem PySem.Spec PyProof.Rows L2
/-! enumerate, zip of three. -/
section
variable {prog : Program} {w : World} {A : Around} {E : Value → Shared → Prop} {s : Shared}
theorem enum_begins1 {v : Value} {o : Obj} {H : Heap → Prop} {Q : Value → Shared → Prop} (B : Begins v o H) (h1 : H s.heap)
    (h : ∀ h', IsEnum h' (s.heap.objs.size + 1) s.heap.objs.size 0 .none → h'.get? s.heap.objs.size = some o → h'.objs.size = s.heap.objs.size + 2 →
      (∀ b o, s.heap.get? b = some o → h'.get? b = some o) → Q (.ref (s.heap.objs.size + 1)) { s with heap := h' }) :
    wpAny (model prog w) A (call (.type "enumerate") [v]) Q E s := by
  refine callType_new F.called_enumerate (by decide) (F.typeCall_enumerate_1 _) (F.newCall_enumerate_1 _) (fun obj => F.args_object_init_2 obj _) F.entry_enumerate_new
    (dv_meets_enumerate B) ⟨h1, ?_⟩
  have hz : (s.heap.push o).objs.size = s.heap.objs.size + 1 := Heap.size_push ..
  show _ ∧ _
  rw [hz]
  have he : IsEnum ((s.heap.push o).push { cls := .type "enumerate", data := .fields #[.none, .bool false, .ref s.heap.objs.size, rawInt 0, .none, .none] }) (s.heap.objs.size + 1) s.heap.objs.size 0 .none := by
    have := Heap.get?_push_size (s.heap.push o) (o := { cls := .type "enumerate", data := .fields #[.none, .bool false, .ref s.heap.objs.size, rawInt 0, .none, .none] }) rfl
    rw [hz] at this; exact this
  refine ⟨⟨_, he, rfl⟩, h _ he (Heap.get?_push_of_some _ (Heap.get?_push_size _ B.free)) (by rw [Heap.size_push, hz]) fun b o x => Heap.get?_push_of_some _ (Heap.get?_push_of_some _ x)⟩
end
abbrev enumTn (k1 : SK) (N : Addr) : Nat → Heap → Prop := fun i h => (∃ old, IsEnum h (N + 1) N (i : Nat) old) ∧ k1.st N i h
theorem turn_enum {P : Program} {w : World} {K : PySem.W.Frag} {elts : List Expr} {kk : Nat} {tpos : Pos} {k1 : SK} {N : Addr} {xs : List V} (l1 : ∀ a ∈ k1.src, a < N) :
    Turn P w K (.Tuple elts kk tpos) (ItN (fun H => k1.ok K H xs) xs.length fun i => [.int (i : Nat), xs.getD i .non]) [N + 1, N] (N + 1) (enumTn k1 N) := by
  refine turn_new (by simp) ?_ ?_ ?_ (fun i => by show 2 ≤ sizeLine; decide) ?_
  · intro i h st c hc
    obtain ⟨⟨old, hz⟩, h1⟩ := st
    have e' : c = N + 1 ∨ c = N := by simpa using hc
    rcases e' with q | q
    · rw [q]; exact ⟨_, hz, fun v q => nomatch q⟩
    · rw [q]; exact SK.st_obj h1
  · intro i h h' st k
    obtain ⟨⟨old, hz⟩, h1⟩ := st
    exact ⟨⟨old, k (N + 1) (by simp) _ hz⟩, SK.st_keep h1 fun o q => k N (by simp) o q⟩
  · exact fun A i s Q E st h => let ⟨_, hz⟩ := st.1; wpAny_pyIter_enum hz h
  · intro X' hP hw hK hh i pins' s' σ' H' I' st hsrc
    subst hP hw hK
    obtain ⟨its1', d1', n1', P1', l1'⟩ := SK.heap I' hsrc
    have W := enum_noD (elts := elts) (k := kk) (pos := tpos) 0 (SK.draws (prog := X'.prog) (w := X'.w) (A := X'.A.in1) hh k1 N (fun a ha => Nat.ne_of_lt (l1 a ha)) its1') (N + 1) (Nat.ne_of_gt (Nat.lt_succ_self _)) (fun hm => by
      rcases List.mem_cons.mp hm with q | q
      · exact absurd q (Nat.ne_of_gt (Nat.lt_succ_self _))
      · exact absurd (l1 _ q) (Nat.not_lt_of_le (Nat.le_succ _))) (List.mem_cons_self ..)
    rw [n1'] at W
    refine ⟨_, _, _, _, W, ⟨?_, ⟨st.2, d1'⟩⟩, fun b hb => ?_, fun h v h' hi y => ?_, fun h' st' => ⟨?_, st'.2.1⟩⟩
    · obtain ⟨old, hz⟩ := st.1
      exact ⟨old, by rw [Int.zero_add]; exact hz⟩
    · have e' : b = N + 1 ∨ b = N := by simpa using hb
      rcases e' with q | q <;> simp [q]
    · obtain ⟨T, t, x, rfl, hT, p1, ht⟩ := y
      obtain ⟨v1, e1, r1⟩ := P1' _ _ p1
      refine ⟨T, [.int (0 + (i : Int)) t, x], rfl, hT, ?_, ht⟩
      rw [getD_of e1, Int.zero_add]
      exact .cons ⟨t, rfl⟩ (.cons r1 .nil)
    · obtain ⟨old, hz⟩ := st'.1
      exact ⟨old, by rw [Int.zero_add] at hz; exact hz⟩
section
variable {X : Cx} {E : XK} {e a b c : Expr} {f g h : Ex} {pos p : Pos}
def iEnumM (K : PySem.W.Frag) (ta : TA) : TI := fun σ H R => ta σ H fun vs H1 => ∃ v1 xs, vs = [v1] ∧ srcV K H1 v1 xs ∧
  ∀ Src : Hp → Prop, (∀ H', Keep H1 H' → Src H') → R (ItN Src xs.length fun i => [.int (i : Nat), xs.getD i .non]) H1
theorem pi_enumM {ta : TA} {tpos : Pos} {elts : List Expr} {kk : Nat} (hg : Gl X "enumerate") (hm : X.mg "enumerate" = none) (ha : PA X [e] ta)
    (hs : starEach [e] X.env = [(false, eval e X.env)] := by rfl) :
    PI X (.Tuple elts kk tpos) (.Call (.Name "enumerate" p) [e] [] pos) (iEnumM X.K ta) := by
  refine ⟨fun pins s σ H R I h => ?_⟩
  refine Call_ (ld_blt I hg hm boot_enumerate (PyProof.Rows.callWith_type1 (thn (ha.run pos pins s σ H _ I h) fun us s1 ⟨vs, H1, I1, r1, q1⟩ => ?_) hs rfl))
  obtain ⟨v1, xs, rfl, h1, q⟩ := q1
  obtain ⟨u1, rfl, ru⟩ := vals1 r1
  obtain ⟨k1, rfl, o1⟩ := h1.sk ru
  obtain ⟨its1, d1, n1, P1, l1⟩ := SK.heap I1 o1
  refine enum_begins1 (SK.begins k1 its1) d1 fun h' hz hi1 hsz hk => wpAny_pyIter_enum hz ?_
  have I2 : Inv X pins σ H1 { s1 with heap := h' } := I1.kept (t' := s1.toks) hk
  generalize hN : s1.heap.objs.size = N at *
  have fresh5 : ∀ c, c ∈ [N + 1, N] → FpOk X pins H1 c := fun c hcm => by
    have e' : c = N + 1 ∨ c = N := by simpa using hcm
    have hle : s1.heap.objs.size ≤ c := by
      rw [hN]
      rcases e' with z | z
      · rw [z]; exact Nat.le_add_right _ _
      · rw [z]; exact Nat.le_refl _
    exact I1.fpOk hle (I1.hok.fresh hle)
  exact ⟨N + 1, [N + 1, N], enumTn k1 N, ItN (fun H => k1.ok X.K H xs) xs.length fun i => [.int (i : Nat), xs.getD i .non], H1, rfl, I2, turn_enum l1, ⟨⟨_, hz⟩, SK.st0 k1 hi1⟩, fresh5, q _ fun H' kp => o1.keep kp⟩
theorem di_enum {tpos : Pos} {elts : List Expr} {kk : Nat} (hm : X.mg "enumerate" = none) (ha : DE X E a f) (hg : Gl X "enumerate" := by rfl)
    (hs : starEach [a] X.env = [(false, eval a X.env)] := by rfl) :
    DI X E (.Tuple elts kk tpos) (.Call (.Name "enumerate" p) [a] [] pos) (enumI f) := by
  obtain ⟨t, pt, q⟩ := ha
  refine ⟨_, pi_enumM hg hm (pa_cons pt pa_nil hs) hs, fun σ H σd S ι R hE hS h => ?_⟩
  refine q σ H σd S ι _ hE hS (Wp.bind0 h fun d S1 _ v H1 ι1 p1 r1 h1 => ?_)
  split at h1
  · rename_i xs hx
    obtain ⟨vs, s1, al1, z1⟩ := srcV.of (S := S1) r1 hx
    refine ⟨v, vs, rfl, s1, fun Src hSrc => h1 _ _ _ p1 ?_⟩
    have e : (xs.zipIdx.map fun p => D.py (.tuple [.int (p.2 : Nat), p.1])) = (xs.zipIdx.map fun p => [PyData.int (p.2 : Nat), p.1]).map fun p => D.py (.tuple p) := by rw [List.map_map]; rfl
    rw [e]
    refine walk_new ?_ ?_ hSrc fun i pp hp => ?_
    · rw [List.length_map, List.length_zipIdx, al1.length]
    · rw [List.length_map, List.length_zipIdx]
      exact z1
    · rw [List.getElem?_map, Option.map_eq_some_iff] at hp
      obtain ⟨⟨x, j⟩, h3, rfl⟩ := hp
      rw [List.getElem?_zipIdx, Option.map_eq_some_iff] at h3
      obtain ⟨x', h4, h5⟩ := h3
      cases h5
      obtain ⟨v1, e1, r1⟩ := al1.getR h4
      refine ⟨by show 2 ≤ sizeLine; decide, ?_⟩
      rw [getD_of e1]
      simp only [Nat.zero_add]
      exact .cons (.int _) (.cons r1 .nil)
  · exact h1.elim
end
/-! ### zip of three -/
section
variable {X : Cx} {E : XK} {e a b c : Expr} {f g h : Ex} {pos p : Pos}
end
end DV

set_option maxHeartbeats 4000000
namespace DV
open PySem PySem.Spec PyProof.Rows L2
/-! Defs and their calls, errors raised. -/

/-! ### what a def has made for itself is forgotten -/
section
variable {K : PySem.W.Frag} {ι ι' : List Addr} {H H' : Hp} {S S' : Sto} {v : V} {d : D}
theorem Rd.back (p : ι <+: ι') (h : Rd K ι' H' v d) {v0 : V} (h0 : Rd K ι H v0 d) : Rd K ι H' v d := by
  cases h with
  | py h => exact .py h
  | obj e =>
    cases h0 with
    | obj e0 =>
      have := pre_get p e0
      rw [e] at this
      cases this
      exact .obj e0
  | raw a => exact .raw a
theorem RdAll.back (p : ι <+: ι') : ∀ {vs : List V} {ds : List D}, RdAll K ι' H' vs ds → ∀ {ws : List V}, RdAll K ι H ws ds → RdAll K ι H' vs ds
  | _, _, .nil, _, _ => .nil
  | _, _, .cons h hs, _, .cons h0 hs0 => .cons (h.back p h0) (RdAll.back p hs hs0)
theorem Rd.pure (h : Rd K ι' H' v d) (hp : d.pure = true) : Rd K ι H' v d := by
  cases h with
  | py h => exact .py h
  | obj e => cases hp
  | raw a => exact .raw a
theorem RdAll.pure : ∀ {vs : List V} {ds : List D}, RdAll K ι' H' vs ds → ds.all D.pure = true → RdAll K ι H' vs ds
  | _, _, .nil, _ => .nil
  | _, _, .cons h hs, e => by
    rw [List.all_cons, Bool.and_eq_true] at e
    exact .cons (h.pure e.1) (RdAll.pure hs e.2)
theorem tab_take {S : Sto} {n m : Nat} {o : O} (e : (S.take n)[m]? = some o) : S[m]? = some o := by
  rw [List.getElem?_take] at e
  split at e
  · exact e
  · cases e
theorem gc_post (p : Post K ι H ι' H' S') (hS : StR K ι H S) (hl : S.length ≤ S'.length) (hc : ∀ (i : Nat) (o : O), i < S.length → S'[i]? = some o → S[i]? = some o ∨ o.pure = true) : Post K ι H ι H' (S'.take S.length) := by
  refine ⟨List.prefix_refl _, p.keep, ⟨by rw [List.length_take, hS.len]; omega, hS.nd, fun n a e => p.sto.there n a (pre_get p.pre e), fun n o a e1 e2 => ?_, fun m P q e => p.sto.tb m P q (tab_take e)⟩, fun b vs m q => ⟨(p.frame b vs m q).1, m⟩, p.dom⟩
  have hn : n < S.length := by
    have := (List.getElem?_eq_some_iff.mp e1).1
    rw [List.length_take] at this
    omega
  rw [List.getElem?_take_of_lt hn] at e1
  have z := p.sto.at_ n o a e1 (pre_get p.pre e2)
  rcases hc n o hn e1 with h | h
  · have z0 := hS.at_ n o a h e2
    cases z with
    | gone => exact .gone
    | tab => exact .tab
    | dt a b c => exact .dt a b c
    | dk a b c => exact .dk a b c
    | ins hc a b rr =>
      cases z0 with
      | ins hc0 a0 b0 rr0 => exact .ins hc a b (RdAll.back p.pre rr rr0)
    | tpl a rr =>
      cases z0 with
      | tpl a0 rr0 => exact .tpl a (RdAll.back p.pre rr rr0)
    | lst ha rr =>
      cases z0 with
      | lst ha0 rr0 => exact .lst ha (RdAll.back p.pre rr rr0)
  · cases z with
    | gone => exact .gone
    | tab => exact .tab
    | dt a b c => exact .dt a b c
    | dk a b c => exact .dk a b c
    | ins hc a b rr => exact .ins hc a b (RdAll.pure rr (by
        rw [List.all_map]
        exact h))
    | tpl a rr => exact .tpl a (RdAll.pure rr h)
    | lst ha rr => exact .lst ha (RdAll.pure rr h)
theorem Wp.gcI {mg : Str → Option Value} {E : XK} {α β γ : Type} {rel : List Addr → Hp → α → β → Prop} {b : β} {P : Prop} {Q : α → Hp → Prop} (hS : StR K ι H S) (h : Wp K mg E ι H rel (gc P S S' fun T => R.ok b T) Q)
    (hr : ∀ a H' ι', ι <+: ι' → P → rel ι' H' a b → rel ι H' a b) : ∀ a H' ι', Post K ι H ι' H' S' → rel ι' H' a b → Q a H' := by
  intro a H1 ι1 p r
  unfold gc at h
  split at h
  · rename_i hc
    exact h a H1 ι (gc_post p hS hc.2.1 hc.2.2) (hr a H1 ι1 p.pre hc.1 r)
  · exact h a H1 ι1 p r
theorem WpF.fn {mg : Str → Option Value} {E : XK} {r : F} {Q : VK} (hS : StR K ι H S) (h : Wp K mg E ι H (relD K) (fnR S r) Q) : WpF K mg E ι H r { nx := fun _ H' => Q .non H', rt := Q } := by
  cases r with
  | nx σd S' =>
    intro σ' H1 ι1 p _
    exact Wp.gcI (γ := Unit) (rel := relD K) hS h (fun a H' ι' _ _ r => r.pure rfl) .non H1 ι1 p (.py .non)
  | rt d S' =>
    intro v H1 ι1 p r
    exact Wp.gcI (γ := Unit) (rel := relD K) hS h (fun a H' ι' _ hp r => r.pure hp) v H1 ι1 p r
  | ex c S' =>
    intro H1 ι1 p
    unfold fnR gc at h
    simp only at h
    split at h
    · rename_i hc
      exact h H1 ι (gc_post p hS hc.2.1 hc.2.2)
    · exact h H1 ι1 p
  | bk σ S' => exact h.elim
  | ct σ S' => exact h.elim
  | no => exact h.elim
theorem init_rel (N : List Str) {vs : List V} {ds : List D} (r : RdAll K ι H vs ds) : EnR K ι H (start N vs) (init N.length ds) := by
  unfold L2.start init
  refine ⟨by simp [r.length], fun i d e => ?_⟩
  by_cases hi : i < ds.length
  · rw [List.getElem?_append_left (by simpa using hi)] at e
    rw [List.getElem?_map, Option.map_eq_some_iff] at e
    obtain ⟨d', h1, h2⟩ := e
    cases h2
    obtain ⟨v, hv, rv⟩ := Paired.getR r h1
    exact ⟨v, by rw [List.getElem?_append_left (by simpa [r.length] using hi), List.getElem?_map, hv]; rfl, rv⟩
  · rw [List.getElem?_append_right (by simpa using hi)] at e
    have := List.mem_of_getElem? e
    rw [List.mem_replicate] at this
    cases this.2
end

/-- the promise of a def: it does what F says upon data -/
def spD (K : PySem.W.Frag) (mg : Str → Option Value) (n : Nat) (F : List D → Sto → R D) : Sp := fun vs H Q E => vs.length = n ∧ ∃ ι S ds, StR K ι H S ∧ RdAll K ι H vs ds ∧ Wp K mg E ι H (relD K) (F ds S) Q
structure FnD (P : Program) (w : World) (K : PySem.W.Frag) (mg : Str → Option Value) (base : Heap) (k : Nat) (f : Addr) (fd : FuncData) (ps : List Str) (F : List D → Sto → R D) : Prop where
  run : ∀ (A : Around) (outer : List Env) (s : Shared) (H : Hp) (args : Args) (us : List Value) (vs : List V) (Q : VK) (E : XK), Room k A → A.guards = some [] → Env0 P w K mg base A outer s H → BindsTo s fd args (ps.zip us) → Vals vs us → spD K mg ps.length F vs H Q E →
    codeAny (model P w) A (.call (.ref f) args) (CR (L2.CX P w) outer P w H s Q E) s
theorem FnD.mono {P : Program} {w : World} {K : PySem.W.Frag} {mg : Str → Option Value} {base : Heap} {j k : Nat} {f : Addr} {fd : FuncData} {ps : List Str} {F : List D → Sto → R D} (h : FnD P w K mg base j f fd ps F) (hl : j ≤ k) : FnD P w K mg base k f fd ps F :=
  ⟨fun A outer s H args us vs Q E hr => h.run A outer s H args us vs Q E (hr.mono hl)⟩
section
variable {P : Program} {w : World} {K : PySem.W.Frag} {mg : Str → Option Value} {base : Heap}
/-- the context of a def's body is fit -/
theorem okx_def {N ps : List Str} {qual : Str} {sc : Scope} {f : Addr} {cdv : Value} {A : Around} {outer : List Env} {s : Shared} {H : Hp} {E : XK} {k : Nat} (S : FnScope N ps sc) (hr : Room (k + 1) A) (hg : A.guards = some []) :
    Okx k (cxOf (L2.CX P w) P w K mg base N qual sc f cdv A outer s H E) E where
  calm := rfl
  nd := S.nd
  room := hr.deeper _
  gd := hg
  take := takes_of rfl rfl rfl rfl
  pass := passes_call (takes_of rfl rfl rfl rfl) fun _ _ _ _ h => h
  own := passes_of rfl
theorem dfn {x qual : Str} {st : Stmt} {f : Addr} {fd : FuncData} {N ps : List Str} {k : Nat} {b : Sx} (F : L2.Fun K x qual st f fd) (S : FnScope N ps (defScope st))
    (hbody : ∀ (cdv : Value) (A : Around) (outer : List Env) (s : Shared) (H : Hp) (E : XK), Okx k (cxOf (L2.CX P w) P w K mg base N qual (defScope st) f cdv A outer s H E) E →
      DSs (cxOf (L2.CX P w) P w K mg base N qual (defScope st) f cdv A outer s H E) E (defBody st) b) : FnD P w K mg base (k + 1) f fd ps (fnF N.length b) := by
  obtain ⟨oc, od, kV, doc, pm, an, cdv, ct, osl, rfl, lk, hcd⟩ := F.ex
  refine ⟨fun A outer s H args us vs Q E hr hg e0 hb r hsp => ?_⟩
  obtain ⟨hl, ι, Sd, ds, hS, rr, hw⟩ := hsp
  have KX : K.In s.heap := e0.mod.kin.keeps fun b o e => (e0.bs b o e).1
  have lim : s.heap.NoLimit := e0.mod.nolimit.keeps fun b o e => (e0.bs b o e).1
  have hkind : ∀ y ∈ ps.zip us, (defScope st).names.lookup y.1 = some .local ∨ ((defScope st).names.lookup y.1 = some .cell ∧ ((cellsFrom (s.heap.objs.size + 1) (defScope st).names []).lookup y.1).isSome = true) := fun ⟨n, v⟩ hy => by
    rcases S.par n (List.of_mem_zip hy).1 with q | q
    · exact .inl q
    · exact .inr ⟨q, PySem.W.cellsFrom_some _ _ _ (.inl q)⟩
  refine codeAny_call_function hr.depth (KX _ _ lk) rfl S.co S.gen rfl (PySem.W.codeRec_of KX hcd) (hb _ _ _ _ ?_)
  refine wpAny_newFunctionEnv_cells S.kind hkind fun env he s1 xx => ?_
  subst he
  refine ⟨lim.keeps xx.toInCall.keep, codeAny_func ?_⟩
  obtain ⟨t, ht, hq⟩ := hbody cdv A outer s H E (okx_def S hr hg)
  have I : Inv (cxOf (L2.CX P w) P w K mg base N qual (defScope st) f cdv A outer s H E) [] (start N vs) H s1 := inv_start S hr.hd e0 hl r xx
  refine wpAny_mono (ht.run [] s1 (start N vs) H _ I (hq _ _ _ _ _ _ (init_rel N rr) hS (WpF.fn hS hw))) (fun fl s' hs => ?_) fun e s' hs => hs
  have fin : ∀ {σ' : L2.St} {H' : Hp} {v : V} {u : Value}, Inv (cxOf (L2.CX P w) P w K mg base N qual (defScope st) f cdv A outer s H E) [] σ' H' s' → RelV v u → Q v H' → CE outer P w H s Q u s' :=
    fun {σ' H' v u} J rv q => ⟨v, H', J.os, J.bare, J.base, J.hok, rv, q⟩
  cases fl with
  | ret u =>
    obtain ⟨v, σ', H', J, rv, q⟩ := hs
    exact fin J rv q
  | next =>
    obtain ⟨σ', H', J, q⟩ := hs
    exact fin (v := V.non) (u := Value.none) J rfl q
  | brk =>
    obtain ⟨_, _, _, q⟩ := hs
    exact False.elim q
  | cont =>
    obtain ⟨_, _, _, q⟩ := hs
    exact False.elim q
end

/-! ### calls -/
section
variable {X : Cx} {E : XK} {k j : Nat} {e : Expr} {f : Addr} {es : List Expr} {fs : Ax} {pos p : Pos} {x : Str} {fd : FuncData} {ps : List Str} {F : List D → Sto → R D}
theorem run_fnD {pins : List (Addr × Obj)} {σ : L2.St} {H : Hp} {s : Shared} {Q : VK} {us : List Value} {vs : List V} (o : Okx k X E) (hF : FnD X.prog X.w X.K X.mg X.base j f fd ps F) (hj : j ≤ k) (hb : Binds X.K fd ps []) (I : Inv X pins σ H s) (r : Vals vs us) (h : spD X.K X.mg ps.length F vs H Q E) :
    wpAny (model X.prog X.w) X.A (call (.ref f) us) (EP X pins σ Q) X.xe s := by
  have hl : us.length = ps.length := by rw [← r.length]; exact h.1
  have b := hb s us I.kIn (by rw [List.append_nil]; exact hl)
  rw [List.append_nil] at b
  refine wpAny_call (codeAny_mono (hF.run X.A X.stack s H ⟨us, []⟩ us vs Q E (o.room.mono hj) o.gd I.env0 b r h) fun r s' hq => ?_)
  cases r with
  | error e => exact o.pass pins σ H s e s' I hq
  | ok fl =>
    cases fl with
    | ret u => exact I.after hq
    | next => exact False.elim hq
    | brk => exact False.elim hq
    | cont => exact False.elim hq
/-- where a def of the top stands -/
structure At (K : PySem.W.Frag) (mg : Str → Option Value) (x : Str) (f : Addr) (fd : FuncData) (ps : List Str) : Prop where
  g : mg x = some (.ref f)
  kp : PySem.W.keepIn K (.ref f) = true
  b : Binds K fd ps []
theorem de_call (o : Okx k X E) (hF : FnD X.prog X.w X.K X.mg X.base j f fd ps F) (at_ : At X.K X.mg x f fd ps) (hj : j ≤ k) (ha : DA X E (e :: es) fs) (hn : (e :: es).length = ps.length := by rfl) (hg : Gl X x := by rfl) (hdb : (x == ("__debug__" : Str)) = false := by decide)
    (he : starEach (e :: es) X.env = (false, eval e X.env) :: starEach es X.env := by rfl) (hpl : (backTo pos (starEach es X.env)).any (·.1) = false := by rfl) : DE X E (.Call (.Name x p) (e :: es) [] pos) (callE F fs) := by
  obtain ⟨l, t, pt, q⟩ := ha
  refine ⟨tCall (spD X.K X.mg ps.length F) [] E t, ⟨fun pins s σ H Q I h => ?_⟩, fun σ H σd S ι Q hE hS h => ?_⟩
  · refine wpAny_Call_Name_kw (ld_glob I hg at_.g ?_ hdb)
    refine PySem.W.callWith_K (h₀ := X.base) I.ok.mod.kin at_.kp (thn (pt.run pos pins s σ H _ I h) fun us s1 ⟨vs, H1, I1, r, q⟩ => ⟨I1.kIn, ?_⟩) he hpl
    have q' : spD X.K X.mg ps.length F (vs ++ []) H1 Q E := q
    rw [List.append_nil] at q'
    exact run_fnD o hF hj at_.b I1 r q'
  · refine q σ H σd S ι _ hE hS (Wp.bind h fun ds S1 e1 vs H1 ι1 p1 r1 h1 => ?_)
    rw [List.append_nil]
    exact ⟨by rw [r1.length, l _ _ _ _ e1, hn], ι1, S1, ds, p1.sto, r1, h1⟩
/-! ### errors -/
abbrev veTail : List Value := [.type "ValueError", .type "Exception", .type "BaseException", .type "object"]
structure ExcAt (K : PySem.W.Frag) (mg : Str → Option Value) (x : Str) (C : Addr) : Prop where
  g : mg x = some (.ref C)
  x : PySem.W.excIn K C veTail "ValueError.__new__" = true
  k : PySem.W.keepIn K (.ref C) = true
  b : PySem.W.subIn K (.ref C) (.type "BaseException") = some true
  t : PySem.W.typeIn K (.ref C) = some (.type "type")
theorem ds_raise {C : Addr} {m : Str} {jj : Nat} {p2 : Pos} (o : Okx k X E) (h : ExcAt X.K X.mg x C) (hg : Gl X x := by rfl) (hdb : (x == ("__debug__" : Str)) = false := by decide) : DS X E (.Raise (some (.Call (.Name x p) [.Constant (.str m) jj p2] [] pos)) none pos') (raiseS x) := by
  refine ⟨_, ps_raise o.calm o.take (pmk_own PySem.F.excBase_ValueError h.x h.g h.k (raises_own h.b h.t) hg hdb), fun σ H σd S ι N hE hS hw => ?_⟩
  have e : clsV X.mg x = .ref C := by unfold clsV; rw [h.g]; rfl
  have := hw H ι (.refl hS)
  rw [e] at this
  exact this
end
end DV

set_option maxHeartbeats 4000000
namespace DV
open PySem PySem.Spec PyProof.Rows L2
/-! The law's own call. -/
theorem cx_false {P : Program} {w : World} {l : List Env} {H : Hp} {s : Shared} {e : Value} {s' : Shared} (h : L2.CX P w l H s (fun _ _ _ => False) e s') : False := by
  obtain ⟨_, _, _, _, _, _, _, _, _, _, _, _, z⟩ := h
  exact z
theorem ints_pp {K : PySem.W.Frag} {H : Hp} : ∀ ns : List Int, PpAll K H (ns.map V.int) (ns.map PyData.int)
  | [] => .nil
  | n :: ns => .cons (.int n) (ints_pp ns)
/-- the law run at the heap H, the script alone being known to it -/
theorem law_at {P : Program} {w : World} {K : PySem.W.Frag} {mg : Str → Option Value} {base : Heap} {k : Nat} {fa a : Addr} {fd : FuncData} {x : Str} {F : List D → Sto → R D} {s : Shared} {ns : List Int} {H : Hp}
    (hF : FnD P w K mg base k fa fd [x] F) (hr : Room k callerA) (e0 : Env0 P w K mg base callerA [] s H) (hb : ∀ (s : Shared) (u : Value), BindsTo s fd ⟨[u], []⟩ [(x, u)]) (hl : ns.length ≤ sizeLine)
    (hS : FL K H a (ns.map V.int)) (res : ∃ S', F [.py (.list (ns.map .int))] [] = .ok (.py (.bool true)) S') :
    codeAny (model P w) callerA (.call (.ref fa) ⟨[.ref a], []⟩) (fun r s' => r = .ok (.ret (.bool true)) ∧ s'.os = s.os ∧ AllBare s'.gens ∧ ∃ H', Un [] [] H H' s.heap s'.heap ∧ HOk P w H' s'.heap) s := by
  obtain ⟨S', hres⟩ := res
  have hsp : spD K mg 1 F [.ref a] H (fun v _ => v = .bl true) fun _ _ _ => False := by
    refine ⟨rfl, [], [], [.py (.list (ns.map .int))], ⟨rfl, List.nodup_nil, fun n a e => by simp at e, fun n o a e => by simp at e, fun n P q e => by simp at e⟩, .cons (.py (.lst hS (by rw [List.length_map]; exact hl) (ints_pp ns))) .nil, ?_⟩
    rw [hres]
    exact fun v H' ι' _ r => bool_of r
  refine codeAny_mono (hF.run callerA [] s H ⟨[.ref a], []⟩ [.ref a] [.ref a] _ _ hr rfl e0 (hb s (.ref a)) (.cons rfl .nil) hsp) fun r s' h => ?_
  match r, h with
  | .error e, h => exact (cx_false h).elim
  | .ok .next, h => exact h.elim
  | .ok .brk, h => exact h.elim
  | .ok .cont, h => exact h.elim
  | .ok (.ret u), ⟨v, H', os, bare, un, hok, rv, q⟩ =>
    have q' : v = .bl true := q
    subst q'
    have e : u = Value.bool true := rv
    exact ⟨by rw [e], os, bare, H', un, hok⟩
/-- what the head leaves, with nothing tracked but a script that is no object of the module -/
theorem law_callD {P : Program} {w : World} {K : PySem.W.Frag} {mg mb : Str → Option Value} {k : Nat} {fa a : Addr} {fd : FuncData} {x : Str} {F : List D → Sto → R D} {s : Shared} {vs : List Value} {ns : List Int}
    (KX : K.In s.heap) (hns : s.heap.Ns mainGlobals mg) (hb : s.heap.Ns builtinsNs mb) (hbb : ∀ x : Str, x ≠ "__name__" → mb x = bootBuiltins x) (hlim : s.heap.NoLimit) (hg : s.gens = #[])
    (ha : s.heap.get? a = some { cls := .type "list", data := .seq vs.toArray }) (hi : IntsAre vs ns) (hl : ns.length ≤ sizeLine) (hr : Room k callerA)
    (hF : ∀ base : Heap, K.In base → base.Ns mainGlobals mg → FnD P w K mg base k fa fd [x] F) (hbind : ∀ (s : Shared) (u : Value), BindsTo s fd ⟨[u], []⟩ [(x, u)])
    (res : ∃ S', F [.py (.list (ns.map .int))] [] = .ok (.py (.bool true)) S') :
    codeAny (model P w) callerA (.call (.ref fa) ⟨[.ref a], []⟩) (fun r s' => r = .ok (.ret (.bool true)) ∧ OldK s.heap s'.heap ∧ s'.os = s.os ∧ AllBare s'.gens) s := by
  have rv := vals_ints hi
  have step : ∀ H : Hp, FL K H a (ns.map V.int) → HOk P w H s.heap → (∀ b u, H b = some u → b = a ∧ ∃ o xs, u = .frz o (.lst xs)) → (∀ u, H a = some u → K.lookup a = none) →
      codeAny (model P w) callerA (.call (.ref fa) ⟨[.ref a], []⟩) (fun r s' => r = .ok (.ret (.bool true)) ∧ OldK s.heap s'.heap ∧ s'.os = s.os ∧ AllBare s'.gens) s := by
    intro H hS hok hA hK
    have free : ∀ {b : Addr} {o : Obj}, s.heap.get? b = some o → b ≠ a → H b = none := fun {b o} _ ne => by
      cases q : H b with
      | none => rfl
      | some u => exact absurd (hA b u q).1 ne
    have nsK : ∀ {b : Addr} {m : Str → Option Value}, s.heap.Ns b m → (hidT s.heap H).Ns b m := fun {b m} hn => by
      obtain ⟨o, es, ep, e, d, r⟩ := hn
      refine ⟨o, es, ep, hidT_get e (free e fun z => ?_), d, r⟩
      rw [z, ha] at e
      cases e
      cases d
    have hKb : K.In (hidT s.heap H) := fun b o e => hidT_get (KX b o e) (by
      cases q : H b with
      | none => rfl
      | some u =>
        have z := (hA b u q).1
        rw [z] at e q
        rw [hK u q] at e
        cases e)
    have hM : Mod K mg (hidT s.heap H) := ⟨hKb, nsK hns, ⟨mb, nsK hb, hbb⟩, by obtain ⟨mc, h1, h2⟩ := hlim; exact ⟨mc, nsK h1, h2⟩⟩
    have e0 : Env0 P w K mg (hidT s.heap H) callerA [] s H :=
      { frames := rfl, mod := hM, bs := fun b o e => of_hidT e, bsz := Nat.le_of_eq (hidT_size _ _), funs := trivial, frf := fun b hb => (by cases hb), hok := hok, bare := .of_eq hg }
    refine codeAny_mono (law_at (hF _ hKb (nsK hns)) hr e0 hbind hl hS res) fun r s' h => ?_
    obtain ⟨rfl, os, bare, H', un, hok'⟩ := h
    refine ⟨rfl, OldK.of_keep fun b o e => ?_, os, bare⟩
    cases q : H b with
    | none => exact un.keep b o e q (by simp) (by simp)
    | some u =>
      obtain ⟨_, ob, xs, rfl⟩ := hA b u q
      have e1 := (hok b _ q).1
      have e2 := (hok' b _ (un.frzs b ob _ q)).1
      rw [e] at e1
      cases e1
      exact e2
  cases hk : K.lookup a with
  | some o =>
    have e := KX a o hk
    rw [ha] at e
    cases e
    exact step (fun _ => none) (.inr ⟨_, vs.toArray, _, hk, rfl, rfl, rfl, rfl, by rw [List.size_toArray, hi.length]; exact hl, by simpa using rv⟩) (fun b u z => by cases z) (fun b u z => by cases z) fun u z => by cases z
  | none =>
    have at_ : ∀ b u, (fun b => if b = a then some (HO.frz { cls := .type "list", data := .seq vs.toArray } (.lst (ns.map V.int))) else none) b = some u → b = a ∧ u = .frz { cls := .type "list", data := .seq vs.toArray } (.lst (ns.map V.int)) := fun b u z => by
      by_cases q : b = a
      · simp only [q, if_true] at z
        cases z
        exact ⟨q, rfl⟩
      · simp only [q, if_false] at z
        cases z
    refine step _ (.inl ⟨_, if_pos rfl⟩) (fun b u z => ?_) (fun b u z => ⟨(at_ b u z).1, _, _, (at_ b u z).2⟩) fun _ _ => hk
    obtain ⟨rfl, rfl⟩ := at_ b u z
    exact ⟨ha, by rw [List.length_map]; exact hl, vs, _, rv, ha⟩
/-- the goal that the head leaves -/
theorem walk_ofD {l : PySem.W.OpenLaw} {n k : Nat} {q : Program} {loose : List Str} {XP : (Str → Option Value) → Heap → Prop} {YP : World → Heap → Prop} {d : DefRec} {K : Params → PySem.W.Frag} {F : List D → Sto → R D} {x : Str}
    (hn : l.most = some n) (hn2 : n ≤ sizeLine) (hdf : d.params.defaults = []) (hr : Room k callerA) (hY : ∀ (w : World) (h : Heap), YP w h → (K w.params).In h)
    (hF : ∀ (w : World) (mg : Str → Option Value) (fa : Addr) (h : Heap), (K w.params).In h → h.Ns mainGlobals mg → mg d.name = some (.ref fa) →
      ∃ fd : FuncData, (∀ (s : Shared) (u : Value), BindsTo s fd ⟨[u], []⟩ [(x, u)]) ∧ ∀ base : Heap, (K w.params).In base → base.Ns mainGlobals mg → FnD l.prog w (K w.params) mg base k fa fd [x] F)
    (res : ∀ ns : List Int, ns.length ≤ n → ∃ S', F [.py (.list (ns.map .int))] [] = .ok (.py (.bool true)) S') :
    PySem.W.WalkO q loose XP YP l.row.toRowW d [] (fun f vs => PySem.call f vs) := by
  refine Att.attach_call hn hdf fun w s₀ s₁ mg mb fa o pm cd doc a vs ns G Y ho hd hcd hmg hobj hints hlen hg => ?_
  have KX := hY w _ Y
  obtain ⟨fd, hb, h⟩ := hF w mg fa _ KX G.T.g hmg
  exact law_callD KX G.T.g G.T.b G.T.builtins G.T.nolimit hg hobj hints (Nat.le_trans hlen hn2) hr h hb (res ns hlen)
end DV

set_option maxHeartbeats 4000000
namespace DV
open PySem PySem.Spec PyProof.Rows L2 PySem.SeqAt
open AutoSeq1 (wpAny_loadPart')
open MeetsSeq
/-! A text and a dict are unlike. -/
theorem dv_str_eq_dict (b : Str) (u : Tok) (l : Addr) (c : Value) (es : Array DictEntry) (n : Nat) (dd : Option Addr) (sl : Array (Option Value)) :
    Meets (Builtin.«str.__eq__» ⟨[.str b u, .ref l], []⟩) (fun _ R s => s.heap.get? l = some { cls := c, dict := dd, data := .dict es n, slots := sl } ∧ R (.ok (.ret .notImplemented)) s) :=
  .of_wp fun prog w A R s h => by obtain ⟨hp, g, d, tk, os⟩ := s; obtain ⟨hl, h⟩ := h; wp_walk using wpAny_loadPart' hl, wpAny_load hl; exact ⟨_, rfl, h⟩
theorem dv_dict_eq_str (l : Addr) (es : Array DictEntry) (n : Nat) (dd : Option Addr) (sl : Array (Option Value)) (b : Str) (u : Tok) :
    Meets (Builtin.«dict.__eq__» ⟨[.ref l, .str b u], []⟩) (fun _ R s => s.heap.get? l = some { cls := .type "dict", dict := dd, data := .dict es n, slots := sl } ∧ R (.ok (.ret .notImplemented)) s) :=
  .of_wp fun prog w A R s h => by obtain ⟨hp, g, d, tk, os⟩ := s; obtain ⟨hl, h⟩ := h; have f1 := PySem.F.sub_str_dict; wp_walk using wpAny_loadPart' hl; exact ⟨_, rfl, h⟩
theorem dv_str_ne_dict (b : Str) (u : Tok) (l : Addr) (c : Value) (es : Array DictEntry) (n : Nat) (dd : Option Addr) (sl : Array (Option Value)) :
    Meets (Builtin.«str.__ne__» ⟨[.str b u, .ref l], []⟩) (fun _ R s => s.heap.get? l = some { cls := c, dict := dd, data := .dict es n, slots := sl } ∧ R (.ok (.ret .notImplemented)) s) :=
  .of_wp fun prog w A R s h => by obtain ⟨hp, g, d, tk, os⟩ := s; obtain ⟨hl, h⟩ := h; wp_walk using wpAny_loadPart' hl, wpAny_load hl; exact ⟨_, rfl, h⟩
theorem dv_dict_ne_str (l : Addr) (es : Array DictEntry) (n : Nat) (dd : Option Addr) (sl : Array (Option Value)) (b : Str) (u : Tok) :
    Meets (Builtin.«dict.__ne__» ⟨[.ref l, .str b u], []⟩) (fun _ R s => s.heap.get? l = some { cls := .type "dict", dict := dd, data := .dict es n, slots := sl } ∧ R (.ok (.ret .notImplemented)) s) :=
  .of_wp fun prog w A R s h => by obtain ⟨hp, g, d, tk, os⟩ := s; obtain ⟨hl, h⟩ := h; have f1 := PySem.F.sub_str_dict; wp_walk using wpAny_loadPart' hl; exact ⟨_, rfl, h⟩
section
variable {A : Around} {s : Shared} {l : Addr} {dd : Option Addr} {es : Array DictEntry} {n : Nat} {sl : Array (Option Value)}
theorem rc_str_dict (b : Str) (u : Tok) (ho : s.heap.get? l = some { cls := .type "dict", dict := dd, data := .dict es n, slots := sl }) (hu : A.units < cLine) : RcAt A s (.str b u) (.ref l) false := fun prog w E Q h =>
  rc_eq_decline_or (k := false) (typeIs_str s b u) ⟨_, ho, rfl⟩ (by decide) PySem.F.sub_dict_str PySem.F.slot_str_eq PySem.F.slot_dict_eq_refl
    (fun _ hq => call_meets PySem.F.slot_str_eq (typeIs_str s b u) PySem.F.entry_str_eq (PySem.F.args_str_eq_2 _ _) (dv_str_eq_dict b u l (.type "dict") es n dd sl) ⟨ho, hq⟩)
    (fun _ hq => call_meets PySem.F.slot_dict_eq_refl ⟨_, ho, rfl⟩ PySem.F.entry_dict_eq (PySem.F.args_dict_eq_2 _ _) (dv_dict_eq_str l es n dd sl b u) ⟨ho, hq⟩)
    (fun _ hq => wpAny_of_eq (rfl : isSame (.str b u) (.ref l) = pure false) hq) (.inr hu) h
theorem rc_dict_str (b : Str) (u : Tok) (ho : s.heap.get? l = some { cls := .type "dict", dict := dd, data := .dict es n, slots := sl }) (hu : A.units < cLine) : RcAt A s (.ref l) (.str b u) false := fun prog w E Q h =>
  rc_eq_decline_or (k := false) ⟨_, ho, rfl⟩ (typeIs_str s b u) (by decide) PySem.F.sub_str_dict PySem.F.slot_dict_eq PySem.F.slot_str_eq_refl
    (fun _ hq => call_meets PySem.F.slot_dict_eq ⟨_, ho, rfl⟩ PySem.F.entry_dict_eq (PySem.F.args_dict_eq_2 _ _) (dv_dict_eq_str l es n dd sl b u) ⟨ho, hq⟩)
    (fun _ hq => call_meets PySem.F.slot_str_eq_refl (typeIs_str s b u) PySem.F.entry_str_eq (PySem.F.args_str_eq_2 _ _) (dv_str_eq_dict b u l (.type "dict") es n dd sl) ⟨ho, hq⟩)
    (fun _ hq => wpAny_of_eq (rfl : isSame (.ref l) (.str b u) = pure false) hq) (.inr hu) h
theorem rn_str_dict (b : Str) (u : Tok) (ho : s.heap.get? l = some { cls := .type "dict", dict := dd, data := .dict es n, slots := sl }) (hu : A.units < cLine) : RcNeAt A s (.str b u) (.ref l) true := fun prog w E Q h =>
  rc_ne_decline_or (k := false) (typeIs_str s b u) ⟨_, ho, rfl⟩ (by decide) PySem.F.sub_dict_str PySem.F.slot_str_ne PySem.F.slot_dict_ne_refl
    (fun _ hq => call_meets PySem.F.slot_str_ne (typeIs_str s b u) PySem.F.entry_str_ne (PySem.F.args_str_ne_2 _ _) (dv_str_ne_dict b u l (.type "dict") es n dd sl) ⟨ho, hq⟩)
    (fun _ hq => call_meets PySem.F.slot_dict_ne_refl ⟨_, ho, rfl⟩ PySem.F.entry_dict_ne (PySem.F.args_dict_ne_2 _ _) (dv_dict_ne_str l es n dd sl b u) ⟨ho, hq⟩)
    (fun _ hq => wpAny_of_eq (rfl : isSame (.str b u) (.ref l) = pure false) hq) (.inr hu) h
theorem rn_dict_str (b : Str) (u : Tok) (ho : s.heap.get? l = some { cls := .type "dict", dict := dd, data := .dict es n, slots := sl }) (hu : A.units < cLine) : RcNeAt A s (.ref l) (.str b u) true := fun prog w E Q h =>
  rc_ne_decline_or (k := false) ⟨_, ho, rfl⟩ (typeIs_str s b u) (by decide) PySem.F.sub_str_dict PySem.F.slot_dict_ne PySem.F.slot_str_ne_refl
    (fun _ hq => call_meets PySem.F.slot_dict_ne ⟨_, ho, rfl⟩ PySem.F.entry_dict_ne (PySem.F.args_dict_ne_2 _ _) (dv_dict_ne_str l es n dd sl b u) ⟨ho, hq⟩)
    (fun _ hq => call_meets PySem.F.slot_str_ne_refl (typeIs_str s b u) PySem.F.entry_str_ne (PySem.F.args_str_ne_2 _ _) (dv_str_ne_dict b u l (.type "dict") es n dd sl) ⟨ho, hq⟩)
    (fun _ hq => wpAny_of_eq (rfl : isSame (.ref l) (.str b u) = pure false) hq) (.inr hu) h
end
/-- one is a text, the other one a dict -/
def TxDk (H : Hp) (x y : V) : Prop := (∃ z a o kvs, x = .str z ∧ y = .ref a ∧ H a = some (.frz o (.dK kvs))) ∨ ∃ z a o kvs, x = .ref a ∧ y = .str z ∧ H a = some (.frz o (.dK kvs))
theorem dk_obj {X : Cx} {pins : List (Addr × Obj)} {σ : L2.St} {H : Hp} {s : Shared} (I : Inv X pins σ H s) {a : Addr} {o : Obj} {kvs : List (Key × V)} (e : H a = some (.frz o (.dK kvs))) : ∃ es n, s.heap.get? a = some { cls := .type "dict", dict := none, data := .dict es n, slots := #[] } := by
  obtain ⟨_, _, vs, _, ⟨⟨c, d, dt, sl⟩, es, ep, ho, ⟨hc, hn, hs⟩, hd, _⟩⟩ := dk_rd I.hok (.inr ⟨o, e⟩)
  simp only at hc hn hs hd
  subst hc hn hs hd
  exact ⟨es, ep, ho⟩
theorem op_eqSD {X : Cx} (hu : X.A.units + 64 < cLine) : OpR X (compareOp .Eq) (fun x y H Q => TxDk H x y ∧ Q (.bl false) H) := by
  intro pins s σ H x y v u Q I rx ry h
  obtain ⟨h, q⟩ := h
  rcases h with ⟨z, a, o, kvs, rfl, rfl, e⟩ | ⟨z, a, o, kvs, rfl, rfl, e⟩
  · obtain ⟨t, rfl⟩ := rx
    cases ry
    obtain ⟨es, n, ho⟩ := dk_obj I e
    exact rc_str_dict z t ho (by omega) X.prog X.w _ _ ⟨.bl _, H, I, rfl, q⟩
  · obtain ⟨t, rfl⟩ := ry
    cases rx
    obtain ⟨es, n, ho⟩ := dk_obj I e
    exact rc_dict_str z t ho (by omega) X.prog X.w _ _ ⟨.bl _, H, I, rfl, q⟩
theorem op_neSD {X : Cx} (hu : X.A.units + 64 < cLine) : OpR X (compareOp .NotEq) (fun x y H Q => TxDk H x y ∧ Q (.bl true) H) := by
  intro pins s σ H x y v u Q I rx ry h
  obtain ⟨h, q⟩ := h
  rcases h with ⟨z, a, o, kvs, rfl, rfl, e⟩ | ⟨z, a, o, kvs, rfl, rfl, e⟩
  · obtain ⟨t, rfl⟩ := rx
    cases ry
    obtain ⟨es, n, ho⟩ := dk_obj I e
    exact rn_str_dict z t ho (by omega) X.prog X.w _ _ ⟨.bl _, H, I, rfl, q⟩
  · obtain ⟨t, rfl⟩ := ry
    cases rx
    obtain ⟨es, n, ho⟩ := dk_obj I e
    exact rn_dict_str z t ho (by omega) X.prog X.w _ _ ⟨.bl _, H, I, rfl, q⟩
/-- surely unlike, whatever stands within -/
def Off (K : PySem.W.Frag) (H : Hp) (x y : V) : Prop := TxDk H x y ∨ (∃ z a xs, x = .str z ∧ y = .ref a ∧ (SqL K H a xs ∨ SqT K H a xs)) ∨ (∃ z a xs, x = .ref a ∧ y = .str z ∧ (SqL K H a xs ∨ SqT K H a xs)) ∨
  (∃ a b xs ys, x = .ref a ∧ y = .ref b ∧ SqT K H a xs ∧ SqT K H b ys ∧ (xs = [] ∨ ys = []) ∧ xs.length ≠ ys.length) ∨ ∃ a b xs ys, x = .ref a ∧ y = .ref b ∧ SqL K H a xs ∧ SqL K H b ys ∧ xs.length ≠ ys.length
theorem op_eqOff {X : Cx} (hu : X.A.units + 64 < cLine) : OpR X (compareOp .Eq) (fun x y H Q => Off X.K H x y ∧ Q (.bl false) H) := by
  intro pins s σ H x y v u Q I rx ry h
  obtain ⟨h, q⟩ := h
  rcases h with h | ⟨z, a, xs, rfl, rfl, e⟩ | ⟨z, a, xs, rfl, rfl, e⟩ | ⟨a, b, xs, ys, rfl, rfl, e1, e2, em, hl⟩ | ⟨a, b, xs, ys, rfl, rfl, e1, e2, hl⟩
  · exact op_eqSD hu pins s σ H x y v u Q I rx ry ⟨h, q⟩
  · obtain ⟨t, rfl⟩ := rx
    cases ry
    rcases e with e | e
    · obtain ⟨its, r, pl, hz⟩ := I.list e
      exact RcAt.str_list z t pl.isList (by omega) X.prog X.w _ _ ⟨.bl _, H, I, rfl, q⟩
    · obtain ⟨its, r, pl, hz⟩ := I.tuple e
      exact RcAt.str_tuple z t pl (by omega) X.prog X.w _ _ ⟨.bl _, H, I, rfl, q⟩
  · obtain ⟨t, rfl⟩ := ry
    cases rx
    rcases e with e | e
    · obtain ⟨its, r, pl, hz⟩ := I.list e
      exact RcAt.list_str z t pl.isList (by omega) X.prog X.w _ _ ⟨.bl _, H, I, rfl, q⟩
    · obtain ⟨its, r, pl, hz⟩ := I.tuple e
      exact RcAt.tuple_str z t pl (by omega) X.prog X.w _ _ ⟨.bl _, H, I, rfl, q⟩
  · cases rx
    cases ry
    obtain ⟨its, r, pl, hz⟩ := I.tuple e1
    obtain ⟨its2, r2, pl2, hz2⟩ := I.tuple e2
    have l1 := r.length
    have l2 := r2.length
    have hm : min its.toArray.size its2.toArray.size = 0 := by
      rw [List.size_toArray, List.size_toArray]
      rcases em with rfl | rfl
      · simp at l1; omega
      · simp at l2; omega
    have hz : (its.toArray.size == its2.toArray.size) = false := by
      rw [List.size_toArray, List.size_toArray, beq_eq_false_iff_ne]
      omega
    have := RcAt.tuples (e := fun _ => true) (A := X.A) pl pl2 (by omega) (fun j h1 h2 => absurd (Nat.lt_min.mpr ⟨h1, h2⟩) (by omega))
    rw [hz, Bool.and_false] at this
    exact this X.prog X.w _ _ ⟨.bl _, H, I, rfl, q⟩
  · cases rx
    cases ry
    obtain ⟨its, r, pl, hz⟩ := I.list e1
    obtain ⟨its2, r2, pl2, hz2⟩ := I.list e2
    have l1 := r.length
    have l2 := r2.length
    exact RcAt.lists_lengths pl.isList pl2.isList (by rw [List.size_toArray, List.size_toArray, bne_iff_ne]; omega) (by omega) X.prog X.w _ _ ⟨.bl _, H, I, rfl, q⟩
theorem op_neOff {X : Cx} (hu : X.A.units + 64 < cLine) : OpR X (compareOp .NotEq) (fun x y H Q => Off X.K H x y ∧ Q (.bl true) H) := by
  intro pins s σ H x y v u Q I rx ry h
  obtain ⟨h, q⟩ := h
  rcases h with h | ⟨z, a, xs, rfl, rfl, e⟩ | ⟨z, a, xs, rfl, rfl, e⟩ | ⟨a, b, xs, ys, rfl, rfl, e1, e2, em, hl⟩ | ⟨a, b, xs, ys, rfl, rfl, e1, e2, hl⟩
  · exact op_neSD hu pins s σ H x y v u Q I rx ry ⟨h, q⟩
  · obtain ⟨t, rfl⟩ := rx
    cases ry
    rcases e with e | e
    · obtain ⟨its, r, pl, hz⟩ := I.list e
      exact RcNeAt.str_list z t pl.isList (by omega) X.prog X.w _ _ ⟨.bl _, H, I, rfl, q⟩
    · obtain ⟨its, r, pl, hz⟩ := I.tuple e
      exact RcNeAt.str_tuple z t pl (by omega) X.prog X.w _ _ ⟨.bl _, H, I, rfl, q⟩
  · obtain ⟨t, rfl⟩ := ry
    cases rx
    rcases e with e | e
    · obtain ⟨its, r, pl, hz⟩ := I.list e
      exact RcNeAt.list_str z t pl.isList (by omega) X.prog X.w _ _ ⟨.bl _, H, I, rfl, q⟩
    · obtain ⟨its, r, pl, hz⟩ := I.tuple e
      exact RcNeAt.tuple_str z t pl (by omega) X.prog X.w _ _ ⟨.bl _, H, I, rfl, q⟩
  · cases rx
    cases ry
    obtain ⟨its, r, pl, hz⟩ := I.tuple e1
    obtain ⟨its2, r2, pl2, hz2⟩ := I.tuple e2
    have l1 := r.length
    have l2 := r2.length
    have hm : min its.toArray.size its2.toArray.size = 0 := by
      rw [List.size_toArray, List.size_toArray]
      rcases em with rfl | rfl
      · simp at l1; omega
      · simp at l2; omega
    have hz : (its.toArray.size == its2.toArray.size) = false := by
      rw [List.size_toArray, List.size_toArray, beq_eq_false_iff_ne]
      omega
    have := RcNeAt.tuples (e := fun _ => true) (A := X.A) pl pl2 (by omega) (fun j h1 h2 => absurd (Nat.lt_min.mpr ⟨h1, h2⟩) (by omega))
    rw [hz, Bool.and_false, Bool.not_false] at this
    exact this X.prog X.w _ _ ⟨.bl _, H, I, rfl, q⟩
  · cases rx
    cases ry
    obtain ⟨its, r, pl, hz⟩ := I.list e1
    obtain ⟨its2, r2, pl2, hz2⟩ := I.list e2
    have l1 := r.length
    have l2 := r2.length
    exact RcNeAt.lists_lengths pl.isList pl2.isList (by rw [List.size_toArray, List.size_toArray, bne_iff_ne]; omega) (by omega) X.prog X.w _ _ ⟨.bl _, H, I, rfl, q⟩
theorem eq_str_dict {A : Around} {s : Shared} {l : Addr} {dd : Option Addr} {es : Array DictEntry} {n : Nat} {sl : Array (Option Value)} (b : Str) (u : Tok)
    (ho : s.heap.get? l = some { cls := .type "dict", dict := dd, data := .dict es n, slots := sl }) (hu : A.units < cLine) : EqAt A s (.str b u) (.ref l) false := fun prog w E Q h => by
  unfold eqBool
  refine wpAny_holding ?_
  refine wpAny_ite_split (fun hab => absurd (eq_of_beq hab) nofun) (fun _ => ?_)
  exact wpAny_bind (rc_str_dict b u ho hu prog w E _ (wpAny_truthy_bool h))
/-- a dict, a tuple, a list among texts: it is none of them -/
def DkIn (K : PySem.W.Frag) (H : Hp) (x y : V) : Prop := ∃ a b xs, x = .ref a ∧ ((∃ o kvs, H a = some (.frz o (.dK kvs))) ∨ ∃ zs, SqL K H a zs ∨ SqT K H a zs) ∧ y = .ref b ∧ SqL K H b xs ∧ ∀ v ∈ xs, ∃ z, v = V.str z
theorem eq_str_off {X : Cx} {pins : List (Addr × Obj)} {σ : L2.St} {H : Hp} {s : Shared} (I : Inv X pins σ H s) {a : Addr} (h : (∃ o kvs, H a = some (.frz o (.dK kvs))) ∨ ∃ zs, SqL X.K H a zs ∨ SqT X.K H a zs) {A : Around} (hu : A.units < cLine) (b : Str) (u : Tok) : EqAt A s (.str b u) (.ref a) false := by
  rcases h with ⟨o, kvs, e⟩ | ⟨zs, e | e⟩
  · obtain ⟨es, n, ho⟩ := dk_obj I e
    exact eq_str_dict b u ho hu
  · obtain ⟨its, r, pl, hz⟩ := I.list e
    exact EqAt.str_list b u pl.isList hu
  · obtain ⟨its, r, pl, hz⟩ := I.tuple e
    exact EqAt.str_tuple b u pl hu
theorem vals_strs : ∀ {xs : List V} {us : List Value}, Vals xs us → (∀ v ∈ xs, ∃ z, v = V.str z) → ∀ u ∈ us, ∃ z t, u = Value.str z t
  | _, _, .nil, _, u, hu => by cases hu
  | _, _, .cons r rs, h, u, hu => by
    rcases List.mem_cons.mp hu with rfl | hu
    · obtain ⟨z, rfl⟩ := h _ (List.mem_cons_self ..)
      obtain ⟨t, rfl⟩ := r
      exact ⟨z, t, rfl⟩
    · exact vals_strs rs (fun v hv => h v (List.mem_cons_of_mem _ hv)) u hu
theorem any_false (us : Array Value) : us.any (fun _ => false) = false := by simp
theorem op_inSD {X : Cx} (hu : X.A.units + 65 < cLine) : OpR X (compareOp .In) (fun x y H Q => DkIn X.K H x y ∧ Q (.bl false) H) := by
  intro pins s σ H x y v u Q I rx ry h
  obtain ⟨⟨a, b, xs, rfl, e, rfl, hs, hx⟩, q⟩ := h
  cases rx
  cases ry
  obtain ⟨its, rv, ⟨ol, m, hol, hc, _, hd⟩, _⟩ := I.list hs
  have hst := vals_strs rv hx
  refine in_listAt (fun _ => false) ⟨ol, hol, hc, m, hd⟩ (fun y hy => ?_) ?_
  · obtain ⟨z, t, rfl⟩ := hst y (by simpa using hy)
    exact eq_str_off I e (by have : X.A.in1.units = X.A.units + 1 := rfl; omega) z t
  · rw [any_false]
    exact ⟨.bl _, H, I, rfl, q⟩
theorem op_notInSD {X : Cx} (hu : X.A.units + 65 < cLine) : OpR X (compareOp .NotIn) (fun x y H Q => DkIn X.K H x y ∧ Q (.bl true) H) := by
  intro pins s σ H x y v u Q I rx ry h
  obtain ⟨⟨a, b, xs, rfl, e, rfl, hs, hx⟩, q⟩ := h
  cases rx
  cases ry
  obtain ⟨its, rv, ⟨ol, m, hol, hc, _, hd⟩, _⟩ := I.list hs
  have hst := vals_strs rv hx
  refine notIn_listAt (fun _ => false) ⟨ol, hol, hc, m, hd⟩ (fun y hy => ?_) ?_
  · obtain ⟨z, t, rfl⟩ := hst y (by simpa using hy)
    exact eq_str_off I e (by have : X.A.in1.units = X.A.units + 1 := rfl; omega) z t
  · rw [any_false]
    exact ⟨.bl _, H, I, rfl, q⟩
end DV

set_option maxHeartbeats 4000000
/-! Tuples made in the run, their objects known. -/
namespace DV
open PySem PySem.Spec PyProof.Rows L2
abbrev tupB (us : List Value) : Obj := { cls := .type "tuple", data := .seq us.toArray }
section
variable {X : Cx} {pins : List (Addr × Obj)} {σ : L2.St} {H : Hp} {s : Shared} {xs : List V} {us : List Value} {Q : VK}
/-- a tuple is laid behind all that stands -/
theorem lay_tupF (I : Inv X pins σ H s) (r : Vals xs us) (hz : xs.length ≤ sizeLine) (q : ∀ p (o : Obj), o.dict = none → H p = none → Q (.ref p) (upd H p (.frz o (.tup xs)))) : EP X pins σ Q (.ref s.heap.objs.size) { s with heap := s.heap.push (tupB us) } :=
  ⟨.ref s.heap.objs.size, _, I.laid (t' := s.toks) (fun b u e => Heap.get?_push_of_some _ e) (Nat.le_refl _) (tupF_ok hz r (Heap.get?_push_size _ rfl) rfl rfl), rfl, q _ (tupB us) rfl (I.hok.fresh (Nat.le_refl _))⟩
end
section
variable {X : Cx}
/-- divmod -/
theorem call_divmodF : CallR X (.builtin "divmod") (fun xs H Q => ∃ i j, xs = [.int i, .int j] ∧ CDiv i j ∧ ∀ p (o : Obj), o.dict = none → H p = none → Q (.ref p) (upd H p (.frz o (.tup [.int (i / j), .int (i % j)])))) := by
  intro pins s σ H xs us Q I r h
  obtain ⟨i, j, rfl, hij, q⟩ := h
  obtain ⟨a, b, rfl, ⟨t, rfl⟩, ⟨t', rfl⟩⟩ := vals2 r
  have j0 : 0 ≤ j := by have := hij.1; omega
  refine divmod_int (by have := hij.1; omega) ?_ (.inl (PyProof.noPylong_small (by have := hij.2; omega)))
  rw [Int.fdiv_eq_ediv_of_nonneg i j0, Int.fmod_eq_emod_of_nonneg i j0]
  exact lay_tupF (xs := [.int (i / j), .int (i % j)]) (us := [.int (i / j) s.toks, .int (i % j) (s.toks + 1)]) (s := { s with toks := s.toks + 2 }) (I.tok _) (.cons ⟨_, rfl⟩ (.cons ⟨_, rfl⟩ .nil)) (by show 2 ≤ sizeLine; decide) q
/-- tuple(x) -/
theorem call_tupleF : CallR X (.type "tuple") (fun xs H Q => ∃ p ys, xs = [.ref p] ∧ ((SqL X.K H p ys ∧ (ys.length ≤ sizeLine → ∀ l (o : Obj), o.dict = none → H l = none → Q (.ref l) (upd H l (.frz o (.tup ys))))) ∨ (SqT X.K H p ys ∧ Q (.ref p) H))) := by
  intro pins s σ H xs us Q I r h
  obtain ⟨p, ys, rfl, h⟩ := h
  rcases h with ⟨hl, q⟩ | ⟨ht, q⟩
  · obtain ⟨u, rfl, rx⟩ := vals1 r
    cases rx
    obtain ⟨its, rv, pl, hz⟩ := I.list hl
    refine call_tuple_list pl.isList (fun h' kp => ?_) (by rw [List.size_toArray, ← rv.length]; exact hz)
    exact lay_tupF (s := { s with heap := h' }) (I.kept (t' := s.toks) kp) rv hz (q hz)
  · exact call_tuple_of pins s σ H _ us Q I r ⟨p, ys, rfl, .inr ⟨ht, q⟩⟩
/-- t + u -/
theorem op_catS : OpR X (binaryOp .Add) (fun x y H Q => ∃ a b xs ys, x = V.ref a ∧ y = V.ref b ∧ SqT X.K H a xs ∧ SqT X.K H b ys ∧ xs.length + ys.length ≤ sizeLine ∧
    (xs = [] → Q (.ref b) H) ∧ (xs ≠ [] → ys = [] → Q (.ref a) H) ∧ (xs ≠ [] → ys ≠ [] → ∀ p (o : Obj), o.dict = none → H p = none → Q (.ref p) (upd H p (.frz o (.tup (xs ++ ys)))))) := by
  intro pins s σ H x y v u Q I rx ry h
  obtain ⟨a, b, xs, ys, rfl, rfl, ha, hb, hz, q0, q1, q2⟩ := h
  by_cases hx : xs = []
  · exact op_catA pins s σ H _ _ v u Q I rx ry ⟨a, b, xs, ys, rfl, rfl, ha, hb, hz, q0, q1, fun z => absurd hx z⟩
  cases rx
  cases ry
  obtain ⟨vs, r1, p1, _⟩ := I.tuple ha
  obtain ⟨ws, r2, p2, _⟩ := I.tuple hb
  refine HT.cat_tup p1 p2 (fun z => hx (r1.nil_iff.mp z)) (fun z => ⟨.ref a, H, I, rfl, q1 hx (r2.nil_iff.mp z)⟩) (fun z => ?_) (by rw [← r1.length, ← r2.length]; exact hz)
  exact lay_tupF I (r1.append r2) (by rw [List.length_append]; exact hz) (q2 hx fun e => z (r2.nil_iff.mpr e))
/-- t[lo:hi] -/
theorem sl_tupS : SlR X (fun x lo hi H Q => ∃ a xs, x = .ref a ∧ SqT X.K H a xs ∧
    (HT.sIx xs.length 0 lo = 0 ∧ HT.sIx xs.length xs.length hi = xs.length → Q (.ref a) H) ∧ (¬ (HT.sIx xs.length 0 lo = 0 ∧ HT.sIx xs.length xs.length hi = xs.length) → ∀ p (o : Obj), o.dict = none → H p = none → Q (.ref p) (upd H p (.frz o (.tup (cutV xs lo hi)))))) := by
  intro pins s σ H x v vl vu lo hi sl Q I rx hs pl pu h
  obtain ⟨a, xs, rfl, hx, q1, q2⟩ := h
  by_cases hw : HT.sIx xs.length 0 lo = 0 ∧ HT.sIx xs.length xs.length hi = xs.length
  · exact sl_tupA pins s σ H _ v vl vu lo hi sl Q I rx hs pl pu ⟨a, xs, rfl, hx, q1, fun z => absurd hw z⟩
  cases rx
  obtain ⟨its, r, ht, hz⟩ := I.tuple hx
  have hlen : its.toArray.size = xs.length := by rw [List.size_toArray]; exact r.length.symm
  refine ⟨"tuple", _, PyProof.Rows.slot_tuple_getitem.lookup, ht.typeIs, HT.getItem_tuple_cut ht hs pl pu (by rw [hlen]; exact hw) ?_ (by rw [hlen]; exact hz)⟩
  rw [hlen]
  exact lay_tupF I ((r.drop _).take _) (Nat.le_trans (cutV_length xs lo hi) hz) (q2 hw)
end
end DV

set_option maxHeartbeats 4000000
namespace DV
open PySem PySem.Spec PyProof.Rows L2
/-! Operators, built-ins, methods by values. -/
section
variable {X : Cx}
theorem dop_int {o : Value → Value → Sem Value} {gi : Int → Int → PyData} {gv : Int → Int → V} {C : Int → Int → Prop} [∀ i j, Decidable (C i j)] (h : OpR X o (rI C gv)) (hg : ∀ K H i j, Pp K H (gv i j) (gi i j)) {g : D → D → Sto → R D}
    (eg : ∀ d e S, g d e S = match d, e with
      | .py (.int i), .py (.int j) => if C i j then .ok (.py (gi i j)) S else .no
      | _, _ => .no) : DOp X o g := by
  refine ⟨_, h, fun x y d e H S ι E Q hS rx ry hw => ?_⟩
  rw [eg] at hw
  split at hw
  · split at hw
    · rename_i hc
      exact ⟨_, _, int_of rx, int_of ry, hc, hw _ _ _ (.refl hS) (.py (hg _ _ _ _))⟩
    · exact hw.elim
  · exact hw.elim
theorem dop_int0 {o : Value → Value → Sem Value} {gi : Int → Int → PyData} {gv : Int → Int → V} (h : OpR X o (rI0 gv)) (hg : ∀ K H i j, Pp K H (gv i j) (gi i j)) {g : D → D → Sto → R D}
    (eg : ∀ d e S, g d e S = match d, e with
      | .py (.int i), .py (.int j) => .ok (.py (gi i j)) S
      | _, _ => .no) : DOp X o g := by
  refine ⟨_, h, fun x y d e H S ι E Q hS rx ry hw => ?_⟩
  rw [eg] at hw
  split at hw
  · exact ⟨_, _, int_of rx, int_of ry, hw _ _ _ (.refl hS) (.py (hg _ _ _ _))⟩
  · exact hw.elim
theorem do_sub : DOp X (binaryOp .Sub) subD := dop_int0 op_sub (fun _ _ i j => .int (i - j)) fun d e S => by cases d with | obj _ => rfl | raw _ => rfl | py d => cases d <;> first | rfl | (cases e with | obj _ => rfl | raw _ => rfl | py e => cases e <;> rfl)
instance (i j : Int) : Decidable (CMul i j) := by unfold CMul; exact inferInstance
instance (i j : Int) : Decidable (CDiv i j) := by unfold CDiv; exact inferInstance
instance (i j : Int) : Decidable (CPow i j) := by unfold CPow; exact inferInstance
theorem do_mul : DOp X (binaryOp .Mult) mulD := dop_int op_mul (fun _ _ i j => .int (i * j)) fun d e S => by cases d with | obj _ => rfl | raw _ => rfl | py d => cases d <;> first | rfl | (cases e with | obj _ => rfl | raw _ => rfl | py e => cases e <;> rfl)
theorem do_fdiv : DOp X (binaryOp .FloorDiv) fdivD := dop_int op_fdiv (fun _ _ i j => .int (i / j)) fun d e S => by cases d with | obj _ => rfl | raw _ => rfl | py d => cases d <;> first | rfl | (cases e with | obj _ => rfl | raw _ => rfl | py e => cases e <;> rfl)
theorem do_mod : DOp X (binaryOp .Mod) modD := dop_int op_mod (fun _ _ i j => .int (i % j)) fun d e S => by cases d with | obj _ => rfl | raw _ => rfl | py d => cases d <;> first | rfl | (cases e with | obj _ => rfl | raw _ => rfl | py e => cases e <;> rfl)
theorem do_le : DOp X (compareOp .LtE) (cmpI fun i j => decide (i ≤ j)) := dop_int0 op_le (fun _ _ i j => .bl _) fun d e S => by cases d with | obj _ => rfl | raw _ => rfl | py d => cases d <;> first | rfl | (cases e with | obj _ => rfl | raw _ => rfl | py e => cases e <;> rfl)
theorem do_gt : DOp X (compareOp .Gt) (cmpI fun i j => decide (j < i)) := dop_int0 op_gt (fun _ _ i j => .bl _) fun d e S => by cases d with | obj _ => rfl | raw _ => rfl | py d => cases d <;> first | rfl | (cases e with | obj _ => rfl | raw _ => rfl | py e => cases e <;> rfl)
theorem du_neg : DUn X (unaryOp .USub) negD := ⟨_, un_neg, fun x d H S ι E Q hS rx hw => by
  unfold negD at hw
  split at hw
  · exact ⟨_, int_of rx, hw _ _ _ (.refl hS) (.py (.int _))⟩
  · exact hw.elim⟩
/-! ### lists and tuples put together -/
theorem op_catF : OpR X (binaryOp .Add) (fun x y H Q => ∃ l b xs zs, x = .ref l ∧ y = .ref b ∧ SqL X.K H l xs ∧ SqL X.K H b zs ∧ xs.length + zs.length ≤ sizeLine ∧ ∀ p o, H p = none → Q (.ref p) (upd H p (.frz o (.lst (xs ++ zs))))) := by
  intro pins s σ H x y v u Q I rx ry h
  obtain ⟨l, b, xs, zs, rfl, rfl, hl, hb, hz, q⟩ := h
  cases rx
  cases ry
  obtain ⟨its, r, ⟨⟨c1, d1, dt1, s1⟩, n1, e1, hc1, hd1, hs1⟩, _⟩ := I.list hl
  obtain ⟨its2, r2, ⟨⟨c2, d2, dt2, s2⟩, n2, e2, hc2, hd2, hs2⟩, _⟩ := I.list hb
  simp only at hc1 hd1 hs1 hc2 hd2 hs2
  subst hc1 hd1 hs1 hc2 hd2 hs2
  refine concat_meets ⟨_, e1, rfl⟩ ⟨_, e2, rfl⟩ noFill_list_add seq_list_add PySem.F.slot_list_add PySem.F.entry_list_add (PySem.F.args_list_add_2 _ _) (list_addW l b its.toArray its2.toArray n1 n2 none none s1 s2 (by rw [List.size_toArray, List.size_toArray, ← r.length, ← r2.length]; exact hz)) ⟨e1, e2, ?_⟩
  have ea : its.toArray ++ its2.toArray = (its ++ its2).toArray := by simp
  rw [ea]
  have I2 := I.lnew (t' := s.toks) (r.append r2) (by rw [List.length_append]; exact hz)
  obtain ⟨o, I3⟩ := I2.lock upd_same trivial
  rw [upd_upd] at I3
  exact ⟨.ref _, _, I3, rfl, q _ o I.fresh⟩
theorem do_add : DOp X (binaryOp .Add) addD := by
  refine ⟨_, ((op_add (X := X)).or (op_add_str (X := X))).or ((op_catF (X := X)).or (op_catS (X := X))), fun x y d e H S ι E Q hS rx ry hw => ?_⟩
  unfold addD at hw
  split at hw
  · exact .inl (.inl ⟨_, _, int_of rx, int_of ry, hw _ _ _ (.refl hS) (.py (.int _))⟩)
  · split at hw
    · rename_i hz
      exact .inl (.inr ⟨_, _, str_of rx, str_of ry, hz, hw _ _ _ (.refl hS) (.py (.str _))⟩)
    · exact hw.elim
  · split at hw
    · rename_i xs ys S hz
      cases rx with
      | py rx =>
        cases rx with
        | lst h1 z1 a1 =>
          cases ry with
          | py ry =>
            cases ry with
            | lst h2 z2 a2 =>
              refine .inr (.inl ⟨_, _, _, _, rfl, rfl, h1.sq, h2.sq, by rw [a1.length, a2.length]; exact hz, fun p o hp => hw _ _ _ (.new hS hp) (.py (.lst (.inl ⟨o, upd_same⟩) (by rw [List.length_append]; exact hz) ?_))⟩)
              exact (a1.append a2).keep (.new hp)
    · exact hw.elim
  · split at hw
    · rename_i xs ys S hz
      cases rx with
      | py rx =>
        cases rx with
        | tup h1 z1 a1 =>
          cases ry with
          | py ry =>
            cases ry with
            | tup h2 z2 a2 =>
              refine .inr (.inr ⟨_, _, _, _, rfl, rfl, h1.sq, h2.sq, by rw [a1.length, a2.length]; exact hz, fun e0 => ?_, fun _ e0 => ?_, fun _ _ p o ho hp => hw _ _ _ (.new hS hp) (.py (.tup (.new ho) (by rw [List.length_append]; exact hz) ?_))⟩)
              · subst e0
                cases a1
                exact hw _ _ _ (.refl hS) (.py (.tup h2 z2 a2))
              · subst e0
                cases a2
                rw [List.append_nil] at hw
                exact hw _ _ _ (.refl hS) (.py (.tup h1 z1 a1))
              · exact (a1.append a2).keep (.new hp)
    · exact hw.elim
  · exact hw.elim
/-! ### == -/
theorem flat_scal {K : PySem.W.Frag} {H : Hp} {x y : V} {d e : PyData} {k : Bool} (rx : Pp K H x d) (ry : Pp K H y e) (h : flatD d e = some k) : scal x y = true ∧ decide (x = y) = k := by
  cases rx <;> cases ry <;> simp [flatD] at h <;> subst h <;> simp [scal]
theorem txdk_of {K : PySem.W.Frag} {H : Hp} {x y : V} {d e : PyData} (rx : Pp K H x d) (ry : Pp K H y e) (h : dkTx d e = true) : TxDk H x y := by
  cases rx <;> cases ry <;> simp [dkTx] at h
  · rename_i z a o kvs ds e _ _
    exact .inl ⟨_, _, _, _, rfl, rfl, e⟩
  · rename_i a o kvs ds e _ _ z
    exact .inr ⟨_, _, _, _, rfl, rfl, e⟩
theorem off_of {K : PySem.W.Frag} {H : Hp} {x y : V} {d e : PyData} (rx : Pp K H x d) (ry : Pp K H y e) (h : offB d e = true) : Off K H x y := by
  cases rx <;> cases ry
  case str.dic => exact .inl (txdk_of (.str _) (.dic ‹_› ‹_› ‹_›) rfl)
  case dic.str => exact .inl (txdk_of (.dic ‹_› ‹_› ‹_›) (.str _) rfl)
  case str.lst => exact .inr (.inl ⟨_, _, _, rfl, rfl, .inl (FL.sq ‹_›)⟩)
  case str.tup => exact .inr (.inl ⟨_, _, _, rfl, rfl, .inr (FT.sq ‹_›)⟩)
  case lst.str => exact .inr (.inr (.inl ⟨_, _, _, rfl, rfl, .inl (FL.sq ‹_›)⟩))
  case tup.str => exact .inr (.inr (.inl ⟨_, _, _, rfl, rfl, .inr (FT.sq ‹_›)⟩))
  case lst.lst h1 _ a1 _ _ _ h2 _ a2 =>
    have l1 := a1.length
    have l2 := a2.length
    exact .inr (.inr (.inr (.inr ⟨_, _, _, _, rfl, rfl, h1.sq, h2.sq, by simpa [offB, l1, l2] using h⟩)))
  case tup.tup ds1 h1 _ a1 _ _ ds2 h2 _ a2 =>
    have l1 := a1.length
    have l2 := a2.length
    refine .inr (.inr (.inr (.inl ⟨_, _, _, _, rfl, rfl, h1.sq, h2.sq, ?_⟩)))
    cases a1 <;> cases a2 <;> simp [offB] at h ⊢
  all_goals simp [offB, dkTx] at h
theorem do_eq {k : Nat} {E : XK} (o : Okx k X E) : DOp X (compareOp .Eq) eqD := by
  refine ⟨_, (op_eq (X := X)).or ((op_eqD (X := X) o.room.units).or (op_eqOff (X := X) o.room.units)), fun x y d e H S ι E Q hS rx ry hw => ?_⟩
  cases rx with
  | obj _ => exact hw.elim
  | raw _ => exact hw.elim
  | py rx =>
    cases ry with
    | obj _ => exact hw.elim
    | raw _ => exact hw.elim
    | py ry =>
      unfold eqD eqB at hw
      simp only at hw
      split at hw
      · rename_i k hk
        split at hk
        · rename_i k' hf
          cases hk
          obtain ⟨h1, h2⟩ := flat_scal rx ry hf
          refine .inl ⟨h1, ?_⟩
          rw [h2]
          exact hw _ _ _ (.refl hS) (.py (.bl _))
        · split at hk
          · rename_i hs
            cases hk
            exact .inr (.inl ⟨_, _, rx.dp (noDict_of hs.1), ry.dp (noDict_of hs.2), hs.1, hs.2, hw _ _ _ (.refl hS) (.py (.bl _))⟩)
          · split at hk
            · rename_i hd
              cases hk
              exact .inr (.inr ⟨off_of rx ry hd, hw _ _ _ (.refl hS) (.py (.bl _))⟩)
            · cases hk
      · exact hw.elim
theorem do_ne {k : Nat} {E : XK} (o : Okx k X E) : DOp X (compareOp .NotEq) neD := by
  refine ⟨_, (op_ne (X := X)).or ((op_neD (X := X) o.room.units).or (op_neOff (X := X) o.room.units)), fun x y d e H S ι E Q hS rx ry hw => ?_⟩
  cases rx with
  | obj _ => exact hw.elim
  | raw _ => exact hw.elim
  | py rx =>
    cases ry with
    | obj _ => exact hw.elim
    | raw _ => exact hw.elim
    | py ry =>
      unfold neD eqB at hw
      simp only at hw
      split at hw
      · rename_i k hk
        split at hk
        · rename_i k' hf
          cases hk
          obtain ⟨h1, h2⟩ := flat_scal rx ry hf
          refine .inl ⟨h1, ?_⟩
          rw [h2]
          exact hw _ _ _ (.refl hS) (.py (.bl _))
        · split at hk
          · rename_i hs
            cases hk
            exact .inr (.inl ⟨_, _, rx.dp (noDict_of hs.1), ry.dp (noDict_of hs.2), hs.1, hs.2, hw _ _ _ (.refl hS) (.py (.bl _))⟩)
          · split at hk
            · rename_i hd
              cases hk
              exact .inr (.inr ⟨off_of rx ry hd, hw _ _ _ (.refl hS) (.py (.bl _))⟩)
            · cases hk
      · exact hw.elim
theorem non_iff {K : PySem.W.Frag} {H : Hp} {x : V} {d : PyData} (r : Pp K H x d) : decide (x = .non) = isNon d := by
  cases r <;> simp [isNon]
theorem do_is : DOp X (compareOp .Is) isND := by
  refine ⟨_, op_isN, fun x y d e H S ι E Q hS rx ry hw => ?_⟩
  unfold isND at hw
  split at hw
  · cases ry with
    | py ry =>
      cases rx with
      | py rx =>
        cases ry
        exact ⟨rfl, by rw [non_iff rx]; exact hw _ _ _ (.refl hS) (.py (.bl _))⟩
  · exact hw.elim
theorem do_isnot : DOp X (compareOp .IsNot) notND := by
  refine ⟨_, op_notN, fun x y d e H S ι E Q hS rx ry hw => ?_⟩
  unfold notND at hw
  split at hw
  · cases ry with
    | py ry =>
      cases rx with
      | py rx =>
        cases ry
        exact ⟨rfl, by rw [non_iff rx]; exact hw _ _ _ (.refl hS) (.py (.bl _))⟩
  · exact hw.elim
/-! ### built-ins -/
theorem dc_len : DC X (.builtin "len") lenD := by
  refine ⟨_, (call_len_str (X := X)).or (call_len_seq (X := X)), fun xs ds H S ι E Q hS r hw => ?_⟩
  unfold lenD at hw
  split at hw
  · split at hw
    · rename_i hz
      cases r with
      | cons r rs =>
        cases rs
        exact .inl ⟨_, by rw [str_of r], hz, hw _ _ _ (.refl hS) (.py (.int _))⟩
    · exact hw.elim
  · split at hw
    · rename_i ds' hds
      cases r with
      | cons r rs =>
        cases rs
        obtain ⟨a, vs, rfl, hq, rr⟩ := seq_of hS r hds
        refine .inr ⟨a, vs, rfl, hq.imp id fun z => z.1.sq, ?_⟩
        rw [rr.length]
        exact hw _ _ _ (.refl hS) (.py (.int _))
    · exact hw.elim
  · exact hw.elim
theorem dc_max2 {k : Nat} {E : XK} (o : Okx k X E) : DC X (.builtin "max") max2D := by
  refine ⟨_, call_max2 o.calm, fun xs ds H S ι E Q hS r hw => ?_⟩
  unfold max2D at hw
  split at hw
  · cases r with
    | cons r rs =>
      cases rs with
      | cons r2 rs =>
        cases rs
        exact ⟨_, _, by rw [int_of r, int_of r2], hw _ _ _ (.refl hS) (.py (.int _))⟩
  · exact hw.elim
theorem dc_min2 {k : Nat} {E : XK} (o : Okx k X E) : DC X (.builtin "min") min2D := by
  refine ⟨_, call_min2 o.calm, fun xs ds H S ι E Q hS r hw => ?_⟩
  unfold min2D at hw
  split at hw
  · cases r with
    | cons r rs =>
      cases rs with
      | cons r2 rs =>
        cases rs
        exact ⟨_, _, by rw [int_of r, int_of r2], hw _ _ _ (.refl hS) (.py (.int _))⟩
  · exact hw.elim
theorem dc_abs : DC X (.builtin "abs") absD := by
  refine ⟨_, call_abs, fun xs ds H S ι E Q hS r hw => ?_⟩
  unfold absD at hw
  split at hw
  · cases r with
    | cons r rs =>
      cases rs
      exact ⟨_, by rw [int_of r], hw _ _ _ (.refl hS) (.py (.int _))⟩
  · exact hw.elim
theorem dc_divmod : DC X (.builtin "divmod") divmodD := by
  refine ⟨_, call_divmodF, fun xs ds H S ι E Q hS r hw => ?_⟩
  unfold divmodD at hw
  split at hw
  · split at hw
    · rename_i hz
      cases r with
      | cons r rs =>
        cases rs with
        | cons r2 rs =>
          cases rs
          exact ⟨_, _, by rw [int_of r, int_of r2], hz, fun p o ho hp => hw _ _ _ (.new hS hp) (.py (.tup (.new ho) (by show 2 ≤ sizeLine; decide) (.cons (.int _) (.cons (.int _) .nil))))⟩
    · exact hw.elim
  · exact hw.elim
theorem dc_tuple : DC X (.type "tuple") tupleD := by
  refine ⟨_, call_tupleF, fun xs ds H S ι E Q hS r hw => ?_⟩
  unfold tupleD at hw
  split at hw
  · split at hw
    · rename_i ds' hds
      split at hw
      · rename_i ps hp
        cases r with
        | cons r rs =>
          cases rs
          obtain ⟨a, vs, rfl, hq, rr⟩ := seq_of hS r hds
          have al := RdAll.pys rr hp
          rcases hq with hq | ⟨hq, qs, e, hz⟩
          · exact ⟨a, vs, rfl, .inl ⟨hq, fun z l o ho hl => hw _ _ _ (.new hS hl) (.py (.tup (.new ho) (by rw [← al.length]; exact z) (al.keep (.new hl))))⟩⟩
          · subst e
            refine ⟨a, vs, rfl, .inr ⟨hq.sq, hw _ _ _ (.refl hS) (.py (.tup hq ?_ al))⟩⟩
            simp only [seqOf] at hds
            cases hds
            rw [pysOf_length hp, List.length_map]
            exact hz
      · exact hw.elim
    · exact hw.elim
  · exact hw.elim
/-- a built-in that makes a new list -/
def DCL (X : Cx) (o : Value) (g : List D → Sto → R (List D)) : Prop := ∃ r, CallR X o r ∧ ∀ xs ds H S ι E Q, StR X.K ι H S → RdAll X.K ι H xs ds → Wp X.K X.mg E ι H (relL X.K H) (g ds S) Q → r xs H Q
theorem signs_rd {K : PySem.W.Frag} {ι : List Addr} {H : Hp} (l : List Nat) : RdAll K ι H (l.map fun c => V.str ⟨#[c]⟩) (l.map fun c => D.py (.str ⟨#[c]⟩)) := by
  induction l with
  | nil => exact .nil
  | cons c l ih => exact .cons (.py (.str _)) ih
theorem paired_ix {α β : Type} {G : α → β → Prop} : ∀ {l₁ : List α} {l₂ : List β}, l₁.length = l₂.length → (∀ (i : Nat) x y, l₁[i]? = some x → l₂[i]? = some y → G x y) → Paired G l₁ l₂
  | [], [], _, _ => .nil
  | _ :: _, [], h, _ => by cases h
  | [], _ :: _, h, _ => by cases h
  | a :: l, b :: m, h, q => .cons (q 0 a b rfl rfl) (paired_ix (Nat.succ.inj h) fun i x y e1 e2 => q (i + 1) x y (by simpa using e1) (by simpa using e2))
theorem items_signs {x : Str} {acc : Array Value} (h : ItemsOf (SignAt x) acc x.cps.size) : Vals (x.cps.toList.map fun c => V.str ⟨#[c]⟩) acc.toList := by
  refine paired_ix (by rw [List.length_map, Array.length_toList, Array.length_toList, h.1]) fun i v u e1 e2 => ?_
  rw [Array.getElem?_toList] at e2
  obtain ⟨c, t, h1, h2⟩ := h.2 i u e2
  rw [List.getElem?_map, Array.getElem?_toList, h1] at e1
  cases e1
  exact ⟨t, h2⟩
theorem call_listB : CallR X (.type "list") (fun xs H Q => ∃ p ys, xs = [.ref p] ∧ (SqL X.K H p ys ∨ SqT X.K H p ys) ∧ (ys.length ≤ sizeLine → ∀ l, H l = none → Q (.ref l) (upd H l (.lst ys)))) := by
  intro pins s σ H xs us Q I r h
  obtain ⟨p, ys, rfl, h1, h2⟩ := h
  have z : ys.length ≤ sizeLine := by
    rcases h1 with h1 | h1
    · obtain ⟨_, _, _, z⟩ := I.list h1
      exact z
    · obtain ⟨_, _, _, z⟩ := I.tuple h1
      exact z
  exact call_list_of pins s σ H _ us Q I r ⟨p, ys, rfl, h1, h2 z⟩
theorem call_list_strD {k : Nat} {E : XK} (o : Okx k X E) : CallR X (.type "list") (fun xs H Q => ∃ x, xs = [.str x] ∧ x.length ≤ sizeLine ∧ ∀ l, H l = none → Q (.ref l) (upd H l (.lst (x.cps.toList.map fun c => V.str ⟨#[c]⟩)))) := by
  intro pins s σ H xs us Q I r h
  obtain ⟨x, rfl, hz, q⟩ := h
  obtain ⟨u, rfl, ru⟩ := vals1 r
  obtain ⟨t, rfl⟩ := ru
  refine call_list_str (I.ok.hd o.calm) x t (fun h' tk acc' c' hk hS hacc => ?_) hz
  refine ⟨.ref _, _, I.laid (t' := tk) hk (Nat.le_refl _) ?_, rfl, q _ I.fresh⟩
  refine ⟨by rw [List.length_map, Array.length_toList]; exact hz, acc'.toList, c', items_signs hacc, ?_⟩
  simpa using hS
theorem dcl_list {k : Nat} {E : XK} (o : Okx k X E) : DCL X (.type "list") listD := by
  refine ⟨_, (call_list_strD o).or (call_listB (X := X)), fun xs ds H S ι E Q hS r hw => ?_⟩
  unfold listD at hw
  split at hw
  · split at hw
    · rename_i hz
      cases r with
      | cons r rs =>
        cases rs
        refine .inl ⟨_, by rw [str_of r], hz, fun l hl => hw _ _ _ (.new hS hl) ⟨l, _, hl, rfl, upd_same, hS.notin hl, by rw [List.length_map, Array.length_toList]; exact hz, signs_rd _⟩⟩
    · exact hw.elim
  · split at hw
    · rename_i ds' hds
      cases r with
      | cons r rs =>
        cases rs
        obtain ⟨a, vs, rfl, hq, rr⟩ := seq_of hS r hds
        exact .inr ⟨a, vs, rfl, hq.imp id fun z => z.1.sq, fun z l hl => hw _ _ _ (.new hS hl) ⟨l, _, hl, rfl, upd_same, hS.notin hl, z, RdAll.mono (List.prefix_refl _) (.new hl) rr⟩⟩
    · exact hw.elim
  · exact hw.elim
/-! ### the text of a value -/
mutual
theorem deep_dp {K : PySem.W.Frag} {ι : List Addr} {H : Hp} {S : Sto} (hS : StR K ι H S) : ∀ (n : Nat) {v : V} {d : D} {p : PyData}, Rd K ι H v d → deep S n d = some p → p.hasDict = false → Dp K H v p
  | 0, _, _, _, _, h, _ => by cases h
  | n + 1, v, .py d, p, r, h, q => by
    cases r with
    | py r => cases h; exact r.dp q
  | n + 1, v, .obj m, p, r, h, q => by
    cases r with
    | obj e =>
      simp only [deep] at h
      split at h
      · rename_i ds hd
        rw [Option.map_eq_some_iff] at h
        obtain ⟨ps, h1, h2⟩ := h
        subst h2
        cases hS.at_ _ _ _ hd e with
        | lst ha rr => exact .lst (.of ha) (deep_all hS n rr h1 (by rw [PyData.hasDict.eq_5] at q; exact q))
      · cases h
theorem deep_all {K : PySem.W.Frag} {ι : List Addr} {H : Hp} {S : Sto} (hS : StR K ι H S) (n : Nat) : ∀ {vs : List V} {ds : List D} {ps : List PyData}, RdAll K ι H vs ds → ds.mapM (deep S n) = some ps → PyData.hasDictAll ps = false → DpAll K H vs ps
  | _, [], _, .nil, h, _ => by
    simp at h
    subst h
    exact .nil
  | _, d :: ds, ps, .cons r rs, h, q => by
    rw [List.mapM_cons] at h
    simp only [Option.bind_eq_bind, Option.bind_eq_some_iff, Option.pure_def, Option.some.injEq] at h
    obtain ⟨p, h1, qs, h2, rfl⟩ := h
    rw [PyData.hasDictAll.eq_2, Bool.or_eq_false_iff] at q
    exact .cons (deep_dp hS n r h1 q.1) (deep_all hS n rs h2 q.2)
end
theorem call_reprD {k : Nat} {E : XK} (o : Okx k X E) : CallR X (.builtin "repr") (fun xs H Q => ∃ x p, xs = [x] ∧ Dp X.K H x p ∧ p.showable = true ∧ p.hasDict = false ∧ p.depth ≤ 60 ∧ p.shown.length ≤ sizeLine ∧ Q (.str p.shown) H) := by
  intro pins s σ H xs us Q I r h
  obtain ⟨x, p, rfl, hd, h1, h2, h3, h4, q⟩ := h
  obtain ⟨u, rfl, ru⟩ := vals1 r
  have hu := o.room.un
  cases hd with
  | non =>
    cases ru
    exact PySem.P.repr_of_none ⟨.str _, H, I.tok _, ⟨_, rfl⟩, by simpa only [PyData.shown] using q⟩
  | bl b =>
    cases ru
    exact PySem.P.repr_of_bool ⟨.str _, H, I.tok _, ⟨_, rfl⟩, by simpa only [PyData.shown] using q⟩
  | int i =>
    obtain ⟨t, rfl⟩ := ru
    exact PySem.P.repr_of_int (by simpa [PyData.showable] using h1) ⟨.str _, H, I.tok _, ⟨_, rfl⟩, by simpa only [PyData.shown] using q⟩
  | str z =>
    obtain ⟨t, rfl⟩ := ru
    exact PySem.P.repr_of_str ⟨.str _, H, I.tok _, ⟨_, rfl⟩, by simpa only [PyData.shown] using q⟩ (by simpa only [PyData.shown] using h4)
  | lst hq al =>
    have ru' := ru
    cases ru
    obtain ⟨as, hr⟩ := Dp.reads I _ _ _ (.lst hq al) ru'
    exact repr_of_reads' hr h1 (fun z => by rw [h2] at z; cases z) o.gd (by omega) (fun _ _ e => e) (fun h' u tk hk => ⟨.str _, H, I.kept (t' := tk) hk, ⟨_, rfl⟩, q⟩) h4
  | tup hq al =>
    have ru' := ru
    cases ru
    obtain ⟨as, hr⟩ := Dp.reads I _ _ _ (.tup hq al) ru'
    exact repr_of_reads' hr h1 (fun z => by rw [h2] at z; cases z) o.gd (by omega) (fun _ _ e => e) (fun h' u tk hk => ⟨.str _, H, I.kept (t' := tk) hk, ⟨_, rfl⟩, q⟩) h4
theorem dc_repr {k : Nat} {E : XK} (o : Okx k X E) : DC X (.builtin "repr") reprD := by
  refine ⟨_, call_reprD o, fun xs ds H S ι E Q hS r hw => ?_⟩
  unfold reprD at hw
  split at hw
  · split at hw
    · rename_i p hp
      split at hw
      · rename_i hc
        cases r with
        | cons r rs =>
          cases rs
          exact ⟨_, p, rfl, deep_dp hS _ r hp hc.2.1, hc.1, hc.2.1, hc.2.2.1, hc.2.2.2, hw _ _ _ (.refl hS) (.py (.str _))⟩
      · exact hw.elim
    · exact hw.elim
  · exact hw.elim
/-! ### methods of lists -/
theorem dm_append : DM X "list" "list.append" appendD := by
  refine ⟨_, mt_append, fun x xs d ds H S ι E Q hS rx r hw => ?_⟩
  unfold appendD at hw
  split at hw
  · split at hw
    · rename_i ds' hds
      split at hw
      · rename_i hz
        cases rx with
        | obj e =>
          cases hS.at_ _ _ _ hds e with
          | lst ha rr =>
            cases r with
            | cons r rs =>
              cases rs
              refine ⟨_, _, _, rfl, rfl, ha, by rw [rr.length]; exact hz, hw _ _ _ (.wr e ha (hS.set e ha (Paired.app rr (.cons r .nil)))) (.py .non)⟩
      · exact hw.elim
    · exact hw.elim
  · exact hw.elim
theorem ix_of_nat {i : Int} {n : Nat} (h0 : 0 ≤ i) (h1 : i.toNat < n) : seqIndex? i n = some i.toNat := by
  unfold seqIndex?
  have a : ¬ i < 0 := by omega
  have b : i < (n : Int) := by omega
  simp [a, h0, b]
theorem paired_erase {α β : Type} {G : α → β → Prop} : ∀ {l₁ : List α} {l₂ : List β} (i : Nat), Paired G l₁ l₂ → Paired G (l₁.eraseIdx i) (l₂.eraseIdx i)
  | _, _, _, .nil => .nil
  | _, _, 0, .cons _ t => t
  | _, _, i + 1, .cons q t => .cons q (paired_erase i t)
theorem paired_last {α β : Type} {G : α → β → Prop} : ∀ {l₁ : List α} {l₂ : List β}, Paired G l₁ l₂ → Paired G l₁.dropLast l₂.dropLast
  | _, _, .nil => .nil
  | _, _, .cons _ .nil => .nil
  | _, _, .cons q (.cons r t) => .cons q (paired_last (.cons r t))
theorem dm_pop : DM X "list" "list.pop" popD := by
  refine ⟨_, MtR.or (mt_pop (X := X)) (mt_popAt (X := X)), fun x xs d ds H S ι E Q hS rx r hw => ?_⟩
  unfold popD at hw
  split at hw
  · split at hw
    · rename_i ds' hds
      split at hw
      · rename_i d' hd'
        cases rx with
        | obj e =>
          cases hS.at_ _ _ _ hds e with
          | lst ha rr =>
            cases r
            obtain ⟨v, hv, rv⟩ := Paired.getR rr hd'
            exact .inl ⟨_, _, v, rfl, rfl, ha, by rw [rr.length]; exact hv, hw _ _ _ (.wr e ha (hS.set e ha (paired_last rr))) (rv.mono (List.prefix_refl _) (.list ha))⟩
      · exact hw.elim
    · exact hw.elim
  · split at hw
    · rename_i ds' hds
      split at hw
      · rename_i hi
        split at hw
        · rename_i d' hd'
          cases rx with
          | obj e =>
            cases hS.at_ _ _ _ hds e with
            | lst ha rr =>
              cases r with
              | cons r rs =>
                cases rs
                obtain ⟨v, hv, rv⟩ := Paired.getR rr hd'
                have hlt := (List.getElem?_eq_some_iff.mp hv).1
                exact .inr ⟨_, _, _, _, v, rfl, by rw [int_of r], ha, by omega, by omega, ix_of_nat hi.1 hlt, hv, hw _ _ _ (.wr e ha (hS.set e ha (paired_erase _ rr))) (rv.mono (List.prefix_refl _) (.list ha))⟩
        · exact hw.elim
      · exact hw.elim
    · exact hw.elim
  · exact hw.elim
/-! ### calls that make new lists; extend -/
variable {E : XK} {k : Nat} {e : Expr} {f : Ex} {es : List Expr} {fs fl : Ax} {pos p : Pos} {x : Str}
theorem dl_callTy {T : String} {gg : List D → Sto → R (List D)} (hc : DCL X (.type T) gg) (hm : X.mg x = none) (hv : bootBuiltins x = some (.type T)) (ha : DA X E (e :: es) fs) (hg : Gl X x := by rfl) (hn : x ≠ "__name__" := by decide) (hdb : (x == ("__debug__" : Str)) = false := by decide)
    (he : starEach (e :: es) X.env = (false, eval e X.env) :: starEach es X.env := by rfl) (hpl : (backTo pos (starEach es X.env)).any (·.1) = false := by rfl) : DL X E (.Call (.Name x p) (e :: es) [] pos) (callL gg fs) := by
  obtain ⟨l, t, pt, q⟩ := ha
  obtain ⟨r, hr, qr⟩ := hc
  refine ⟨_, pe_callTy hr hg hm hv pt hn hdb he hpl, fun σ H σd S ι Q hE hS h => ?_⟩
  refine q σ H σd S ι _ hE hS (Wp.bind0 h fun ds S1 _ vs H1 ι1 p1 r1 h1 => ?_)
  refine qr _ _ _ _ _ E _ p1.sto r1 ?_
  cases hgg : gg ds S1 with
  | no => rw [hgg] at h1; exact h1.elim
  | ex c S2 => rw [hgg] at h1; exact (Wp.re (rel := relL X.K H1) (Q := Q) p1 (show Wp X.K X.mg E ι H (relL X.K H1) (R.ex c S2) Q from h1))
  | ok ys S2 =>
    rw [hgg] at h1
    intro v H2 ι2 p2 r2
    obtain ⟨a, vs2, h0, rest⟩ := r2
    refine h1 v H2 ι2 (p1.trans p2) ⟨a, vs2, ?_, rest⟩
    cases q0 : H a with
    | none => rfl
    | some u => exact absurd h0 (p1.dom a (by rw [q0]; simp))
theorem de_extend {o : Expr} {apos cpos : Pos} (ho : DE X E o f) (ha : DL X E e fl)
    (hbase : attributeBase o "extend" X.env (eval o X.env) = eval o X.env := by rfl)
    (hfew : ((backTo cpos (starEach [e] X.env)).all (fun x => !x.1) && (backToKw cpos (keywordEach [] X.env)).all (fun x => x.1.isSome)
      && decide ([e].length + ([] : List Keyword).length + (if ([] : List Keyword).isEmpty then 0 else 1) < 30)) = true := by rfl)
    (hline : (apos.endLine == cpos.line) = true := by rfl) (hs : starEach [e] X.env = (false, eval e X.env) :: starEach [] X.env := by rfl) (hplain : (backTo cpos (starEach [] X.env)).any (·.1) = false := by rfl) :
    DE X E (.Call (.Attribute o "extend" apos) [e] [] cpos) (extE f fl) := by
  obtain ⟨t, p, q⟩ := ho
  obtain ⟨u, pu, qu⟩ := ha
  refine ⟨_, pe_bm PySem.F.plainAttrs_list PySem.F.slot_list_extend PySem.F.type_list_extend (mt_extend (X := X)) p (pa_cons pu pa_nil hs) hbase hfew hline hs hplain, fun σ H σd S ι Q hE hS h => ?_⟩
  refine q σ H σd S ι _ hE hS (Wp.bind h fun d S1 _ v H1 ι1 p1 r1 h1 => ?_)
  cases d with
  | py d => exact h1.elim
  | raw d => exact h1.elim
  | obj n =>
    simp only at h1
    split at h1
    · rename_i ds0 hd0
      refine ⟨tyL p1.sto r1 (by simp only [lsOk, hd0]), ?_⟩
      refine qu σ H1 σd S1 ι1 _ (hE.mono p1.pre p1.keep) p1.sto (Wp.bind h1 fun d2 S2 _ v2 H2 ι2 p2 r2 h2 => ?_)
      split at h2
      · rename_i es' hes
        split at h2
        · rename_i hz
          cases r1.mono p2.pre p2.keep with
          | obj en =>
            cases p2.sto.at_ _ _ _ hes en with
            | lst ha rr =>
              obtain ⟨b, ws, h0, rfl, hb, hn, _, rb⟩ := r2
              exact ⟨_, b, _, ws, rfl, rfl, ha, hb, by rw [rr.length, rb.length]; exact hz, h2 _ _ _ (.wr en ha (p2.sto.set en ha (Paired.app rr rb))) (.py .non)⟩
        · exact h2.elim
      · exact h2.elim
    · exact h1.elim
end
end DV

set_option maxHeartbeats 4000000
namespace DV
open PySem PySem.Spec PyProof.Rows L2
/-! More operators: in, index, isinstance, all, any, sum, slices. -/
/-! ### what they do -/
def isFlat : PyData → Bool
  | .none => true
  | .bool _ => true
  | .int _ => true
  | .str _ => true
  | _ => false
/-- a dict, a tuple, a list -/
def isSq : PyData → Bool
  | .dict _ => true
  | .tuple _ => true
  | .list _ => true
  | _ => false
def isSt : PyData → Bool
  | .str _ => true
  | _ => false
def inB (d : PyData) (e : PyData) : Option Bool := match e with
  | .list ds => if SeqAt.shaped d = true ∧ SeqAt.shaped (.list ds) = true then some (ds.any fun z => PyData.eqv z d) else if isSq d = true ∧ ds.all isSt = true then some false else if isFlat d = true ∧ ds.all isFlat = true then some (ds.any fun z => PyData.eqv z d) else none
  | .tuple ds => if isFlat d = true ∧ ds.all isFlat = true then some (ds.any fun z => PyData.eqv z d) else none
  | .str y => (match d with
    | .str x => (match x.cps.toList with
      | [c] => some (decide (c ∈ y.cps.toList))
      | _ => none)
    | _ => none)
  | _ => none
def inS (S : Sto) (x y : D) : Option Bool := match deep S 8 x, deep S 8 y with
  | some d, some e => inB d e
  | _, _ => none
def inD (x y : D) (S : Sto) : R D := match inS S x y with
  | some k => .ok (.py (.bool k)) S
  | none => .no
def notInD (x y : D) (S : Sto) : R D := match inS S x y with
  | some k => .ok (.py (.bool (!k))) S
  | none => .no
/-- the first place of an item -/
def placeOf (ds : List PyData) (d : PyData) : Option Nat := ds.findIdx? fun z => PyData.eqv z d
def indexD : D → List D → Sto → R D
  | x, [y], S => (match deep S 8 x, deep S 8 y with
    | some (.list ds), some d => if SeqAt.shaped (.list ds) = true ∧ SeqAt.shaped d = true then (match placeOf ds d with
      | some j => .ok (.py (.int (j : Nat))) S
      | none => .no) else .no
    | _, _ => .no)
  | _, _, _ => .no
def tyN : PyData → String
  | .none => "NoneType"
  | .bool _ => "bool"
  | .int _ => "int"
  | .str _ => "str"
  | .list _ => "list"
  | .tuple _ => "tuple"
  | .dict _ => "dict"
/-- is a value of class a one of class b -/
def isB (a b : String) : Bool := a == b || (a == "bool" && b == "int")
def isiD (T : String) : D → Sto → R D
  | .py d, S => .ok (.py (.bool (isB (tyN d) T))) S
  | .obj n, S => match S[n]? with
    | some (.lst _) => .ok (.py (.bool (isB "list" T))) S
    | _ => .no
  | .raw _, _ => .no
def boolsOf : List PyData → Option (List Bool)
  | [] => some []
  | .bool b :: ds => (boolsOf ds).map (b :: ·)
  | _ => none
def intsOf : List PyData → Option (List Int)
  | [] => some []
  | .int b :: ds => (intsOf ds).map (b :: ·)
  | _ => none
def allD : List D → Sto → R D
  | [.py (.list ds)], S => (match boolsOf ds with
    | some bs => .ok (.py (.bool (bs.all id))) S
    | none => .no)
  | _, _ => .no
def anyD : List D → Sto → R D
  | [.py (.list ds)], S => (match boolsOf ds with
    | some bs => .ok (.py (.bool (bs.any id))) S
    | none => .no)
  | _, _ => .no
def sumD : List D → Sto → R D
  | [.py (.list ds)], S => (match intsOf ds with
    | some bs => .ok (.py (.int bs.sum)) S
    | none => .no)
  | _, _ => .no
/-! ### that they do it -/
variable {X : Cx}
theorem eqV_eqv {K : PySem.W.Frag} {H : Hp} {x y : V} {d e : PyData} (rx : Pp K H x d) (ry : Pp K H y e) (hd : isFlat d = true) (he : isFlat e = true) : eqV y x = PyData.eqv e d := by
  cases rx <;> cases ry <;> simp [isFlat] at hd he <;> simp [eqV, PyData.eqv]
theorem isFlat_V {K : PySem.W.Frag} {H : Hp} {x : V} {d : PyData} (rx : Pp K H x d) (hd : isFlat d = true) : flatV x = true := by
  cases rx <;> simp [isFlat] at hd <;> rfl
theorem isFlat_all {K : PySem.W.Frag} {H : Hp} {x : V} {d : PyData} (rx : Pp K H x d) (hd : isFlat d = true) : ∀ {ys : List V} {ds : List PyData}, PpAll K H ys ds → ds.all isFlat = true → ys.all flatV = true ∧ inV x ys = ds.any fun z => PyData.eqv z d
  | _, _, .nil, _ => ⟨rfl, rfl⟩
  | _, _, .cons h hs, e => by
    rw [List.all_cons, Bool.and_eq_true] at e
    obtain ⟨h1, h2⟩ := isFlat_all rx hd hs e.2
    refine ⟨by rw [List.all_cons, isFlat_V h e.1, h1]; rfl, ?_⟩
    unfold inV at h2 ⊢
    rw [List.any_cons, List.any_cons, h2, eqV_eqv rx h hd e.1]
theorem eqV_eqvD {K : PySem.W.Frag} {H : Hp} {x y : V} {d e : PyData} (rx : Pp K H x d) (ry : Dp K H y e) (hd : isFlat d = true) (he : isFlat e = true) : eqV y x = PyData.eqv e d ∧ flatV y = true := by
  cases rx <;> cases ry <;> simp [isFlat] at hd he <;> simp [eqV, PyData.eqv, flatV]
theorem isFlat_allD {K : PySem.W.Frag} {H : Hp} {x : V} {d : PyData} (rx : Pp K H x d) (hd : isFlat d = true) : ∀ {ys : List V} {ds : List PyData}, DpAll K H ys ds → ds.all isFlat = true → ys.all flatV = true ∧ inV x ys = ds.any fun z => PyData.eqv z d
  | _, _, .nil, _ => ⟨rfl, rfl⟩
  | _, _, .cons h hs, e => by
    rw [List.all_cons, Bool.and_eq_true] at e
    obtain ⟨h1, h2⟩ := isFlat_allD rx hd hs e.2
    obtain ⟨h3, h4⟩ := eqV_eqvD rx h hd e.1
    refine ⟨by rw [List.all_cons, h4, h1]; rfl, ?_⟩
    unfold inV at h2 ⊢
    rw [List.any_cons, List.any_cons, h2, h3]
theorem flat_noDict : ∀ {ds : List PyData}, ds.all isFlat = true → PyData.hasDictAll ds = false
  | [], _ => PyData.hasDictAll.eq_1
  | d :: ds, h => by
    rw [List.all_cons, Bool.and_eq_true] at h
    rw [PyData.hasDictAll.eq_2, flat_noDict h.2]
    cases d <;> simp [isFlat] at h <;> simp [PyData.hasDict]
theorem Room.units65 {k : Nat} {A : Around} (h : Room k A) : A.units + 65 < cLine := by have := h.un; omega
theorem deep_py {K : PySem.W.Frag} {ι : List Addr} {H : Hp} {S : Sto} {x : V} {d : D} {p : PyData} (rx : Rd K ι H x d) (h : deep S 8 d = some p) : Pp K H x p ∨ ∃ ds, p = .list ds := by
  cases rx with
  | py rx =>
    have e := Option.some.inj h
    subst e
    exact .inl rx
  | raw a => cases h
  | obj e0 =>
    simp only [deep] at h
    split at h
    · rename_i es _
      cases hm : es.mapM (deep S 7) with
      | none => rw [hm] at h; cases h
      | some z => rw [hm] at h; cases h; exact .inr ⟨_, rfl⟩
    · cases h
theorem st_noDict : ∀ {ds : List PyData}, ds.all isSt = true → PyData.hasDictAll ds = false
  | [], _ => PyData.hasDictAll.eq_1
  | d :: ds, h => by
    rw [List.all_cons, Bool.and_eq_true] at h
    rw [PyData.hasDictAll.eq_2, st_noDict h.2]
    cases d <;> simp [isSt] at h
    simp [PyData.hasDict]
theorem st_all {K : PySem.W.Frag} {H : Hp} : ∀ {vs : List V} {ds : List PyData}, DpAll K H vs ds → ds.all isSt = true → ∀ v ∈ vs, ∃ z, v = V.str z
  | _, _, .nil, _, v, hv => by cases hv
  | _, _, .cons r rs, h, v, hv => by
    rw [List.all_cons, Bool.and_eq_true] at h
    rcases List.mem_cons.mp hv with rfl | hv
    · cases r <;> simp [isSt] at h
      exact ⟨_, rfl⟩
    · exact st_all rs h.2 v hv
theorem in_key {K : PySem.W.Frag} {ι : List Addr} {H : Hp} {S : Sto} {x y : V} {d e : D} {k : Bool} (hS : StR K ι H S) (rx : Rd K ι H x d) (ry : Rd K ι H y e) (h : inS S d e = some k) :
    (∃ p q, Dp K H x p ∧ Dp K H y (.list q) ∧ SeqAt.shaped p = true ∧ SeqAt.shaped (.list q) = true ∧ k = (q.any fun z => PyData.eqv z p)) ∨
    (∃ p xs, y = .ref p ∧ (SqL K H p xs ∨ SqT K H p xs) ∧ flatV x = true ∧ xs.all flatV = true ∧ k = inV x xs) ∨
    (∃ (c : Nat) (z : Str), x = .str ⟨#[c]⟩ ∧ y = .str z ∧ k = decide (c ∈ z.cps.toList)) ∨ (DkIn K H x y ∧ k = false) := by
  unfold inS at h
  split at h
  · rename_i p q hp hq
    cases q with
    | list ds =>
      simp only [inB] at h
      split at h
      · rename_i hs
        cases h
        have dx := deep_dp hS _ rx hp (noDict_of hs.1)
        have dy := deep_dp hS _ ry hq (noDict_of hs.2)
        exact .inl ⟨_, _, dx, dy, hs.1, hs.2, rfl⟩
      · split at h
        · rename_i hs
          cases h
          have dy := deep_dp hS _ ry hq (by rw [PyData.hasDict.eq_5]; exact st_noDict hs.2)
          have ax : ∃ a, x = V.ref a ∧ ((∃ o kvs, H a = some (.frz o (.dK kvs))) ∨ ∃ zs, SqL K H a zs ∨ SqT K H a zs) := by
            cases rx with
            | raw a => cases hp
            | obj e0 =>
              simp only [deep] at hp
              split at hp
              · rename_i es he
                cases hS.at_ _ _ _ he e0 with
                | lst ha rr => exact ⟨_, rfl, .inr ⟨_, .inl (.of ha)⟩⟩
              · cases hp
            | py rx =>
              have e := Option.some.inj hp
              subst e
              cases rx with
              | dic e _ _ => exact ⟨_, rfl, .inl ⟨_, _, e⟩⟩
              | lst e _ _ => exact ⟨_, rfl, .inr ⟨_, .inl e.sq⟩⟩
              | tup e _ _ => exact ⟨_, rfl, .inr ⟨_, .inr e.sq⟩⟩
              | _ => simp [isSq] at hs
          obtain ⟨a, rfl, ax⟩ := ax
          cases dy with
          | lst hL al => exact .inr (.inr (.inr ⟨⟨_, _, _, rfl, ax, rfl, hL, st_all al hs.2⟩, rfl⟩))
        · split at h
          · rename_i hs
            cases h
            have dy := deep_dp hS _ ry hq (by rw [PyData.hasDict.eq_5]; exact flat_noDict hs.2)
            have rx := (deep_py rx hp).resolve_right (by rintro ⟨ws, rfl⟩; simp [isFlat] at hs)
            cases dy with
            | lst hL al =>
              obtain ⟨z1, z2⟩ := isFlat_allD rx hs.1 al hs.2
              exact .inr (.inl ⟨_, _, rfl, .inl hL, isFlat_V rx hs.1, z1, z2.symm⟩)
          · cases h
    | tuple ds =>
      simp only [inB] at h
      split at h
      · rename_i hs
        cases h
        have ry := (deep_py ry hq).resolve_right (by rintro ⟨ws, e⟩; cases e)
        cases ry with
        | tup hT hz al =>
          have rx := (deep_py rx hp).resolve_right (by rintro ⟨ws, rfl⟩; simp [isFlat] at hs)
          obtain ⟨z1, z2⟩ := isFlat_all rx hs.1 al hs.2
          exact .inr (.inl ⟨_, _, rfl, .inr hT.sq, isFlat_V rx hs.1, z1, z2.symm⟩)
      · cases h
    | str y' =>
      cases p with
      | str x' =>
        simp only [inB] at h
        split at h
        · rename_i c hc
          cases h
          have rx := (deep_py rx hp).resolve_right (by rintro ⟨ws, e⟩; cases e)
          have ry := (deep_py ry hq).resolve_right (by rintro ⟨ws, e⟩; cases e)
          cases rx
          cases ry
          refine .inr (.inr (.inl ⟨c, y', ?_, rfl, rfl⟩))
          obtain ⟨a⟩ := x'
          obtain ⟨l⟩ := a
          have : l = [c] := hc
          subst this
          rfl
        · cases h
      | _ => cases h
    | _ => cases h
  · cases h
theorem do_in {k : Nat} {E : XK} (o : Okx k X E) : DOp X (compareOp .In) inD := by
  refine ⟨_, (op_inD (X := X) (Room.units65 o.room)).or ((op_in_seq (X := X)).or ((op_in_sign (X := X)).or (op_inSD (X := X) (Room.units65 o.room)))), fun x y d e H S ι E Q hS rx ry hw => ?_⟩
  unfold inD at hw
  split at hw
  · rename_i k hk
    have hq := hw _ _ _ (.refl hS) (.py (.bl k))
    rcases in_key hS rx ry hk with ⟨p, q, a, b, c, d, rfl⟩ | ⟨p, xs, a, b, c, d, rfl⟩ | ⟨c, z, a, b, rfl⟩ | ⟨a, rfl⟩
    · exact .inl ⟨p, q, a, b, c, d, hq⟩
    · exact .inr (.inl ⟨p, xs, a, b, c, d, hq⟩)
    · exact .inr (.inr (.inl ⟨c, z, a, b, hq⟩))
    · exact .inr (.inr (.inr ⟨a, hq⟩))
  · exact hw.elim
theorem do_notin {k : Nat} {E : XK} (o : Okx k X E) : DOp X (compareOp .NotIn) notInD := by
  refine ⟨_, (op_notInD (X := X) (Room.units65 o.room)).or ((op_notIn_seq (X := X)).or ((op_notIn_sign (X := X)).or (op_notInSD (X := X) (Room.units65 o.room)))), fun x y d e H S ι E Q hS rx ry hw => ?_⟩
  unfold notInD at hw
  split at hw
  · rename_i k hk
    have hq := hw _ _ _ (.refl hS) (.py (.bl (!k)))
    rcases in_key hS rx ry hk with ⟨p, q, a, b, c, d, rfl⟩ | ⟨p, xs, a, b, c, d, rfl⟩ | ⟨c, z, a, b, rfl⟩ | ⟨a, rfl⟩
    · exact .inl ⟨p, q, a, b, c, d, hq⟩
    · exact .inr (.inl ⟨p, xs, a, b, c, d, hq⟩)
    · exact .inr (.inr (.inl ⟨c, z, a, b, hq⟩))
    · exact .inr (.inr (.inr ⟨a, hq⟩))
  · exact hw.elim
theorem dp_list_ref {K : PySem.W.Frag} {H : Hp} {v : V} {ds : List PyData} (h : Dp K H v (.list ds)) : ∃ a, v = .ref a := by
  cases h <;> exact ⟨_, rfl⟩
theorem dm_index {k : Nat} {E : XK} (o : Okx k X E) : DM X "list" "list.index" indexD := by
  refine ⟨_, mt_indexD (X := X) (Room.units65 o.room), fun x xs d ds H S ι E Q hS rx r hw => ?_⟩
  unfold indexD at hw
  split at hw
  · split at hw
    · rename_i es p he hp
      split at hw
      · rename_i hs
        split at hw
        · rename_i j hj
          cases r with
          | cons r rs =>
            cases rs
            have dx := deep_dp hS _ rx he (noDict_of hs.1)
            obtain ⟨a, rfl⟩ := dp_list_ref dx
            unfold placeOf at hj
            obtain ⟨h1, h2, h3⟩ := List.findIdx?_eq_some_iff_getElem.mp hj
            refine ⟨a, _, p, es, j, es[j], rfl, rfl, dx, deep_dp hS _ r hp (noDict_of hs.2), hs.1, hs.2, List.getElem?_eq_getElem h1, h2, fun m z' hm hz => ?_, hw _ _ _ (.refl hS) (.py (.int _))⟩
            obtain ⟨h4, h5⟩ := List.getElem?_eq_some_iff.mp hz
            have := h3 m hm
            rw [h5] at this
            simpa using this
        · exact hw.elim
      · exact hw.elim
    · exact hw.elim
  · exact hw.elim
/-! ### isinstance -/
theorem ty_pp {K : PySem.W.Frag} {H : Hp} {x : V} {d : PyData} (r : Pp K H x d) : TyX K H x (.type (tyN d)) := by
  cases r with
  | non => exact .base .non
  | bl b => exact .base (.bl b)
  | int i => exact .base (.int i)
  | str x => exact .base (.str x)
  | lst h _ _ =>
    rcases h with ⟨o, h⟩ | ⟨o, its, n, h1, h2, _⟩
    · exact .base (.frz h)
    · exact .kList h1 h2
  | tup h _ _ =>
    rcases h with ⟨o, h, _⟩ | ⟨o, its, n, h1, h2, _⟩
    · exact .fTuple h
    · exact .kTuple h1 h2
  | dic h _ _ => exact .fDict h
theorem kit_base (K : PySem.W.Frag) (d : PyData) (T : String) (hT : T ∈ ["int", "bool", "str", "tuple", "list", "dict"]) : PySem.W.kitOne K (.type (tyN d)) (.type T) = some (isB (tyN d) T) := by
  simp only [List.mem_cons, List.not_mem_nil, or_false] at hT
  rcases hT with rfl | rfl | rfl | rfl | rfl | rfl <;> cases d <;> rfl
section
variable {E : XK} {e : Expr} {f : Ex} {pos p p2 : Pos}
theorem de_isi {T : String} (hm : X.mg "isinstance" = none) (hm2 : X.mg (Str.ofString T) = none) (ha : DE X E e f) (hT : T ∈ ["int", "bool", "str", "tuple", "list", "dict"] := by decide) (hg : Gl X "isinstance" := by rfl) (hg2 : Gl X (Str.ofString T) := by rfl) (hb : bootBuiltins (Str.ofString T) = some (.type T) := by rfl)
    (hnn : Str.ofString T ≠ "__name__" := by decide) (hdb : (Str.ofString T == ("__debug__" : Str)) = false := by decide)
    (he : starEach [e, .Name (Str.ofString T) p2] X.env = (false, eval e X.env) :: starEach [.Name (Str.ofString T) p2] X.env := by rfl) (he2 : starEach [.Name (Str.ofString T) p2] X.env = (false, eval (.Name (Str.ofString T) p2) X.env) :: starEach [] X.env := by rfl) (hpl : (backTo pos (starEach [.Name (Str.ofString T) p2] X.env)).any (·.1) = false := by rfl) :
    DE X E (.Call (.Name "isinstance" p) [e, .Name (Str.ofString T) p2] [] pos) (op1 (isiD T) f) := by
  obtain ⟨t, pt, q⟩ := ha
  refine ⟨_, pe_callB call_isi hg hm rfl (pa_cons pt (pa_cons (pe_bltn (v := .ty T) hg2 hm2 hb rfl hnn hdb) pa_nil he2) he) (by decide) (by decide) he hpl, fun σ H σd S ι Q hE hS h => ?_⟩
  refine q σ H σd S ι _ hE hS (Wp.bind0 h fun d S1 e1 v H1 ι1 p1 r1 h1 => ?_)
  show rIsi X.K [v, .ty T] H1 Q
  unfold isiD at h1
  split at h1
  · rename_i d'
    cases r1 with
    | py r1 => exact ⟨v, .ty T, _, _, _, rfl, .ty T, ty_pp r1, kit_base X.K d' T hT, h1 _ _ _ p1 (.py (.bl _))⟩
  · split at h1
    · rename_i n S es hes
      cases r1 with
      | obj ea =>
        cases p1.sto.at_ _ _ _ hes ea with
        | lst hl _ => exact ⟨_, .ty T, _, _, _, rfl, .ty T, .base (.lst hl), kit_base X.K (.list []) T hT, h1 _ _ _ p1 (.py (.bl _))⟩
    · exact h1.elim
  · exact h1.elim
end
/-! ### all, any, sum -/
theorem bools_V {K : PySem.W.Frag} {H : Hp} : ∀ {xs : List V} {ds : List PyData} {bs : List Bool}, PpAll K H xs ds → boolsOf ds = some bs → xs = bs.map V.bl
  | _, _, bs, .nil, h => by cases h; rfl
  | _, _, bs, @PpAll.cons _ _ v vs d ds r rs, h => by
    cases r with
    | bl b =>
      have h : Option.map (b :: ·) (boolsOf ds) = some bs := h
      cases hb : boolsOf ds with
      | none => rw [hb] at h; cases h
      | some bs' =>
        rw [hb] at h
        cases h
        rw [bools_V rs hb]
        rfl
    | _ => exact absurd h (by simp [boolsOf])
theorem ints_V {K : PySem.W.Frag} {H : Hp} : ∀ {xs : List V} {ds : List PyData} {bs : List Int}, PpAll K H xs ds → intsOf ds = some bs → xs = bs.map V.int
  | _, _, bs, .nil, h => by cases h; rfl
  | _, _, bs, @PpAll.cons _ _ v vs d ds r rs, h => by
    cases r with
    | int b =>
      have h : Option.map (b :: ·) (intsOf ds) = some bs := h
      cases hb : intsOf ds with
      | none => rw [hb] at h; cases h
      | some bs' =>
        rw [hb] at h
        cases h
        rw [ints_V rs hb]
        rfl
    | _ => exact absurd h (by simp [intsOf])
theorem dc_all {k : Nat} {E : XK} (o : Okx k X E) : DC X (.builtin "all") allD := by
  refine ⟨_, cr_all o.calm, fun xs ds H S ι E Q hS r hw => ?_⟩
  unfold allD at hw
  split at hw
  · split at hw
    · rename_i bs hbs
      cases r with
      | cons r rs =>
        cases rs
        cases r with
        | py r =>
          cases r with
          | lst h hz al => exact ⟨_, bs, rfl, bools_V al hbs ▸ h.sq, hw _ _ _ (.refl hS) (.py (.bl _))⟩
    · exact hw.elim
  · exact hw.elim
/-! ### the module's constants -/
theorem de_gint {E : XK} {x : Str} {i : Int} {t : Tok} {pos : Pos} (hm : X.mg x = some (.int i t)) (hg : Gl X x := by rfl) (hdb : (x == ("__debug__" : Str)) = false := by decide) : DE X E (.Name x pos) (cE (.int i)) :=
  ⟨_, pe_glob (v := .int i) hg hm ⟨t, rfl⟩ hdb, fun σ H σd S ι Q hE hS h => h _ _ _ (.refl hS) (.py (.int i))⟩
theorem de_gstr {E : XK} {x : Str} {i : Str} {t : Tok} {pos : Pos} (hm : X.mg x = some (.str i t)) (hg : Gl X x := by rfl) (hdb : (x == ("__debug__" : Str)) = false := by decide) : DE X E (.Name x pos) (cE (.str i)) :=
  ⟨_, pe_glob (v := .str i) hg hm ⟨t, rfl⟩ hdb, fun σ H σd S ι Q hE hS h => h _ _ _ (.refl hS) (.py (.str i))⟩
end DV

set_option maxHeartbeats 4000000
namespace DV
open PySem PySem.Spec PyProof.Rows L2
/-! An error of the program's own whose base is an error of the program's own upon ValueError. -/
def allStr (es : Array DictEntry) : Bool := es.toList.all fun e => match e.key with
  | .str _ _ => true
  | _ => false
/-- a class's own dict has text keys and no __init__ -/
theorem nsOk_of {K : PySem.W.Frag} {N : Addr} {c : Value} {dd : Option Addr} {es : Array DictEntry} {ep : Nat} {sl : Array (Option Value)} (h : K.lookup N = some ⟨c, dd, .dict es ep, sl⟩) (ha : allStr es = true) : PySem.W.nsOkIn K N = true := by
  unfold PySem.W.nsOkIn
  rw [h]
  show (es.all _) = true
  rw [← Array.all_toList]
  exact ha
theorem exc_two {K : PySem.W.Frag} {C B N M : Addr} {cd cb : ClassData} {d1 d2 d3 d4 : Option Addr} {sl sb sn sm : Array (Option Value)} {c3 c4 : Value} {es em : Array DictEntry} {ep eq : Nat} {bm : List Value} {id : String} {a1 a2 a3 a4 a6 : Option Value}
    (h1 : K.lookup C = some ⟨.type "type", d1, .cls cd, sl⟩) (q1 : cd.mro = .ref C :: .ref B :: bm) (q2 : sl.toList = [a1, a2, a3, a4, some (.builtin id), a6]) (q3 : cd.hasDel = false) (q4 : cd.ns = N)
    (h2 : K.lookup N = some ⟨c3, d3, .dict es ep, sn⟩) (q5 : allStr es = true) (n1 : PySem.W.nsIn K N "__init__" = some none)
    (h3 : K.lookup B = some ⟨.type "type", d2, .cls cb, sb⟩) (q6 : cb.ns = M) (h4 : K.lookup M = some ⟨c4, d4, .dict em eq, sm⟩) (q7 : allStr em = true) (n2 : PySem.W.nsIn K M "__init__" = some none) (hb : PySem.W.tailIn K bm bm = true) : PySem.W.excIn K C bm id = true := by
  unfold PySem.W.excIn
  rw [h1]
  simp only [q1, q2, q3, q4]
  rw [nsOk_of h2 q5, n1, PySem.W.tailIn.eq_2, h3]
  simp only [q6]
  rw [nsOk_of h4 q7, n2, hb]
  simp
end DV

set_option maxHeartbeats 4000000
namespace DV
open PySem PySem.Spec PyProof.Rows L2
/-! Still more operators: slices, list(range(..)), sorted, join, tuples compared. -/
variable {X : Cx} {E : XK}
/-! ### slices -/
abbrev Px := En → Sto → R (Option Int)
def noP : Px := fun _ S => .ok none S
def someP (e : Ex) : Px := fun σ S => (e σ S).bind fun d S1 => match d with
  | .py (.int i) => .ok (some i) S1
  | _ => .no
def cutP {α : Type} (xs : List α) (lo hi : Option Int) : List α := (xs.drop (HT.sIx xs.length 0 lo)).take (HT.sIx xs.length xs.length hi - HT.sIx xs.length 0 lo)
/-- of tuples and texts -/
def sliceV (x : D) (lo hi : Option Int) (S : Sto) : R D := match x with
  | .py (.tuple ds) => .ok (.py (.tuple (cutP ds lo hi))) S
  | .py (.str z) => if z.length ≤ sizeLine then .ok (.py (.str (cutS z lo hi))) S else .no
  | _ => .no
def sliceE (a : Ex) (lo hi : Px) : Ex := fun σ S => (a σ S).bind fun x S1 => (lo σ S1).bind fun l S2 => (hi σ S2).bind fun h S3 => sliceV x l h S3
/-- of lists: a new list -/
def sliceL (a : Ex) (lo hi : Px) : Ax := fun σ S => (a σ S).bind fun x S1 => (lo σ S1).bind fun l S2 => (hi σ S2).bind fun h S3 => match seqOf S3 x with
  | some ds => (match x with
    | .py (.tuple _) => .no
    | _ => if ds.length ≤ sizeLine then .ok (cutP ds l h) S3 else .no)
  | none => .no
abbrev relP : List Addr → Hp → Option Int → Option Int → Prop := fun _ _ a b => a = b
def DP (X : Cx) (E : XK) (e : Option Expr) (f : Px) : Prop := ∃ t, PO X e t ∧ ∀ σ H σd S ι Q, EnR X.K ι H σ σd → StR X.K ι H S → Wp X.K X.mg E ι H relP (f σd S) Q → t σ H Q
theorem dp_none : DP X E none noP := ⟨_, po_none, fun σ H σd S ι Q hE hS h => h _ _ _ (.refl hS) rfl⟩
theorem dp_some {e : Expr} {f : Ex} (he : DE X E e f) : DP X E (some e) (someP f) := by
  obtain ⟨t, p, q⟩ := he
  refine ⟨_, po_some p, fun σ H σd S ι Q hE hS h => ?_⟩
  refine q σ H σd S ι _ hE hS (Wp.bind0 h fun d S1 _ v H1 ι1 p1 r1 h1 => ?_)
  split at h1
  · exact ⟨_, int_of r1, h1 _ _ _ p1 rfl⟩
  · exact h1.elim
theorem PpAll.drop {K : PySem.W.Frag} {H : Hp} : ∀ {vs : List V} {ds : List PyData} (n : Nat), PpAll K H vs ds → PpAll K H (vs.drop n) (ds.drop n)
  | _, _, 0, h => h
  | _, _, _ + 1, .nil => .nil
  | _, _, n + 1, .cons _ hs => PpAll.drop n hs
theorem PpAll.take {K : PySem.W.Frag} {H : Hp} : ∀ {vs : List V} {ds : List PyData} (n : Nat), PpAll K H vs ds → PpAll K H (vs.take n) (ds.take n)
  | _, _, 0, _ => .nil
  | _, _, _ + 1, .nil => .nil
  | _, _, n + 1, .cons h hs => .cons h (PpAll.take n hs)
theorem RdAll.drop {K : PySem.W.Frag} {ι : List Addr} {H : Hp} : ∀ {vs : List V} {ds : List D} (n : Nat), RdAll K ι H vs ds → RdAll K ι H (vs.drop n) (ds.drop n)
  | _, _, 0, h => h
  | _, _, _ + 1, .nil => .nil
  | _, _, n + 1, .cons _ hs => RdAll.drop n hs
theorem RdAll.take {K : PySem.W.Frag} {ι : List Addr} {H : Hp} : ∀ {vs : List V} {ds : List D} (n : Nat), RdAll K ι H vs ds → RdAll K ι H (vs.take n) (ds.take n)
  | _, _, 0, _ => .nil
  | _, _, _ + 1, .nil => .nil
  | _, _, n + 1, .cons h hs => .cons h (RdAll.take n hs)
theorem cut_len {α : Type} (xs : List α) (lo hi : Option Int) : (cutP xs lo hi).length ≤ xs.length := by
  unfold cutP
  rw [List.length_take, List.length_drop]
  omega
theorem cut_pp {K : PySem.W.Frag} {H : Hp} {vs : List V} {ds : List PyData} (h : PpAll K H vs ds) (lo hi : Option Int) : PpAll K H (cutV vs lo hi) (cutP ds lo hi) := by
  unfold cutV cutP
  rw [h.length]
  exact (h.drop _).take _
theorem cut_rd {K : PySem.W.Frag} {ι : List Addr} {H : Hp} {vs : List V} {ds : List D} (h : RdAll K ι H vs ds) (lo hi : Option Int) : RdAll K ι H (cutV vs lo hi) (cutP ds lo hi) := by
  unfold cutV cutP
  rw [h.length]
  exact (h.drop _).take _
theorem cut_all {α : Type} (xs : List α) (lo hi : Option Int) (h : HT.sIx xs.length 0 lo = 0 ∧ HT.sIx xs.length xs.length hi = xs.length) : cutP xs lo hi = xs := by
  unfold cutP
  rw [h.1, h.2]
  simp
section
variable {e : Expr} {lo hi : Option Expr} {f : Ex} {fl fh : Px} {pos p2 : Pos}
theorem de_slice (he : DE X E e f) (hl : DP X E lo fl) (hh : DP X E hi fh) : DE X E (.Subscript e (.Slice lo hi none p2) pos) (sliceE f fl fh) := by
  obtain ⟨t, p, q⟩ := he
  obtain ⟨tl, pl, ql⟩ := hl
  obtain ⟨th, ph, qh⟩ := hh
  refine ⟨_, pe_slice ((sl_tupS (X := X)).or sl_str) p pl ph, fun σ H σd S ι Q hE hS h => ?_⟩
  refine q σ H σd S ι _ hE hS (Wp.bind h fun x S1 _ v H1 ι1 p1 r1 h1 => ?_)
  refine ql σ H1 σd S1 ι1 _ (hE.mono p1.pre p1.keep) p1.sto (Wp.bind h1 fun l S2 _ l' H2 ι2 p2 rl h2 => ?_)
  refine qh σ H2 σd S2 ι2 _ ((hE.mono p1.pre p1.keep).mono p2.pre p2.keep) p2.sto (Wp.bind h2 fun u S3 _ u' H3 ι3 p3 ru h3 => ?_)
  cases rl
  cases ru
  have r3 := (r1.mono p2.pre p2.keep).mono p3.pre p3.keep
  unfold sliceV at h3
  split at h3
  · rename_i ds _
    cases r3 with
    | py r3 =>
      cases r3 with
      | tup hT hz al =>
        have hc := cut_pp al l u
        have hcl := cut_len ds l u
        refine .inl ⟨_, _, rfl, hT.sq, fun ha => h3 _ _ _ (.refl p3.sto) (.py ?_), fun _ p o ho hp => h3 _ _ _ (.new p3.sto hp) (.py (.tup (.new ho) (Nat.le_trans hcl hz) (hc.keep (.new hp))))⟩
        rw [al.length] at ha
        rw [cut_all ds l u ha]
        exact .tup hT hz al
  · split at h3
    · rename_i hz
      exact .inr ⟨_, str_of r3, hz, h3 _ _ _ (.refl p3.sto) (.py (.str _))⟩
    · exact h3.elim
  · exact h3.elim
theorem dl_slice (he : DE X E e f) (hl : DP X E lo fl) (hh : DP X E hi fh) : DL X E (.Subscript e (.Slice lo hi none p2) pos) (sliceL f fl fh) := by
  obtain ⟨t, p, q⟩ := he
  obtain ⟨tl, pl, ql⟩ := hl
  obtain ⟨th, ph, qh⟩ := hh
  refine ⟨_, pe_slice sl_list p pl ph, fun σ H σd S ι Q hE hS h => ?_⟩
  refine q σ H σd S ι _ hE hS (Wp.bind0 h fun x S1 _ v H1 ι1 p1 r1 h1 => ?_)
  refine ql σ H1 σd S1 ι1 _ (hE.mono p1.pre p1.keep) p1.sto (Wp.bind0 (Wp.re p1 h1) fun l S2 _ l' H2 ι2 p2 rl h2 => ?_)
  cases rl
  refine qh σ H2 σd S2 ι2 _ ((hE.mono p1.pre p1.keep).mono p2.pre p2.keep) p2.sto (Wp.bind0 (Wp.re p2 h2) fun u S3 _ u' H3 ι3 p3 ru h3 => ?_)
  cases ru
  have r3 := (r1.mono p2.pre p2.keep).mono p3.pre p3.keep
  have pp := (p1.trans p2).trans p3
  have old : ∀ {b : Addr}, H3 b = none → H b = none := fun {b} hb => by
    cases q0 : H b with
    | none => rfl
    | some w => exact absurd hb (pp.dom b (by rw [q0]; simp))
  have fin : ∀ (a : Addr) (vs : List V) (ds : List D), v = .ref a → SqL X.K H3 a vs → RdAll X.K ι3 H3 vs ds → vs.length ≤ sizeLine → Wp X.K X.mg E ι2 H2 (relL X.K H) (R.ok (cutP ds l u) S3) Q → rSlL X.K v l u H3 Q := fun a vs ds e hL rr hz hw => by
    refine ⟨a, vs, e, hL, fun p hp => hw _ _ _ (p3.trans (.new p3.sto hp)) ⟨p, _, old hp, rfl, upd_same, p3.sto.notin hp, ?_, RdAll.mono (List.prefix_refl _) (.new hp) (cut_rd rr l u)⟩⟩
    refine Nat.le_trans ?_ hz
    unfold cutV
    rw [List.length_take, List.length_drop]
    omega
  cases r3 with
  | py r3 =>
    cases r3 with
    | lst hF hz al => exact fin _ _ _ rfl hF.sq (.of_pys al) (by rw [al.length]; exact hz) (by simpa [seqOf, hz] using h3)
    | tup hT hz al => exact h3.elim
    | _ => exact h3.elim
  | raw a => exact h3.elim
  | obj e0 =>
    simp only [seqOf] at h3
    split at h3
    · rename_i ds hds
      split at hds
      · rename_i ds' hs
        cases hds
        cases p3.sto.at_ _ _ _ hs e0 with
        | lst ha rr =>
          split at h3
          · rename_i hz
            exact fin _ _ _ rfl (.inl (.inl ha)) rr (by rw [rr.length]; exact hz) h3
          · exact h3.elim
      · cases hds
    · exact h3.elim
end
/-! ### list(range(..)) -/
theorem rg_rd {K : PySem.W.Frag} {ι : List Addr} {H : Hp} (a : Int) : ∀ l : List Nat, RdAll K ι H (l.map fun (i : Nat) => V.int (a + (i : Int))) (l.map fun (k : Nat) => D.py (.int (a + (k : Int))))
  | [] => .nil
  | i :: l => .cons (.py (.int _)) (rg_rd a l)
section
variable {a b : Expr} {f g : Ex} {pos p pos2 p2 : Pos}
theorem dl_lrg1 (hc : X.calm = true) (hml : X.mg "list" = none) (hmr : X.mg "range" = none) (ha : DE X E a f) (hgl : Gl X "list" := by rfl) (hgr : Gl X "range" := by rfl)
    (hs : starEach [(.Call (.Name "range" p2) [a] [] pos2)] X.env = (false, eval (.Call (.Name "range" p2) [a] [] pos2) X.env) :: starEach [] X.env := by rfl)
    (hs2 : starEach [a] X.env = (false, eval a X.env) :: starEach [] X.env := by rfl) : DL X E (.Call (.Name "list" p) [.Call (.Name "range" p2) [a] [] pos2] [] pos) (rng1I f) := by
  obtain ⟨t, pt, q⟩ := ha
  refine ⟨_, pe_listRg hc hgl hml (prg_1 hgr hmr pt hs2) hs, fun σ H σd S ι Q hE hS h => ?_⟩
  refine q σ H σd S ι _ hE hS (Wp.bind0 h fun d S1 _ v H1 ι1 p1 r1 h1 => ?_)
  split at h1
  · rename_i j _
    split at h1
    · rename_i hj
      have ez : rgV 0 j = (List.range j.toNat).map fun (i : Nat) => V.int (0 + (i : Int)) := by
        unfold rgV
        rw [Int.sub_zero]
      refine ⟨j, int_of r1, ⟨by omega, by omega, by omega, by omega, by omega⟩, fun q hq => h1 _ _ _ (p1.trans (.new p1.sto hq)) ⟨q, _, ?_, rfl, upd_same, p1.sto.notin hq, ?_, ?_⟩⟩
      · cases q0 : H q with
        | none => rfl
        | some w => exact absurd hq (p1.dom q (by rw [q0]; simp))
      · rw [ez, List.length_map, List.length_range]
        have := hj.2
        show j.toNat ≤ 16777216
        omega
      · rw [ez]
        exact rg_rd 0 _
    · exact h1.elim
  · exact h1.elim
end
/-! ### sorted -/
theorem dints_V {K : PySem.W.Frag} {H : Hp} : ∀ {xs : List V} {ds : List PyData} {bs : List Int}, DpAll K H xs ds → intsOf ds = some bs → xs = bs.map V.int
  | _, _, bs, .nil, h => by cases h; rfl
  | _, _, bs, @DpAll.cons _ _ v vs d ds r rs, h => by
    cases r with
    | int b =>
      have h : Option.map (b :: ·) (intsOf ds) = some bs := h
      cases hb : intsOf ds with
      | none => rw [hb] at h; cases h
      | some bs' =>
        rw [hb] at h
        cases h
        rw [dints_V rs hb]
        rfl
    | _ => exact absurd h (by simp [intsOf])
theorem ints_noDict : ∀ {ds : List PyData} {bs : List Int}, intsOf ds = some bs → PyData.hasDictAll ds = false
  | [], _, _ => PyData.hasDictAll.eq_1
  | d :: ds, bs, h => by
    cases d with
    | int b =>
      have h : Option.map (b :: ·) (intsOf ds) = some bs := h
      cases hb : intsOf ds with
      | none => rw [hb] at h; cases h
      | some bs' =>
        rw [PyData.hasDictAll.eq_2, ints_noDict hb]
        simp [PyData.hasDict]
    | _ => exact absurd h (by simp [intsOf])
def sortI (ns : List Int) : List Int := ns.mergeSort fun a b => decide (a ≤ b)
def sortedD : List D → Sto → R (List D)
  | [d], S => (match deep S 8 d with
    | some (.list ds) => (match intsOf ds with
      | some ns => if ns.length < 1000000 then .ok ((sortI ns).map fun i => D.py (.int i)) S else .no
      | none => .no)
    | _ => .no)
  | _, _ => .no
theorem sortI_eq {ns ms : List Int} (hp : ms.Perm ns) (hs : ms.Pairwise (· ≤ ·)) : ms = sortI ns := by
  unfold sortI
  refine List.Perm.eq_of_pairwise (le := fun a b : Int => a ≤ b) (fun a b _ _ h1 h2 => Int.le_antisymm h1 h2) hs ?_ (hp.trans (List.mergeSort_perm _ _).symm)
  have := List.pairwise_mergeSort (le := fun a b : Int => decide (a ≤ b)) (fun a b c h1 h2 => by simp at *; omega) (fun a b => by simp; omega) ns
  exact this.imp fun h => by simpa using h
theorem ints_rd {K : PySem.W.Frag} {ι : List Addr} {H : Hp} : ∀ l : List Int, RdAll K ι H (l.map V.int) (l.map fun i => D.py (.int i))
  | [] => .nil
  | i :: l => .cons (.py (.int _)) (ints_rd l)
theorem dcl_sorted {k : Nat} (o : Okx k X E) : DCL X (.builtin "sorted") sortedD := by
  refine ⟨_, cr_sortedI (X := X), fun xs ds H S ι E Q hS r hw => ?_⟩
  unfold sortedD at hw
  split at hw
  · split at hw
    · rename_i ds hd
      split at hw
      · rename_i ns hns
        split at hw
        · rename_i hz
          cases r with
          | cons r rs =>
            cases rs
            have dx := deep_dp hS _ r hd (by rw [PyData.hasDict.eq_5]; exact ints_noDict hns)
            cases dx with
            | lst hL al =>
              refine ⟨_, ns, rfl, dints_V al hns ▸ hL, fun ms p hp hs hn => hw _ _ _ (.new hS hn) ⟨p, _, hn, rfl, upd_same, hS.notin hn, ?_, ?_⟩⟩
              · rw [List.length_map, hp.length_eq]
                exact Nat.le_of_lt (Nat.lt_of_lt_of_le hz (by decide))
              · rw [sortI_eq hp hs]
                exact ints_rd _
        · exact hw.elim
      · exact hw.elim
    · exact hw.elim
  · exact hw.elim
/-! ### join -/
def strsOf : List PyData → Option (List Str)
  | [] => some []
  | .str b :: ds => (strsOf ds).map (b :: ·)
  | _ => none
def joinD : D → List D → Sto → R D
  | .py (.str a), [.py (.list ds)], S => (match strsOf ds with
    | some ys => if (ys.map (·.length)).sum + ys.length * a.length ≤ 16777216 then .ok (.py (.str (Txt.join a ys))) S else .no
    | none => .no)
  | .py (.str a), [.py (.tuple ds)], S => (match strsOf ds with
    | some ys => if (ys.map (·.length)).sum + ys.length * a.length ≤ 16777216 then .ok (.py (.str (Txt.join a ys))) S else .no
    | none => .no)
  | _, _, _ => .no
theorem strs_V {K : PySem.W.Frag} {H : Hp} : ∀ {xs : List V} {ds : List PyData} {bs : List Str}, PpAll K H xs ds → strsOf ds = some bs → xs = bs.map V.str
  | _, _, bs, .nil, h => by cases h; rfl
  | _, _, bs, @PpAll.cons _ _ v vs d ds r rs, h => by
    cases r with
    | str b =>
      have h : Option.map (b :: ·) (strsOf ds) = some bs := h
      cases hb : strsOf ds with
      | none => rw [hb] at h; cases h
      | some bs' =>
        rw [hb] at h
        cases h
        rw [strs_V rs hb]
        rfl
    | _ => exact absurd h (by simp [strsOf])
theorem dm_join : DM X "str" "str.join" joinD := by
  refine ⟨_, mt_join (X := X), fun x xs d ds H S ι E Q hS rx r hw => ?_⟩
  unfold joinD at hw
  split at hw
  · split at hw
    · rename_i ys hys
      split at hw
      · rename_i hz
        cases r with
        | cons r rs =>
          cases rs
          cases r with
          | py r =>
            cases r with
            | lst h hz2 al => exact ⟨_, _, ys, str_of rx, rfl, .inl (strs_V al hys ▸ h.sq), hz, hw _ _ _ (.refl hS) (.py (.str _))⟩
      · exact hw.elim
    · exact hw.elim
  · split at hw
    · rename_i ys hys
      split at hw
      · rename_i hz
        cases r with
        | cons r rs =>
          cases rs
          cases r with
          | py r =>
            cases r with
            | tup h hz2 al => exact ⟨_, _, ys, str_of rx, rfl, .inr (strs_V al hys ▸ h.sq), hz, hw _ _ _ (.refl hS) (.py (.str _))⟩
      · exact hw.elim
    · exact hw.elim
  · exact hw.elim
/-! ### < of whole numbers and of tuples of them -/
def ltD : D → D → Sto → R D
  | .py (.int i), .py (.int j), S => .ok (.py (.bool (decide (i < j)))) S
  | .py (.tuple a), .py (.tuple b), S => (match intsOf a, intsOf b with
    | some ns, some ms => .ok (.py (.bool (HT.lexLt ns ms))) S
    | _, _ => .no)
  | _, _, _ => .no
theorem do_ltX {k : Nat} (o : Okx k X E) : DOp X (compareOp .Lt) ltD := by
  refine ⟨_, (op_lt (X := X)).or (op_ltT (X := X) (by have := o.room.units; omega)), fun x y d e H S ι E Q hS rx ry hw => ?_⟩
  unfold ltD at hw
  split at hw
  · exact .inl ⟨_, _, int_of rx, int_of ry, hw _ _ _ (.refl hS) (.py (.bl _))⟩
  · split at hw
    · rename_i ns ms h1 h2
      cases rx with
      | py rx =>
        cases ry with
        | py ry =>
          cases rx with
          | tup hx hz al =>
            cases ry with
            | tup hy hz2 bl => exact .inr ⟨_, _, ns, ms, rfl, rfl, ints_V al h1 ▸ hx.sq, ints_V bl h2 ▸ hy.sq, hw _ _ _ (.refl hS) (.py (.bl _))⟩
    · exact hw.elim
  · exact hw.elim
theorem dl_callB {x : Str} {p pos : Pos} {e : Expr} {es : List Expr} {fs : Ax} {id : String} {gg : List D → Sto → R (List D)} (hc : DCL X (.builtin id) gg) (hm : X.mg x = none) (hv : bootBuiltins x = some (.builtin id)) (ha : DA X E (e :: es) fs) (hg : Gl X x := by rfl) (hn : x ≠ "__name__" := by decide) (hdb : (x == ("__debug__" : Str)) = false := by decide)
    (he : starEach (e :: es) X.env = (false, eval e X.env) :: starEach es X.env := by rfl) (hpl : (backTo pos (starEach es X.env)).any (·.1) = false := by rfl) : DL X E (.Call (.Name x p) (e :: es) [] pos) (callL gg fs) := by
  obtain ⟨l, t, pt, q⟩ := ha
  obtain ⟨r, hr, qr⟩ := hc
  refine ⟨_, pe_callB hr hg hm hv pt hn hdb he hpl, fun σ H σd S ι Q hE hS h => ?_⟩
  refine q σ H σd S ι _ hE hS (Wp.bind0 h fun ds S1 _ vs H1 ι1 p1 r1 h1 => ?_)
  refine qr _ _ _ _ _ E _ p1.sto r1 ?_
  cases hgg : gg ds S1 with
  | no => rw [hgg] at h1; exact h1.elim
  | ex c S2 => rw [hgg] at h1; exact (Wp.re (rel := relL X.K H1) (Q := Q) p1 (show Wp X.K X.mg E ι H (relL X.K H1) (R.ex c S2) Q from h1))
  | ok ys S2 =>
    rw [hgg] at h1
    intro v H2 ι2 p2 r2
    obtain ⟨a, vs2, h0, rest⟩ := r2
    refine h1 v H2 ι2 (p1.trans p2) ⟨a, vs2, ?_, rest⟩
    cases q0 : H a with
    | none => rfl
    | some u => exact absurd h0 (p1.dom a (by rw [q0]; simp))
/-! ### max and min of a list of whole numbers -/
def maxI : List Int → Int
  | [] => 0
  | x :: xs => xs.foldl max x
end DV

set_option maxHeartbeats 4000000
namespace DV
open PySem PySem.Spec PyProof.Rows L2
/-! Methods of texts that make new lists; insert. -/
variable {X : Cx} {E : XK}
def methSL (g : D → List D → Sto → R (List D)) (o : Ex) (a : Ax) : Ax := fun σ S => (o σ S).bind fun x S1 => match x with
  | .py (.str _) => (a σ S1).bind fun ds S2 => g x ds S2
  | _ => .no
/-- a method that makes a new list -/
def DML (X : Cx) (id : String) (g : D → List D → Sto → R (List D)) : Prop := ∃ r, MtR X id r ∧ ∀ x xs d ds H S ι E Q, StR X.K ι H S → Rd X.K ι H x d → RdAll X.K ι H xs ds → Wp X.K X.mg E ι H (relL X.K H) (g d ds S) Q → r x xs H Q
theorem relL_old {K : PySem.W.Frag} {mg : Str → Option Value} {ι ι1 : List Addr} {H H1 : Hp} {S1 : Sto} {r : R (List D)} {Q : VK} (p1 : Post K ι H ι1 H1 S1) (h1 : Wp K mg E ι H (relL K H) r Q) : Wp K mg E ι1 H1 (relL K H1) r Q := by
  cases r with
  | no => exact h1.elim
  | ex c S2 => exact (Wp.re (rel := relL K H1) (Q := Q) p1 (show Wp K mg E ι H (relL K H1) (R.ex c S2) Q from h1))
  | ok ys S2 =>
    intro v H2 ι2 p2 r2
    obtain ⟨a, vs2, h0, rest⟩ := r2
    refine h1 v H2 ι2 (p1.trans p2) ⟨a, vs2, ?_, rest⟩
    cases q0 : H a with
    | none => rfl
    | some u => exact absurd h0 (p1.dom a (by rw [q0]; simp))
section
variable {o e : Expr} {es : List Expr} {f : Ex} {fs : Ax} {name : Str} {id : String} {apos cpos : Pos} {gg : D → List D → Sto → R (List D)}
theorem dl_methS (slot : Slot "str" name id) (hty : typeOf (.builtin id) = pure (.type "method_descriptor")) (hm : DML X id gg) (ho : DE X E o f) (ha : DA X E (e :: es) fs)
    (hbase : attributeBase o name X.env (eval o X.env) = eval o X.env := by rfl)
    (hfew : ((backTo cpos (starEach (e :: es) X.env)).all (fun x => !x.1) && (backToKw cpos (keywordEach [] X.env)).all (fun x => x.1.isSome)
      && decide ((e :: es).length + ([] : List Keyword).length + (if ([] : List Keyword).isEmpty then 0 else 1) < 30)) = true := by rfl)
    (hline : (apos.endLine == cpos.line) = true := by rfl) (hs : starEach (e :: es) X.env = (false, eval e X.env) :: starEach es X.env := by rfl) (hplain : (backTo cpos (starEach es X.env)).any (·.1) = false := by rfl) :
    DL X E (.Call (.Attribute o name apos) (e :: es) [] cpos) (methSL gg f fs) := by
  obtain ⟨t, p, q⟩ := ho
  obtain ⟨l, u, pu, qu⟩ := ha
  obtain ⟨r, hr, qr⟩ := hm
  refine ⟨_, pe_bm PySem.F.plainAttrs_str slot hty hr p pu hbase hfew hline hs hplain, fun σ H σd S ι Q hE hS h => ?_⟩
  refine q σ H σd S ι _ hE hS (Wp.bind0 h fun d S1 _ v H1 ι1 p1 r1 h1 => ?_)
  split at h1
  · rename_i z _
    refine ⟨by cases r1 with | py r1 => cases r1; rfl, ?_⟩
    refine qu σ H1 σd S1 ι1 _ (hE.mono p1.pre p1.keep) p1.sto (Wp.bind0 (Wp.re p1 h1) fun d2 S2 _ v2 H2 ι2 p2 r2 h2 => ?_)
    have h3 : Wp X.K X.mg E ι1 H1 (relL X.K H1) (gg (.py (.str z)) d2 S2) Q := by
      cases hg : gg (.py (.str z)) d2 S2 with
      | no => rw [hg] at h2; exact h2.elim
      | ex c S3 => rw [hg] at h2; exact h2
      | ok ys S3 =>
        rw [hg] at h2
        intro v H3 ι3 p3 r3
        obtain ⟨a, vs2, h0, rest⟩ := r3
        refine h2 v H3 ι3 p3 ⟨a, vs2, ?_, rest⟩
        cases q0 : H a with
        | none => rfl
        | some u => exact absurd h0 (p1.dom a (by rw [q0]; simp))
    exact qr _ _ _ _ _ _ _ E _ p2.sto (r1.mono p2.pre p2.keep) r2 (relL_old p2 h3)
  · exact h1.elim
end
def splitD : D → List D → Sto → R (List D)
  | .py (.str a), [.py (.str b)], S => if (b.length == 0) = false ∧ a.length + 2 ≤ sizeLine ∧ (Txt.split a b).length ≤ sizeLine then .ok ((Txt.split a b).map fun x => D.py (.str x)) S else .no
  | _, _, _ => .no
theorem strs_rd {K : PySem.W.Frag} {ι : List Addr} {H : Hp} : ∀ l : List Str, RdAll K ι H (l.map V.str) (l.map fun i => D.py (.str i))
  | [] => .nil
  | i :: l => .cons (.py (.str _)) (strs_rd l)
theorem dml_split : DML X "str.split" splitD := by
  refine ⟨_, mt_split (X := X), fun x xs d ds H S ι E Q hS rx r hw => ?_⟩
  unfold splitD at hw
  split at hw
  · split at hw
    · rename_i hz
      cases r with
      | cons r rs =>
        cases rs
        refine ⟨_, _, str_of rx, by rw [str_of r], hz.1, hz.2.1, fun p hp => hw _ _ _ (.new hS hp) ⟨p, _, hp, rfl, upd_same, hS.notin hp, by rw [List.length_map]; exact hz.2.2, strs_rd _⟩⟩
    · exact hw.elim
  · exact hw.elim
end DV

set_option maxHeartbeats 4000000
namespace PySem
open Sem (wp)
theorem dv_args_sum2 (a b : Value) : argsOk "sum" ⟨[a, b], []⟩ := by unfold argsOk; kernel_rfl
section
variable {prog : Program} {w : World} {A : Around} {R : Result → Shared → Prop} {I : Addr} {fp wr : List Addr} {n : Nat} {P : Nat → Value → Prop} {St : Nat → Heap → Prop}
def preLists (lst : Nat → List Value) : Nat → List Value
  | 0 => []
  | n + 1 => preLists lst n ++ lst n
def KeptBut (wr : List Addr) (h0 h : Heap) : Prop := ∀ b o, b ∉ wr → h0.get? b = some o → h.get? b = some o
def TotL (h0 : Heap) (lst : Nat → List Value) (t0 : Addr) (i : Nat) (h : Heap) (t : Addr) : Prop :=
  (i = 0 ∧ t = t0) ∨ (h0.get? t = none ∧ h.get? t = some { cls := .type "list", data := .seq (preLists lst i).toArray })
theorem TotL.isList {h0 h : Heap} {lst : Nat → List Value} {t0 t : Addr} {i : Nat} (x : TotL h0 lst t0 i h t) (h1 : h.IsList t0 #[]) : h.IsList t (preLists lst i).toArray := by
  rcases x with ⟨rfl, rfl⟩ | ⟨_, e⟩
  · exact h1
  · exact ⟨_, e, rfl, _, rfl⟩
theorem TotL.kept {h0 h h' : Heap} {lst : Nat → List Value} {t0 t : Addr} {i : Nat} (x : TotL h0 lst t0 i h t) (k : ∀ o, h.get? t = some o → h'.get? t = some o) : TotL h0 lst t0 i h' t := by
  rcases x with ⟨rfl, rfl⟩ | ⟨e0, e⟩
  · exact .inl ⟨rfl, rfl⟩
  · exact .inr ⟨e0, k _ e⟩
theorem codeAny_sum_loopL {h0 : Heap} {t0 : Addr} (W : Walks prog w A.in1 I fp wr n P St) (hin : ∀ i h, St i h → ∀ b ∈ fp, b < h.objs.size) (lst : Nat → List Value)
    (hval : ∀ i v, P i v → ∃ c, v = .ref c ∧ ∀ h : Heap, KeptBut wr h0 h → h.IsList c (lst i).toArray) (S : Addr) (hSf : S ∉ fp)
    (hsz : ∀ i, i ≤ n → (preLists lst i).length ≤ sizeLine) (hS0 : h0.get? S = none) (ht0 : ∀ h, KeptBut wr h0 h → h.IsList t0 #[]) :
    ∀ (k i : Nat) (s : Shared) (t : Addr) (c : Nat), n - i = k → i ≤ n → St i s.heap → KeptBut wr h0 s.heap →
    s.heap.get? S = some { cls := .type "list", dict := none, data := .seq #[.ref t] c, slots := #[] } → TotL h0 lst t0 i s.heap t → t ≠ S → t ∉ wr →
    (∀ h' tk t', KeptBut wr h0 h' → TotL h0 lst t0 n h' t' → R (.ok (.ret (.ref t'))) { s with heap := h', toks := tk }) →
    codeAny (model prog w) A (.builtin "sum.loop" ⟨[.ref I, .ref S, rawInt 2, rawInt 0], []⟩) R s := by
  have hSw : S ∉ wr := fun h => hSf (W.sub _ h)
  intro k
  induction k with
  | zero =>
    intro i s t c hk hi hst hkp hS ht htS htf hR
    have hin : i = n := by omega
    subst hin
    refine codeAny_builtin F.entry_sum_loop ?_
    rw [Around.under_plainId F.plain_sum_loop _]
    show wpAny _ A.in1 (seqItems? (.ref S) >>= _) _ _ s
    refine wpAny_bind (wpAny_seqItems hS rfl ?_)
    show wpAny _ A.in1 (tryCatch (pyNext (.ref I)) _ >>= _) _ _ s
    refine wpAny_bind (wpAny_tryCatch (W.done s _ _ hst fun h' tk hk' => ?_))
    exact wpAny_pure (hR h' tk t (fun b o hbw e => hk' b o hbw (hkp b o hbw e)) (ht.kept fun o e => hk' _ _ htf e))
  | succ k ih =>
    intro i s t c hk hi hst hkp hS ht htS htf hR
    have hlt : i < n := by omega
    refine codeAny_builtin F.entry_sum_loop ?_
    rw [Around.under_plainId F.plain_sum_loop _]
    show wpAny _ A.in1 (seqItems? (.ref S) >>= _) _ _ s
    refine wpAny_bind (wpAny_seqItems hS rfl ?_)
    show wpAny _ A.in1 (tryCatch (pyNext (.ref I)) _ >>= _) _ _ s
    refine wpAny_bind (wpAny_tryCatch (W.item i s _ _ hlt hst fun v h' tk hP hst' hk' => ?_))
    obtain ⟨cv, rfl, hcv⟩ := hval i v hP
    have hS' := hk' S _ hSw hS
    have kp' : KeptBut wr h0 h' := fun b o hbw e => hk' b o hbw (hkp b o hbw e)
    obtain ⟨⟨cls2, dd2, data2, sl2⟩, ho2, hc2, n2, hd2⟩ := hcv h' kp'
    obtain ⟨⟨cls, dd, data, sl⟩, ho, hc, n1, hd⟩ := (ht.kept fun o e => hk' _ _ htf e).isList (ht0 h' kp')
    simp only at hc hd hc2 hd2
    subst hc hd hc2 hd2
    show wpAny _ A.in1 ((holding [Value.ref cv] (binaryOp .Add (.ref t) (.ref cv))).attempt >>= _) _ _ _
    have hz := hsz (i + 1) hlt
    rw [preLists, List.length_append] at hz
    have e : (preLists lst i).toArray ++ (lst i).toArray = (preLists lst (i + 1)).toArray := by simp [preLists]
    have fpl := hin _ _ hst'
    have hSl := Heap.lt_size hS'
    refine wpAny_bind (wpAny_attempt (wpAny_holding (concat_meets ⟨_, ho, rfl⟩ ⟨_, ho2, rfl⟩ noFill_list_add seq_list_add F.slot_list_add F.entry_list_add (F.args_list_add_2 _ _) (PyProof.Rows.list_addW t cv _ _ n1 n2 dd dd2 sl sl2 (by simpa using hz)) ⟨ho, ho2, ?_⟩)))
    rw [e]
    generalize hO : ({ cls := Value.type "list", data := Data.seq (preLists lst (i + 1)).toArray } : Obj) = O
    have hS1 : (h'.push O).get? S = _ := Heap.get?_push_of_some O hS'
    show wpAny _ A.in1 (updateSeq S (fun _ => #[.ref h'.objs.size]) >>= _) _ _ _
    refine wpAny_bind ?_
    refine wpAny_updateSeq hS1 rfl ?_
    have hS2 := Heap.get?_update_self (Obj.mapSeq fun _ => #[Value.ref h'.objs.size]) hS1 rfl
    refine wpAny_bind (wpAny_letGo ?_)
    refine wpAny_bind ?_
    have hne : h'.objs.size ≠ S := Nat.ne_of_gt hSl
    have up : ∀ (b : Addr) (o : Obj), b ≠ S → h'.get? b = some o → (((h'.push O).update S (Obj.mapSeq fun _ => #[Value.ref h'.objs.size])).update S (Obj.mapSeq fun _ => #[Value.ref h'.objs.size])).get? b = some o := fun b o hb e =>
      (Heap.get?_update_other _ _ (Ne.symm hb)).trans ((Heap.get?_update_other _ _ (Ne.symm hb)).trans (Heap.get?_push_of_some O e))
    refine wpAny_updateSeq hS2 rfl (wpAny_pure ⟨plainId_quiet F.plain_sum_loop _, ih (i + 1) _ h'.objs.size _ (by omega) hlt (W.frame _ _ _ hst' fun b hb o e => up b o (fun h => hSf (h ▸ hb)) e) (fun b o hbw e => up b o (fun h => by rw [h, hS0] at e; cases e) (kp' b o hbw e)) (Heap.get?_update_self _ hS2 rfl) (.inr ⟨?_, ?_⟩) hne (fun h => Nat.lt_irrefl _ (fpl _ (W.sub _ h))) fun h'' tk'' t'' hk'' ht'' => hR h'' tk'' t'' hk'' ht''⟩)
    · cases q : h0.get? h'.objs.size with
      | none => rfl
      | some o =>
        have hw : h'.objs.size ∉ wr := fun h => Nat.lt_irrefl _ (fpl _ (W.sub _ h))
        exact absurd (Heap.lt_size (kp' _ _ hw q)) (Nat.lt_irrefl _)
    · subst hO
      exact (Heap.get?_update_other _ _ (Ne.symm hne)).trans ((Heap.get?_update_other _ _ (Ne.symm hne)).trans (Heap.get?_push_size _ rfl))
end
section
variable {prog : Program} {w : World} {A : Around} {E : Value → Shared → Prop} {s : Shared}
theorem sum_lists {l b : Addr} {its : Array Value} {ws : List (List Value)} {Q : Value → Shared → Prop} (hh : A.handled = none) (hl : s.heap.IsList l its) (hb : s.heap.IsList b #[])
    (hv : ∀ i v, its[i]? = some v → ∃ c, v = .ref c ∧ s.heap.IsList c (ws.getD i []).toArray) (hsz : ∀ i, i ≤ its.size → (preLists (fun i => ws.getD i []) i).length ≤ sizeLine)
    (h : ∀ h' tk t', (∀ b o, s.heap.get? b = some o → h'.get? b = some o) → TotL s.heap (fun i => ws.getD i []) b its.size h' t' → Q (.ref t') { s with heap := h', toks := tk }) :
    wpAny (model prog w) A (call (.builtin "sum") [.ref l, .ref b]) Q E s := by
  refine call_function_tree F.kind_sum F.plain_sum F.entry_sum (dv_args_sum2 _ _) ?_
  unfold Builtin.«sum»
  simp only [List.length_cons, List.length_nil]
  rw [if_neg (by decide)]
  refine wpAny_bind (wpAny_of_eq (show Builtin.Builtins.bindParams "sum" ["start"] 0 ⟨[.ref b], []⟩ = pure [some (.ref b)] from rfl) ?_)
  refine wpAny_bind (L2.iter_any hl fun s₂ e2 st hne => ?_)
  subst e2
  refine wpAny_bind (wpAny_pure ?_)
  simp only [List.forIn_cons, List.forIn_nil]
  generalize hIt : ({ cls := Value.type "list_iterator", data := .fields #[.ref l, .int 0 0] } : Obj) = It at st ⊢
  have hb2 : (s.heap.push It).IsList b #[] := hb.push _
  have ty : ∀ U, isSubtype (.type "list") (.type U) = pure false → ∀ (Q' : Bool → Shared → Prop) (E' : Value → Shared → Prop), Q' false { s with heap := s.heap.push It } → wpAny (model prog w) A.in1 (isInstance (.ref b) (.type U)) Q' E' { s with heap := s.heap.push It } := fun U hU Q' E' q => by
    obtain ⟨o, e, e1, _⟩ := hb2
    exact wpAny_isInstance (T := "list") ⟨o, e, e1⟩ hU q
  refine wpAny_bind (wpAny_bind (wpAny_bind (ty "str" (by rw [isSubtype_type]; kernel_rfl) _ _ ?_)))
  simp only [Bool.false_eq_true, if_false]
  refine wpAny_pure (wpAny_bind (wpAny_bind (ty "bytes" (by rw [isSubtype_type]; kernel_rfl) _ _ ?_)))
  simp only [Bool.false_eq_true, if_false]
  refine wpAny_pure (wpAny_bind (wpAny_bind (ty "bytearray" (by rw [isSubtype_type]; kernel_rfl) _ _ ?_)))
  simp only [Bool.false_eq_true, if_false]
  refine wpAny_pure (wpAny_pure ?_)
  refine wpAny_bind (wpAny_newObj_type ?_)
  have hll : l < s.heap.objs.size := by obtain ⟨_, e, _⟩ := hl; exact Heap.lt_size e
  have hbl : b < s.heap.objs.size := by obtain ⟨_, e, _⟩ := hb; exact Heap.lt_size e
  have hps : (s.heap.push It).objs.size = s.heap.objs.size + 1 := by simp [Heap.push]
  have big : ∀ x : Addr, x < s.heap.objs.size → x ≠ (s.heap.push It).objs.size ∧ x ≠ s.heap.objs.size := fun x hx => by
    rw [hps]
    exact ⟨Nat.ne_of_lt (Nat.lt_succ_of_lt hx), Nat.ne_of_lt hx⟩
  have W := Walks.list (prog := prog) (w := w) (A := A.in1) hh s.heap.objs.size l hne its
  have up : ∀ (b : Addr) (o o2 : Obj), s.heap.get? b = some o → ((s.heap.push It).push o2).get? b = some o := fun b o o2 e => Heap.get?_push_of_some _ (Heap.get?_push_of_some _ e)
  refine wpAny_pure ⟨plainId_quiet F.plain_sum_loop _, codeAny_sum_loopL (h0 := s.heap) (t0 := b) W (fun i h st b hb => ?_) (fun i => ws.getD i []) (fun i v hP => ?_) (s.heap.push It).objs.size ?_ hsz ?_ (fun h k => ?_) its.size 0 _ b 0 rfl (Nat.zero_le _)
    (W.frame _ _ _ st fun b _ o e => Heap.get?_push_of_some _ e) (fun b o _ e => up b o _ e) (Heap.get?_push_size _ rfl) (.inl ⟨rfl, rfl⟩) (big b hbl).1 ?_ fun h' tk t' hk ht => ?_⟩
  · simp only [List.mem_cons, List.not_mem_nil, or_false] at hb
    rcases hb with rfl | rfl
    · obtain ⟨⟨_, e, _⟩, _⟩ := st
      exact Heap.lt_size e
    · obtain ⟨_, ⟨_, e, _⟩⟩ := st
      exact Heap.lt_size e
  · obtain ⟨c, rfl, o, e, e2⟩ := hv i v hP
    exact ⟨c, rfl, fun h k => ⟨o, k _ _ (fun hm => by
      simp only [List.mem_cons, List.not_mem_nil, or_false] at hm
      subst hm
      exact absurd (Heap.lt_size e) (Nat.lt_irrefl _)) e, e2⟩⟩
  · intro hm
    simp only [List.mem_cons, List.not_mem_nil, or_false] at hm
    rcases hm with hm | hm
    · rw [hps] at hm
      exact absurd hm (Nat.succ_ne_self _)
    · exact (big l hll).1 hm.symm
  · cases q : s.heap.get? (s.heap.push It).objs.size with
    | none => rfl
    | some o => exact absurd rfl (big _ (Heap.lt_size q)).1
  · obtain ⟨o, e, e2⟩ := hb
    exact ⟨o, k _ _ (fun hm => by
      simp only [List.mem_cons, List.not_mem_nil, or_false] at hm
      exact (big b hbl).2 hm) e, e2⟩
  · intro hm
    simp only [List.mem_cons, List.not_mem_nil, or_false] at hm
    exact (big b hbl).2 hm
  · exact h h' tk t' (fun b o e => hk b o (fun hm => by
      simp only [List.mem_cons, List.not_mem_nil, or_false] at hm
      exact (big b (Heap.lt_size e)).2 hm) e) ht
end
end PySem
namespace DV
open PySem PySem.Spec PyProof.Rows L2
variable {X : Cx} {E : XK}
theorem Vals.ref2 {a b : Addr} {us : List Value} (r : Vals [V.ref a, V.ref b] us) : us = [Value.ref a, Value.ref b] := by
  cases r with
  | cons h t =>
    cases t with
    | cons h2 t =>
      cases t
      cases h
      cases h2
      rfl
def rSumL (K : PySem.W.Frag) : List V → Hp → VK → Prop := fun vs H Q => ∃ (a b : Addr) (xs : List V) (Ls : List (List V)), vs = [V.ref a, V.ref b] ∧ SqL K H a xs ∧ SqL K H b [] ∧ Paired (fun v l => ∃ c, v = V.ref c ∧ SqL K H c l) xs Ls ∧
  Ls.flatten.length ≤ sizeLine ∧ (∀ p, H p = none → Q (.ref p) (upd H p (.lst Ls.flatten))) ∧ (xs = [] → Q (.ref b) H)
theorem lists_of {pins : List (Addr × Obj)} {s : Shared} {σ : L2.St} {H : Hp} (I : Inv X pins σ H s) : ∀ {xs : List V} {Ls : List (List V)} {its : List Value}, Vals xs its → Paired (fun v l => ∃ c, v = V.ref c ∧ SqL X.K H c l) xs Ls →
    ∃ ws : List (List Value), ws.length = its.length ∧ Vals Ls.flatten ws.flatten ∧ ∀ (i : Nat) (v : Value), its[i]? = some v → ∃ c, v = .ref c ∧ s.heap.IsList c (ws.getD i []).toArray
  | _, _, _, .nil, .nil => ⟨[], rfl, .nil, fun i v e => by simp at e⟩
  | _, _, _, .cons r rs, .cons h hs => by
    obtain ⟨ws, h1, h2, h3⟩ := lists_of I rs hs
    obtain ⟨c, rfl, hc⟩ := h
    obtain ⟨its, rv, hl, _⟩ := I.list hc
    cases r
    refine ⟨its :: ws, by simp [h1], ?_, fun i v e => ?_⟩
    · exact rv.append h2
    · cases i with
      | zero =>
        simp at e
        subst e
        exact ⟨c, rfl, hl.isList⟩
      | succ i => exact h3 i v (by simpa using e)
theorem pre_take (ws : List (List Value)) : ∀ n, n ≤ ws.length → preLists (fun i => ws.getD i []) n = (ws.take n).flatten
  | 0, _ => by simp [preLists]
  | n + 1, h => by
    have hn : n < ws.length := h
    rw [preLists, pre_take ws n (by omega), List.take_succ_eq_append_getElem hn, List.flatten_append]
    simp [hn]
theorem cr_sumL (hc : X.calm = true) : CallR X (.builtin "sum") (rSumL X.K) := by
  intro pins s σ H vs us Q I r h
  obtain ⟨a, b, xs, Ls, rfl, hs, hb, hp, hz, q1, q2⟩ := h
  obtain ⟨its, rv, hl, _⟩ := I.list hs
  obtain ⟨ib, rb, hlb, _⟩ := I.list hb
  cases rb
  obtain ⟨ws, w1, w2, w3⟩ := lists_of I rv hp
  rw [Vals.ref2 r]
  have hlen : ws.flatten.length = Ls.flatten.length := w2.length.symm
  refine sum_lists (ws := ws) (I.ok.hd hc) hl.isList hlb.isList (fun i v e => w3 i v (by simpa using e)) (fun i hi => ?_) fun h' tk t' hk ht => ?_
  · have hi : i ≤ ws.length := by simpa [w1] using hi
    rw [pre_take ws i hi]
    have e : ws.flatten.length = (ws.take i).flatten.length + (ws.drop i).flatten.length := by rw [← List.length_append, ← List.flatten_append, List.take_append_drop]
    exact Nat.le_trans (by rw [e]; exact Nat.le_add_right _ _) (hlen ▸ hz)
  · have en : its.toArray.size = ws.length := by simp [w1]
    rw [en] at ht
    rcases ht with ⟨h0, rfl⟩ | ⟨h0, h1⟩
    · have hx : xs = [] := by
        have := rv.length
        exact List.eq_nil_of_length_eq_zero (by omega)
      exact ⟨.ref _, H, I.kept hk, rfl, q2 hx⟩
    · rw [pre_take ws _ (Nat.le_refl _), List.take_length] at h1
      exact ⟨.ref _, upd H t' (.lst Ls.flatten), I.laidN hk h0 (I.hok.gone h0) ⟨hz, ws.flatten, 0, w2, h1⟩, rfl, q1 t' (I.hok.gone h0)⟩
/-- sum(lists, []) -/
def listsOf : List PyData → Option (List (List PyData))
  | [] => some []
  | .list l :: ds => (listsOf ds).map (l :: ·)
  | _ => none
def sumL (f : Ex) : Ax := fun σ S => (f σ S).bind fun d S1 => match d with
  | .py (.list ds) => (match listsOf ds with
    | some Ls => if Ls.flatten.length ≤ sizeLine then .ok (Ls.flatten.map .py) S1 else .no
    | none => .no)
  | _ => .no
theorem lists_V {K : PySem.W.Frag} {H H' : Hp} (k : Keep H H') : ∀ {xs : List V} {ds : List PyData} {Ls : List (List PyData)}, PpAll K H xs ds → listsOf ds = some Ls → ∃ Vs : List (List V), Paired (fun v l => ∃ c, v = V.ref c ∧ SqL K H' c l) xs Vs ∧ PpAll K H' Vs.flatten Ls.flatten
  | _, _, _, .nil, h => by cases h; exact ⟨[], .nil, .nil⟩
  | _, _, Ls, @PpAll.cons _ _ v vs d ds r rs, h => by
    cases r with
    | @lst a xs l hF hz al =>
      have h : Option.map (l :: ·) (listsOf ds) = some Ls := h
      cases hb : listsOf ds with
      | none => rw [hb] at h; cases h
      | some Ls' =>
        rw [hb] at h
        cases h
        obtain ⟨Vs, h1, h2⟩ := lists_V k rs hb
        exact ⟨xs :: Vs, .cons ⟨a, rfl, (hF.keep k).sq⟩ h1, (al.keep k).append h2⟩
    | _ => exact absurd h (by simp [listsOf])
theorem dl_sumL {e : Expr} {f : Ex} {p pos lpos : Pos} (o : X.calm = true) (hm : X.mg "sum" = none) (he : DE X E e f) (hg : Gl X "sum" := by rfl)
    (hs1 : starEach [e, .List [] lpos] X.env = (false, eval e X.env) :: starEach [.List [] lpos] X.env := by rfl)
    (hs2 : starEach [.List [] lpos] X.env = (false, eval (.List [] lpos) X.env) :: starEach [] X.env := by rfl) (hpl : (backTo pos (starEach [.List [] lpos] X.env)).any (·.1) = false := by rfl) :
    DL X E (.Call (.Name "sum" p) [e, .List [] lpos] [] pos) (sumL f) := by
  obtain ⟨t, pt, q⟩ := he
  obtain ⟨t2, pt2, q2⟩ := dl_lst (X := X) (E := E) (pos := lpos) da_nil
  refine ⟨_, pe_callB (cr_sumL o) hg hm rfl (pa_cons pt (pa_cons pt2 pa_nil hs2) hs1) (by decide) (by decide) hs1 hpl, fun σ H σd S ι Q hE hS h => ?_⟩
  refine q σ H σd S ι _ hE hS (Wp.bind0 h fun d S1 e1 v H1 ι1 p1 r1 h1 => ?_)
  split at h1
  · rename_i ds
    split at h1
    · rename_i Ls hLs
      split at h1
      · rename_i hz
        cases r1 with
        | py r1 =>
          cases r1 with
          | @lst a xs _ hF hz1 al =>
            have old : ∀ {H2 : Hp} {b : Addr}, (∀ b, H b ≠ none → H2 b ≠ none) → H2 b = none → H b = none := fun {H2 b} k hb => by
              cases q0 : H b with
              | none => rfl
              | some w => exact absurd hb (k b (by rw [q0]; simp))
            refine q2 σ H1 σd S1 ι1 _ (hE.mono p1.pre p1.keep) p1.sto (show Wp X.K X.mg E ι1 H1 (relL X.K H1) (R.ok [] S1) _ from fun v2 H2 ι2 p2 r2 => ?_)
            obtain ⟨b, ws, b0, rfl, hb, bn, _, rws⟩ := r2
            cases rws
            obtain ⟨Vs, g1, g2⟩ := lists_V p2.keep al hLs
            have gl := g2.length
            refine ⟨a, b, xs, Vs, rfl, (hF.keep p2.keep).sq, .inl (.inl hb), g1, by rw [gl]; exact hz, fun p hp => ?_, fun hx => ?_⟩
            · refine h1 _ _ _ ((p1.trans p2).trans (.new p2.sto hp)) ⟨p, _, old (p1.trans p2).dom hp, rfl, upd_same, p2.sto.notin hp, by rw [gl]; exact hz, .of_pys (g2.keep (.new hp))⟩
            · subst hx
              cases al
              cases hLs
              exact h1 _ _ _ (p1.trans p2) ⟨b, [], old p1.dom b0, rfl, hb, bn, Nat.zero_le _, .nil⟩
      · exact h1.elim
    · exact h1.elim
  · exact h1.elim
end DV

set_option maxHeartbeats 4000000
namespace DV
open PySem PySem.Spec PyProof.Rows L2
/-! A list turned about; insert. -/
variable {X : Cx} {E : XK}
def revL (a : Ex) : Ax := fun σ S => (a σ S).bind fun x S1 => match x with
  | .py (.list ds) => .ok (ds.reverse.map .py) S1
  | _ => .no
section
variable {e : Expr} {f : Ex} {k : Nat} {pos p1 p2 p3 : Pos}
end
end DV

set_option maxHeartbeats 4000000
namespace DV
open PySem PySem.Spec PyProof.Rows L2
/-! is True; int of a truth; in of a tuple of tuples; not in range. -/
variable {X : Cx} {E : XK}
def notBD : D → D → Sto → R D
  | .py (.bool a), .py (.bool b), S => .ok (.py (.bool (!decide (a = b)))) S
  | _, _, _ => .no
theorem bl_of {K : PySem.W.Frag} {ι : List Addr} {H : Hp} {v : V} {b : Bool} (r : DV.Rd K ι H v (.py (.bool b))) : v = .bl b := by
  cases r with
  | py r => cases r; rfl
theorem do_notB : DOp X (compareOp .IsNot) notBD := by
  refine ⟨_, op_notBl (X := X), fun x y d e H S ι E Q hS rx ry hw => ?_⟩
  unfold notBD at hw
  split at hw
  · exact ⟨_, _, bl_of rx, bl_of ry, hw _ _ _ (.refl hS) (.py (.bl _))⟩
  · exact hw.elim
def intD : List D → Sto → R D
  | [.py (.bool b)], S => .ok (.py (.int (if b then 1 else 0))) S
  | [.py (.int i)], S => .ok (.py (.int i)) S
  | _, _ => .no
theorem dc_int : DC X (.type "int") intD := by
  refine ⟨_, call_int1 (X := X), fun xs ds H S ι E Q hS r hw => ?_⟩
  unfold intD at hw
  split at hw
  · cases r with
    | cons r rs =>
      cases rs
      exact .inr ⟨_, by rw [bl_of r], hw _ _ _ (.refl hS) (.py (.int _))⟩
  · cases r with
    | cons r rs =>
      cases rs
      exact .inl ⟨_, by rw [int_of r], hw _ _ _ (.refl hS) (.py (.int _))⟩
  · exact hw.elim
/-! ### in of a tuple, deep -/
/-! ### not in range -/
section
variable {a : Expr} {f : Ex} {j : Int} {kk : Nat} {p p1 pos pos2 : Pos}
end
end DV

set_option maxHeartbeats 4000000
namespace L2
open PySem PySem.Spec PyProof.Rows
end L2
namespace DV
open PySem PySem.Spec PyProof.Rows L2
variable {X : Cx} {E : XK}
section
variable {a : Expr} {f : Ex} {k1 k2 : Nat} {p p1 p2 p3 p4 pos : Pos}
end
end DV

set_option maxHeartbeats 4000000
namespace DV
open PySem PySem.Spec PyProof.Rows L2
/-! Dicts that are never changed: dict(pairs), d[k]. -/
variable {X : Cx} {E : XK}
def keyOf : PyData → Option Key
  | .int i => some (.inl i)
  | .str x => some (.inr x)
  | _ => none
@[simp] theorem keyOf_keyP (k : Key) : keyOf (keyP k) = some k := by cases k <;> rfl
def pairsOf : List PyData → Option (List (Key × PyData))
  | [] => some []
  | .tuple [k, v] :: ds => (match keyOf k, pairsOf ds with
    | some k, some r => some ((k, v) :: r)
    | _, _ => none)
  | _ => none
def dictF (f : Ex) : Ex := fun σ S => (f σ S).bind fun d S1 => match d with
  | .py (.list ds) => (match pairsOf ds with
    | some kv => if (kv.map Prod.fst).Nodup then .ok (.py (.dict (kv.map fun p => (keyP p.1, p.2)))) S1 else .no
    | none => .no)
  | _ => .no
section
variable {e i : Expr} {f g : Ex} {p pos : Pos}
def dlook : List (PyData × PyData) → Key → Option PyData
  | [], _ => none
  | (p, d) :: r, k => if keyOf p = some k then some d else dlook r k
def dgetF (a b : Ex) : Ex := fun σ S => (a σ S).bind fun x S1 => (b σ S1).bind fun y S2 => match x, y with
  | .py (.dict kvs), .py k => (match keyOf k with
    | some k => (match dlook kvs k with
      | some d => .ok (.py d) S2
      | none => .no)
    | none => .no)
  | _, _ => .no
end
end DV

set_option maxHeartbeats 4000000
namespace DV
open PySem PySem.Spec PyProof.Rows L2
/-! insert; == of lists that may be changed; count of whole numbers and truths. -/
variable {X : Cx} {E : XK}
end DV

set_option maxHeartbeats 4000000
namespace DV
open PySem PySem.Spec PyProof.Rows L2
/-! < of data that are alike, place by place, nested. -/
section
variable {X : Cx} {E : XK}
def ltOk (d e : PyData) : Prop := PySem.W.alike d e = true ∧ isNon d = false ∧ d.hasDict = false ∧ e.hasDict = false ∧ d.depth ≤ 60
instance (d e : PyData) : Decidable (ltOk d e) := by unfold ltOk; infer_instance
end
end DV

set_option maxHeartbeats 4000000
namespace DV
open PySem PySem.Spec PyProof.Rows L2
/-! A def that is called upon an error that is handled: what it tells by the error's class. -/
section
variable {X : Cx}
end
/-! ### isinstance of the error that is handled -/
/-- the name in slot i holds the thing at a: the answer is b -/
def isaE (a i : Nat) (b : Bool) : Ex := fun σ S => match σ[i]? with
  | some (some (.raw a')) => if a' = a then .ok (.py (.bool b)) S else .no
  | _ => .no
section
variable {X : Cx} {E : XK} {a D : Addr} {oe : Obj} {pos p p1 p2 : Pos} {x y : Str}
end
/-! ### such a def's promise -/
/-- called upon an error of the class c that is handled it tells the text t -/
def WordD (P : Program) (w : World) (K : PySem.W.Frag) (mg : Str → Option Value) (base : Heap) (k : Nat) (f : Addr) (c t : Str) : Prop :=
  ∀ (A : Around) (outer : List Env) (s : Shared) (H : Hp) (Q : VK) (a : Addr) (oe : Obj), L2H.RoomH k A → L2H.PinOk outer H s (a, oe) → Zc (clsV mg c) none oe → (∃ vs, oe.data = .fields vs) → Env0 P w K mg base A outer s H →
    (∃ ι S, StR K ι H S ∧ ∀ H' ι', Post K ι H ι' H' S → Q (.str t) H') → codeAny (model P w) A (.call (.ref f) ⟨[.ref a], []⟩) (CR C8.CX0 outer P w H s Q C8.E0) s
section
variable {P : Program} {w : World} {K : PySem.W.Frag} {mg : Str → Option Value} {base : Heap}
end
end DV

set_option maxHeartbeats 4000000
namespace DV
open PySem PySem.Spec PyProof.Rows L2
/-! A lambda without parameters, handed to a def that calls it and tells what its value shows, or a word of its error. -/
/-- the table of a def that makes lambdas stands in the store -/
def tabIn (P : Nat) (q : Str) (S : Sto) : Prop := ∃ i : Nat, S[i]? = some (.tab P q)
/-! ### the lambda's body -/
section
variable {X : Cx} {E : XK} {k : Nat}
end
/-! ### the lambda is made -/
/-- what the heap knows behind a lambda's making: as much as ahead, or its code object, newly told by the table at P -/
def MadeL (H H1 : Hp) (P c' : Addr) (q : Str) : Prop := H1 = H ∨ ∃ ps more, H P = some (.tbl ps) ∧ H c' = none ∧ H1 = upd (upd H P (.tbl (ps ++ more))) c' (LamX.CodeO c' q)
theorem MadeL.at_ {H H1 : Hp} {P c' : Addr} {q : Str} (m : MadeL H H1 P c' q) {b : Addr} {o : HO} (e : H b = some o) : H1 b = some o ∨ (b = P ∧ ∃ ps, H1 b = some (.tbl ps)) := by
  rcases m with rfl | ⟨ps, more, h1, h2, rfl⟩
  · exact .inl e
  · have ne : b ≠ c' := ne_of_none e h2
    rw [upd_ne ne]
    by_cases hb : b = P
    · subst hb
      exact .inr ⟨rfl, _, upd_same⟩
    · rw [upd_ne hb]
      exact .inl e
section
variable {X : Cx} {pins : List (Addr × Obj)} {σ : L2.St} {H : Hp} {s : Shared}
end
/-- what was told of the heap is told behind it -/
theorem MadeL.keep {H H1 : Hp} {P c' : Addr} {q : Str} (m : MadeL H H1 P c' q) (tb : LamX.TabS H P q) : Keep H H1 := by
  obtain ⟨ps, hP, _, _⟩ := tb
  refine ⟨fun b xs e => ?_, fun b o u e => ?_⟩
  · rcases m.at_ e with z | ⟨rfl, _⟩
    · exact z
    · rw [hP] at e
      cases e
  · rcases m.at_ e with z | ⟨rfl, _⟩
    · exact z
    · rw [hP] at e
      cases e
theorem MadeL.post {K : PySem.W.Frag} {ι : List Addr} {S : Sto} {H H1 : Hp} {P c' : Addr} {q : Str} (m : MadeL H H1 P c' q) (hS : StR K ι H S) (h0 : tabIn P q S) (tb1 : LamX.TabS H1 P q) : Post K ι H ι H1 S := by
  obtain ⟨i0, h0⟩ := h0
  have tb := hS.tb i0 P q h0
  have kp := m.keep tb
  obtain ⟨ps, hP, _, _⟩ := tb
  have lst : ∀ (b : Addr) (vs : MO), H b = some vs.ho → H1 b = some vs.ho := fun b vs e => by
    rcases m.at_ e with z | ⟨rfl, _⟩
    · exact z
    · rw [hP] at e
      cases vs <;> cases e
  have dom : ∀ b, H b ≠ none → H1 b ≠ none := fun b e => by
    obtain ⟨o, e⟩ := Option.ne_none_iff_exists'.mp e
    rcases m.at_ e with z | ⟨_, _, z⟩
    · rw [z]
      simp
    · rw [z]
      simp
  refine ⟨List.prefix_refl _, kp, ⟨hS.len, hS.nd, fun n a e => dom a (hS.there n a e), fun n o a e1 e2 => (hS.at_ n o a e1 e2).mono (List.prefix_refl _) kp (lst a), fun n P' q' e => ?_⟩, fun b vs n e => ⟨lst b (.lst vs) e, n⟩, dom⟩
  by_cases hn : n = i0
  · subst hn
    rw [h0] at e
    cases e
    exact tb1
  have ad : ∀ (m P0 : Nat) (q0 : Str), S[m]? = some (.tab P0 q0) → ι[m]? = some P0 := fun m P0 q0 e => by
    have hm : m < ι.length := by rw [hS.len]; exact (List.getElem?_eq_some_iff.mp e).1
    have e1 := List.getElem?_eq_getElem hm
    have z := hS.at_ m _ _ e e1
    generalize ι[m] = a at z e1
    cases z
    exact e1
  have ne : P' ≠ P := fun z => hn (nodup_at hS.nd (ad n P' q' e) (z ▸ ad i0 P q h0))
  obtain ⟨ps, h1, h2, h3⟩ := hS.tb n P' q' e
  have to : ∀ (b : Addr) (o : HO), H b = some o → b ≠ P → H1 b = some o := fun b o e hb => by
    rcases m.at_ e with z | ⟨z, _⟩
    · exact z
    · exact absurd z hb
  refine ⟨ps, to _ _ h1 ne, h2, fun pos cv hc => ?_⟩
  obtain ⟨c, e1, e2⟩ := h3 pos cv hc
  refine ⟨c, e1, to _ _ e2 fun z => ?_⟩
  rw [z, hP] at e2
  exact LamX.codeO_ne _ (Option.some.inj e2).symm
/-! ### the def that calls it -/
section
variable {X : Cx} {E : XK} {k kw : Nat}
theorem WordD.up {P : Program} {w : World} {K : PySem.W.Frag} {mg : Str → Option Value} {base : Heap} {j k : Nat} {f : Addr} {c t : Str} (h : WordD P w K mg base j f c t) (l : j ≤ k) : WordD P w K mg base k f c t :=
  fun A outer s H Q a oe hr => h A outer s H Q a oe (hr.mono l)
end
end DV

set_option maxHeartbeats 4000000
namespace DV
open PySem PySem.Spec PyProof.Rows L2
/-! The end of a law whose def makes lambdas: its table of code objects is number 0 of the store. -/
section
variable {P : Program} {w : World} {K : PySem.W.Frag} {mg : Str → Option Value} {base : Heap}
end
end DV

set_option maxHeartbeats 4000000
namespace L2
open PySem PySem.Spec PyProof.Rows
section
variable {X : Cx}
end
end L2
namespace DV
open PySem PySem.Spec PyProof.Rows L2
section
variable {X : Cx} {E : XK} {a b e : Expr} {f g : Ex} {pos p1 p2 p3 : Pos}
/-- a text turned about -/
def revS (a : Ex) : Ex := fun σ S => (a σ S).bind fun x S1 => match x with
  | .py (.str z) => if z.length ≤ sizeLine then .ok (.py (.str ⟨z.cps.toList.reverse.toArray⟩)) S1 else .no
  | _ => .no
/-- the items of a list -/
def lstOf (S : Sto) : D → Option (List D)
  | .py (.list ds) => some (ds.map .py)
  | .obj n => match S[n]? with
    | some (.lst ds) => some ds
    | _ => none
  | _ => none
/-- a new list: two lists put together -/
def catL (a b : Ex) : Ax := fun σ S => (a σ S).bind fun x S1 => (b σ S1).bind fun y S2 => match lstOf S2 x, lstOf S2 y with
  | some xs, some ys => if xs.length + ys.length ≤ sizeLine then .ok (xs ++ ys) S2 else .no
  | _, _ => .no
/-- a new list: a list so many times -/
def repL (a b : Ex) : Ax := fun σ S => (a σ S).bind fun x S1 => (b σ S1).bind fun y S2 => match lstOf S2 x, y with
  | some xs, .py (.int k) => if -1000 ≤ k ∧ k ≤ 1000 ∧ xs.length ≤ 1000 then .ok (List.replicate k.toNat xs).flatten S2 else .no
  | _, _ => .no
@[simp] theorem isaE_raw {a : Nat} {b : Bool} {r : En} {S : Sto} : isaE a 0 b (some (.raw a) :: r) S = .ok (.py (.bool b)) S := by simp [isaE]
end
end DV

set_option maxHeartbeats 4000000
namespace DV
open PySem
/-! Lists of truths, counted and gone through. -/
end DV

set_option maxHeartbeats 4000000
namespace DV
open PySem PySem.Spec PyProof.Rows L2
/-! The text of a thing in which there are dicts. -/
mutual
inductive Dd (K : PySem.W.Frag) (H : Hp) : V → PyData → Prop
  | non : Dd K H .non .none
  | bl (b : Bool) : Dd K H (.bl b) (.bool b)
  | int (i : Int) : Dd K H (.int i) (.int i)
  | str (x : Str) : Dd K H (.str x) (.str x)
  | lst {a : Addr} {xs : List V} {ds : List PyData} : SqL K H a xs → DdAll K H xs ds → Dd K H (.ref a) (.list ds)
  | tup {a : Addr} {xs : List V} {ds : List PyData} : SqT K H a xs → DdAll K H xs ds → Dd K H (.ref a) (.tuple ds)
  | dic {a : Addr} {o : Obj} {kvs : List (Key × V)} {ds : List PyData} : H a = some (.frz o (.dK kvs)) → DdAll K H (kvs.map Prod.snd) ds → Dd K H (.ref a) (.dict ((kvs.map fun kv => keyP kv.1).zip ds))
inductive DdAll (K : PySem.W.Frag) (H : Hp) : List V → List PyData → Prop
  | nil : DdAll K H [] []
  | cons {v : V} {vs : List V} {d : PyData} {ds : List PyData} : Dd K H v d → DdAll K H vs ds → DdAll K H (v :: vs) (d :: ds)
end
section
variable {K : PySem.W.Frag} {H : Hp}
mutual
theorem Pp.dd : ∀ {v : V} {d : PyData}, Pp K H v d → Dd K H v d
  | _, _, .non => .non
  | _, _, .bl b => .bl b
  | _, _, .int i => .int i
  | _, _, .str x => .str x
  | _, _, .lst h _ hs => .lst h.sq (PpAll.dd hs)
  | _, _, .tup h _ hs => .tup h.sq (PpAll.dd hs)
  | _, _, .dic h _ hs => .dic h (PpAll.dd hs)
theorem PpAll.dd : ∀ {vs : List V} {ds : List PyData}, PpAll K H vs ds → DdAll K H vs ds
  | _, _, .nil => .nil
  | _, _, .cons h hs => .cons (Pp.dd h) (PpAll.dd hs)
end
mutual
theorem deep_dd {ι : List Addr} {S : Sto} (hS : StR K ι H S) : ∀ (n : Nat) {v : V} {d : D} {p : PyData}, Rd K ι H v d → deep S n d = some p → Dd K H v p
  | 0, _, _, _, _, h => by cases h
  | n + 1, v, .py d, p, r, h => by
    cases r with
    | py r => cases h; exact r.dd
  | n + 1, v, .raw m, p, r, h => by cases h
  | n + 1, v, .obj m, p, r, h => by
    cases r with
    | obj e =>
      simp only [deep] at h
      split at h
      · rename_i ds hd
        rw [Option.map_eq_some_iff] at h
        obtain ⟨ps, h1, h2⟩ := h
        subst h2
        cases hS.at_ _ _ _ hd e with
        | lst ha rr => exact .lst (.of ha) (deep_ddall hS n rr h1)
      · cases h
theorem deep_ddall {ι : List Addr} {S : Sto} (hS : StR K ι H S) (n : Nat) : ∀ {vs : List V} {ds : List D} {ps : List PyData}, RdAll K ι H vs ds → ds.mapM (deep S n) = some ps → DdAll K H vs ps
  | _, [], _, .nil, h => by
    simp at h
    subst h
    exact .nil
  | _, d :: ds, ps, .cons r rs, h => by
    rw [List.mapM_cons] at h
    simp only [Option.bind_eq_bind, Option.bind_eq_some_iff, Option.pure_def, Option.some.injEq] at h
    obtain ⟨p, h1, qs, h2, rfl⟩ := h
    exact .cons (deep_dd hS n r h1) (deep_ddall hS n rs h2)
end
end
section
variable {X : Cx} {pins : List (Addr × Obj)} {σ : L2.St} {H : Hp} {s : Shared}
theorem keys_show {P : Program} {w : World} {h : Heap} : ∀ {es : List DictEntry} {vs : List (Key × Value)} {kvs : List (Key × V)}, Pairs (mixKind P w) es vs → KV kvs vs →
    Vals (kvs.map Prod.snd) (es.map (·.val)) ∧ (∃ as, ReadsAll h (es.map (·.key)) (kvs.map fun kv => keyP kv.1) as) ∧
    (PyData.showableAll (kvs.map fun kv => keyP kv.1) = true → (∀ t ∈ PyData.shownAll (kvs.map fun kv => keyP kv.1), t.length ≤ sizeLine) → ∀ d, ReprAllK P w [] h d (es.map (·.key)) (PyData.shownAll (kvs.map fun kv => keyP kv.1)))
  | _, _, _, .nil, .nil => ⟨.nil, ⟨_, .nil⟩, fun _ _ d => by
    show ReprAllK P w [] h d [] (PyData.shownAll [])
    rw [PyData.shownAll.eq_1]
    exact .nil⟩
  | _, _, _, .cons hk hv hs, .cons r rs => by
    obtain ⟨h1, ⟨as, h2⟩, h3⟩ := keys_show hs rs
    obtain ⟨e1, e2⟩ := r
    rename_i e kv es vs p kvs
    refine ⟨.cons (by show RelV p.2 e.val; rw [hv]; exact e2) h1, ?_⟩
    rw [← e1, mixKind_is] at hk
    rcases keyIs_shape hk with ⟨i, t, hp, he⟩ | ⟨x, t, hp, he⟩
    · obtain ⟨p1, p2⟩ := p
      replace hp : p1 = _ := hp
      subst hp
      refine ⟨⟨_, .cons (by show Reads h e.key (.int i) _; rw [he]; exact .int i t) h2⟩, fun q1 q2 d => ?_⟩
      rw [List.map_cons, PyData.showableAll.eq_2] at q1
      obtain ⟨q3, q4⟩ := Bool.and_eq_true_iff.mp q1
      have q5 : ∀ t ∈ PyData.shownAll (kvs.map fun kv => keyP kv.1), t.length ≤ sizeLine := fun t ht => q2 t (by rw [List.map_cons, PyData.shownAll.eq_2]; exact List.mem_cons_of_mem _ ht)
      rw [List.map_cons, List.map_cons, PyData.shownAll.eq_2]
      refine .cons ?_ (h3 q4 q5 d)
      rw [he]
      simp only [keyP, PyData.shown]
      exact .of_is (ReprIs.int t (by simpa [keyP, PyData.showable] using q3)) _ _ _
    · obtain ⟨p1, p2⟩ := p
      replace hp : p1 = _ := hp
      subst hp
      refine ⟨⟨_, .cons (by show Reads h e.key (.str x) _; rw [he]; exact .str x t) h2⟩, fun q1 q2 d => ?_⟩
      rw [List.map_cons, PyData.showableAll.eq_2] at q1
      obtain ⟨q3, q4⟩ := Bool.and_eq_true_iff.mp q1
      have q5 : ∀ t ∈ PyData.shownAll (kvs.map fun kv => keyP kv.1), t.length ≤ sizeLine := fun t ht => q2 t (by rw [List.map_cons, PyData.shownAll.eq_2]; exact List.mem_cons_of_mem _ ht)
      have q6 := q2 (keyP (.inr x)).shown (by rw [List.map_cons, PyData.shownAll.eq_2]; exact List.mem_cons_self ..)
      rw [List.map_cons, List.map_cons, PyData.shownAll.eq_2]
      refine .cons ?_ (h3 q4 q5 d)
      rw [he]
      simp only [keyP, PyData.shown] at q6 ⊢
      exact .of_is (ReprIs.str x t q6) _ _ _
theorem zip_fst {α β : Type} {as : List α} {bs : List β} (h : as.length = bs.length) : (as.zip bs).map (·.1) = as := List.map_fst_zip (by omega)
theorem zip_snd {α β : Type} {as : List α} {bs : List β} (h : as.length = bs.length) : (as.zip bs).map (·.2) = bs := List.map_snd_zip (by omega)
theorem DdAll.length {K : PySem.W.Frag} {H : Hp} : ∀ {vs : List V} {ds : List PyData}, DdAll K H vs ds → vs.length = ds.length
  | _, _, .nil => rfl
  | _, _, .cons _ hs => by rw [List.length_cons, List.length_cons, DdAll.length hs]
mutual
theorem Dd.ok (I : Inv X pins σ H s) : ∀ {v : V} {d : PyData} {u : Value}, Dd X.K H v d → RelV v u → (∃ as, Reads s.heap u d as) ∧
    (d.showable = true → d.shown.length ≤ sizeLine → ∃ bs, ReadAtMost s.heap d.depth bs ∧ ReprK X.prog X.w bs s.heap d.depth u d.shown)
  | _, _, _, .non, r => by
    cases r
    exact ⟨⟨_, .none⟩, fun _ _ => ⟨[], (fun _ h => nomatch h), by simp only [PyData.shown]; exact .of_is ReprIs.none _ _ _⟩⟩
  | _, _, _, .bl b, r => by
    cases r
    exact ⟨⟨_, .bool b⟩, fun _ _ => ⟨[], (fun _ h => nomatch h), by simp only [PyData.shown]; exact .of_is (ReprIs.bool b) _ _ _⟩⟩
  | _, _, _, .int i, r => by
    obtain ⟨t, rfl⟩ := r
    exact ⟨⟨_, .int i t⟩, fun hs _ => ⟨[], (fun _ h => nomatch h), by simp only [PyData.shown]; exact .of_is (ReprIs.int t (by simpa [PyData.showable] using hs)) _ _ _⟩⟩
  | _, _, _, .str x, r => by
    obtain ⟨t, rfl⟩ := r
    exact ⟨⟨_, .str x t⟩, fun _ hz => ⟨[], (fun _ h => nomatch h), by simp only [PyData.shown]; exact .of_is (ReprIs.str x t (by simpa only [PyData.shown] using hz)) _ _ _⟩⟩
  | _, _, _, .lst (a := a) (ds := ds) hs ha, r => by
    cases r
    obtain ⟨its, rv, ⟨o, n, ho, hc, _, hd⟩, _⟩ := I.list hs
    obtain ⟨⟨as, hr⟩, hK⟩ := DdAll.ok I ha rv
    have r : Reads s.heap (.ref a) (.list ds) _ := .list ho hc hd hr
    refine ⟨⟨_, r⟩, fun hs hz => ?_⟩
    have hz' : (listText (PyData.shownAll ds)).length ≤ sizeLine := by simpa only [PyData.shown] using hz
    obtain ⟨bs, hb, hk⟩ := hK (by simpa [PyData.showable] using hs) (fun t ht => Nat.le_trans (listText_mem_le ht) hz')
    have hna : a ∉ bs := not_mem_of_deeper r (by simp only [PyData.depth]; omega) hb
    refine ⟨a :: bs, ReadAtMost.cons r (by simp only [PyData.depth]; omega) hb, ?_⟩
    simp only [PyData.depth, PyData.shown]
    cases its with
    | nil =>
      cases ha with
      | nil =>
        simp only [PyData.shownAll, listText_nil]
        exact ReprK.listEmpty ho hc hd
      | cons => cases rv
    | cons x l => exact ReprK.list ho hc hd hna (by simpa using hk.length_eq) (fun i y e => hk.item i y (by simpa using e))
  | _, _, _, .tup (a := a) (ds := ds) hs ha, r => by
    cases r
    obtain ⟨its, rv, ⟨o, ho, hc, n, hd⟩, _⟩ := I.tuple hs
    obtain ⟨⟨as, hr⟩, hK⟩ := DdAll.ok I ha rv
    have r : Reads s.heap (.ref a) (.tuple ds) _ := .tuple ho hc hd hr
    refine ⟨⟨_, r⟩, fun hs hz => ?_⟩
    have hz' : (tupleText (PyData.shownAll ds)).length ≤ sizeLine := by simpa only [PyData.shown] using hz
    obtain ⟨bs, hb, hk⟩ := hK (by simpa [PyData.showable] using hs) (fun t ht => Nat.le_trans (tupleText_mem_le ht) hz')
    have hna : a ∉ bs := not_mem_of_deeper r (by simp only [PyData.depth]; omega) hb
    refine ⟨a :: bs, ReadAtMost.cons r (by simp only [PyData.depth]; omega) hb, ?_⟩
    simp only [PyData.depth, PyData.shown]
    exact ReprK.tuple ho hc hd hna hk
  | _, _, _, .dic (a := a) (o := o) (kvs := kvs) (ds := ds) he ha, r => by
    cases r
    obtain ⟨_, hsys, vs, rel, ⟨o, es, ep, ho, hc, hd, _, hp, _⟩⟩ := dk_rd I.hok (.inr ⟨o, he⟩)
    obtain ⟨rv, ⟨as, hrk⟩, hkk⟩ := keys_show (h := s.heap) hp rel
    obtain ⟨⟨bs, hr⟩, hK⟩ := DdAll.ok I ha rv
    have hl : (kvs.map fun kv => keyP kv.1).length = ds.length := by rw [List.length_map, ← ha.length, List.length_map]
    generalize hD : (kvs.map fun kv => keyP kv.1).zip ds = D
    have e1 : D.map (·.1) = kvs.map fun kv => keyP kv.1 := by rw [← hD]; exact zip_fst hl
    have e2 : D.map (·.2) = ds := by rw [← hD]; exact zip_snd hl
    rw [← e1] at hrk hkk
    rw [← e2] at hr hK
    have r : Reads s.heap (.ref a) (.dict D) _ := .dict ho hc.1 hd hrk hr
    refine ⟨⟨_, r⟩, fun hs hz => ?_⟩
    have hz' : (dictText (PyData.shownKv D)).length ≤ sizeLine := by simpa only [PyData.shown] using hz
    obtain ⟨hs1, hs2⟩ := PyData.showableKv_split D (by simpa [PyData.showable] using hs)
    have k1 := hkk hs1 (fun t ht => let ⟨p, hp, hl⟩ := PyData.shownKv_key_le D t ht; Nat.le_trans hl (Nat.le_trans (dictText_mem_le hp) hz')) (PyData.depthKv D)
    obtain ⟨b2, hb2, k2⟩ := hK hs2 (fun t ht => let ⟨p, hp, hl⟩ := PyData.shownKv_val_le D t ht; Nat.le_trans hl (Nat.le_trans (dictText_mem_le hp) hz'))
    have hb : ReadAtMost s.heap (PyData.depthKv D) b2 := hb2.mono (PyData.depthAll_vals_le D)
    have hna : a ∉ b2 := not_mem_of_deeper r (by simp only [PyData.depth]; omega) hb
    refine ⟨a :: b2, ReadAtMost.cons r (by simp only [PyData.depth]; omega) hb, ?_⟩
    simp only [PyData.depth, PyData.shown, PyData.shownKv_eq]
    exact ReprK.dict ho hc.1 hd hsys hna (ReprEntriesK.of_two es.toList _ _ (k1.more_le (as := []) (as' := b2) (fun b hb => absurd hb List.not_mem_nil) (Nat.le_refl _)) (k2.more_le (fun b hb => hb) (PyData.depthAll_vals_le D)))
theorem DdAll.ok (I : Inv X pins σ H s) : ∀ {vs : List V} {ds : List PyData} {us : List Value}, DdAll X.K H vs ds → Vals vs us → (∃ as, ReadsAll s.heap us ds as) ∧
    (PyData.showableAll ds = true → (∀ t ∈ PyData.shownAll ds, t.length ≤ sizeLine) → ∃ bs, ReadAtMost s.heap (PyData.depthAll ds) bs ∧ ReprAllK X.prog X.w bs s.heap (PyData.depthAll ds) us (PyData.shownAll ds))
  | _, _, _, .nil, r => by
    cases r
    exact ⟨⟨_, .nil⟩, fun _ _ => ⟨[], (fun _ h => nomatch h), by simp only [PyData.shownAll]; exact .nil⟩⟩
  | _, _, _, .cons (d := d) (ds := ds) h hs, r => by
    cases r with
    | cons r1 r2 =>
      obtain ⟨⟨as, q1⟩, k1⟩ := Dd.ok I h r1
      obtain ⟨⟨bs, q2⟩, k2⟩ := DdAll.ok I hs r2
      refine ⟨⟨_, .cons q1 q2⟩, fun hs hz => ?_⟩
      have hs' : d.showable = true ∧ PyData.showableAll ds = true := by simpa [PyData.showableAll] using hs
      obtain ⟨b1, hb1, k1⟩ := k1 hs'.1 (hz _ (by simp only [PyData.shownAll]; exact List.mem_cons_self ..))
      obtain ⟨b2, hb2, k2⟩ := k2 hs'.2 (fun t ht => hz t (by simp only [PyData.shownAll]; exact List.mem_cons_of_mem _ ht))
      refine ⟨b1 ++ b2, ?_, ?_⟩
      · simp only [PyData.depthAll]
        exact (hb1.mono (Nat.le_max_left _ _)).append (hb2.mono (Nat.le_max_right _ _))
      · simp only [PyData.depthAll, PyData.shownAll]
        exact .cons ((k1.more fun b hb => List.mem_append_left _ hb).level_le (Nat.le_max_left _ _)) (k2.more_le (fun b hb => List.mem_append_right _ hb) (Nat.le_max_right _ _))
end
def reprX : List D → Sto → R D
  | [d], S => (match deep S 8 d with
    | some p => if p.showable = true ∧ p.depth ≤ 60 ∧ p.shown.length ≤ sizeLine then .ok (.py (.str p.shown)) S else .no
    | none => .no)
  | _, _ => .no
end
end DV

set_option maxHeartbeats 4000000
namespace DV
open PySem PySem.Spec PyProof.Rows L2
/-! Texts in order. -/
variable {X : Cx}
end DV

set_option maxHeartbeats 4000000
namespace DV
open PySem PySem.Spec PyProof.Rows L2
/-! str(int), tuple[::-1], len(set(ints)). -/
/-! ### a tuple turned about -/
section
variable {prog : Program} {w : World} {A : Around} {E : Value → Shared → Prop} {s : Shared}
end
section
variable {X : Cx} {E : XK} {a b e : Expr} {f g : Ex} {k : Nat} {pos p p1 p2 p3 q : Pos}
def revTE (a : Ex) : Ex := fun σ S => (a σ S).bind fun x S1 => match x with
  | .py (.tuple ds) => .ok (.py (.tuple ds.reverse)) S1
  | _ => .no
/-! ### str(int) -/
def strD : List D → Sto → R D
  | [.py (.int i)], S => if i.natAbs.log2 < 1920 then .ok (.py (.str (toString i))) S else .no
  | _, _ => .no
theorem dc_str : DC X (.type "str") strD := by
  refine ⟨_, call_str_int (X := X), fun xs ds H S ι E Q hS r hw => ?_⟩
  unfold strD at hw
  split at hw
  · split at hw
    · rename_i hz
      cases r with
      | cons r rs =>
        cases rs
        exact ⟨_, by rw [int_of r], hz, hw _ _ _ (.refl hS) (.py (.str _))⟩
    · exact hw.elim
  · exact hw.elim
/-! ### len(set(ints)) -/
def dedI (ns : List Int) : List Int := ns.foldl PyProof.Rows.step_dedup []
/-! ### pairs of ints in order -/
/-! ### a part of a tuple, of a list -/
def sliceAV (x : D) (lo hi : Option Int) (S : Sto) : R D := match x with
  | .py (.tuple ds) => .ok (.py (.tuple (cutP ds lo hi))) S
  | .py (.list ds) => .ok (.py (.list (cutP ds lo hi))) S
  | _ => .no
def sliceA (a : Ex) (lo hi : Px) : Ex := fun σ S => (a σ S).bind fun x S1 => (lo σ S1).bind fun l S2 => (hi σ S2).bind fun h S3 => sliceAV x l h S3
end
end DV

set_option maxHeartbeats 2000000
namespace DV
open PySem PySem.Spec PyProof.Rows L2
/-! some list, or another where it is empty -/
section
variable {X : Cx} {E : XK} {a b : Expr} {f g : Ex} {rest : List Expr} {pos : Pos}
end
end DV

set_option maxHeartbeats 4000000
namespace DV
open PySem PySem.Spec PyProof.Rows L2
open Sem (wp)
/-! (a, b, ..) = a list by value -/
section
variable {prog : Program} {w : World} {A : Around} {E : Value → Shared → Prop} {s : Shared}
end
section
variable {X : Cx} {E : XK} {pos : Pos}
end
end DV

set_option maxHeartbeats 4000000
namespace DV
open PySem PySem.Spec PyProof.Rows L2
/-! len(set(texts)) with repetitions; len(set(tuples of ints)). -/
section
variable {prog : Program} {w : World} {A : Around} {R : Result → Shared → Prop} {I : Addr} {fp wr : List Addr} {G : Array GenState → Array GenState → Prop} {n : Nat} {P : Nat → Value → Prop} {St : Nat → Shared → Prop}
end
section
variable {prog : Program} {w : World} {A : Around} {E : Value → Shared → Prop} {s : Shared}
end
section
variable {X : Cx} {E : XK} {a : Expr} {f : Ex} {p p2 q pos : Pos}
end
end DV

set_option maxHeartbeats 4000000
namespace DV
open PySem PySem.Spec PyProof.Rows L2
/-! [f, g, ..][i](..): a def out of a written list, called. -/
inductive Pk (X : Cx) (k n : Nat) : List Expr → List Addr → List (List D → Sto → R D) → Prop
  | nil : Pk X k n [] [] []
  | cons {x : Str} {p : Pos} {f : Addr} {fd : FuncData} {ps : List Str} {F : List D → Sto → R D} {j : Nat} {es : List Expr} {as : List Addr} {Fs : List (List D → Sto → R D)} :
      FnD X.prog X.w X.K X.mg X.base j f fd ps F → At X.K X.mg x f fd ps → j ≤ k → ps.length = n → Gl X x → (x == ("__debug__" : Str)) = false → Pk X k n es as Fs → Pk X k n (.Name x p :: es) (f :: as) (F :: Fs)
section
variable {X : Cx} {E : XK} {k n : Nat}
theorem Pk.pa {es : List Expr} {as : List Addr} {Fs : List (List D → Sto → R D)} (h : Pk X k n es as Fs) : PA X es (fun σ H Q => Q (as.map V.ref) H) := by
  induction h with
  | nil => exact ⟨fun pos pins s σ H Q I h => pa_nil.run pos pins s σ H Q I h⟩
  | cons hF at_ hj hn hg hd _ ih => exact ⟨fun pos pins s σ H Q I h => (pa_cons (pe_glob (v := .ref _) hg at_.g rfl hd) ih (by rfl)).run pos pins s σ H Q I h⟩
theorem Pk.len {es : List Expr} {as : List Addr} {Fs : List (List D → Sto → R D)} (h : Pk X k n es as Fs) : as.length = es.length := by
  induction h with
  | nil => rfl
  | cons _ _ _ _ _ _ _ ih => simp [ih]
def Callable (X : Cx) (k n : Nat) (f : Addr) (F : List D → Sto → R D) : Prop := ∃ (fd : FuncData) (ps : List Str) (j : Nat), FnD X.prog X.w X.K X.mg X.base j f fd ps F ∧ PySem.W.keepIn X.K (.ref f) = true ∧ Binds X.K fd ps [] ∧ j ≤ k ∧ ps.length = n
theorem Pk.get {es : List Expr} {as : List Addr} {Fs : List (List D → Sto → R D)} (h : Pk X k n es as Fs) : ∀ (i : Nat) (F : List D → Sto → R D), Fs[i]? = some F → ∃ f, as[i]? = some f ∧ Callable X k n f F := by
  induction h with
  | nil => intro i F h; simp at h
  | cons hF at_ hj hn hg hd _ ih =>
    intro i G h
    cases i with
    | zero =>
      cases h
      exact ⟨_, rfl, _, _, _, hF, at_.kp, at_.b, hj, hn⟩
    | succ i => exact ih i G (by simpa using h)
end
end DV

set_option maxHeartbeats 4000000
namespace DV
open PySem PySem.Spec PyProof.Rows L2
/-! sum of a tuple; min and max of lists and tuples by value whose items are alike (numbers, texts, tuples of these). -/
section
variable {prog : Program} {w : World} {A : Around} {E : Value → Shared → Prop} {s : Shared}
end
section
variable {X : Cx}
end
end DV

set_option maxHeartbeats 4000000
namespace DV
open PySem PySem.Spec PyProof.Rows L2
/-! A lambda with one parameter: its body's context, its call. -/
structure LamP (x : Str) (sc scope : Scope) : Prop where
  kind : scope.kind = .function
  co : scope.isCoroutine = false
  gen : scope.isGenerator = false
  par : scope.names.lookup x = some .local
  cel : ∀ y ∈ scope.names, y.2 ≠ .cell
  loc : ∀ y ∈ scope.names, y.2 = .local → y.1 = x
  free : ∀ y ∈ scope.names, y.2 = .free → sc.names.lookup y.1 = some .cell ∨ sc.names.lookup y.1 = some .free
  no : scope.names.lookup Str.empty = none
  ne : x ≠ Str.empty
theorem LamP.has {X : Cx} {x : Str} {scope : Scope} (L : LamP x X.env.scope scope) (ok : X.Ok) : ∀ y ∈ scope.names, y.2 = .free → ∃ c, X.env.cells.lookup y.1 = some c := fun y hy e => by
  rcases L.free y hy e with k | k
  · exact ok.has _ (.inl k)
  · exact ok.has _ (.inr k)
section
variable {X : Cx} {pins : List (Addr × Obj)} {σ : L2.St} {H HZ : Hp} {s s1 : Shared}
end
end DV

set_option maxHeartbeats 4000000
namespace DV
open PySem PySem.Spec PyProof.Rows L2
/-! sorted(xs, key=lambda x: ..) -/
section
variable {P : Program} {w : World} {H H' : Hp} {h h' : Heap}
end
section
variable {X : Cx} {pins : List (Addr × Obj)} {σ : L2.St} {H : Hp} {s : Shared}
end
/-! ### the sort -/
section
variable {prog : Program} {w : World} {A : Around} {E : Value → Shared → Prop} {s : Shared} {a kS : Addr} {e e1 : Nat} {vs : List Value} {keys : Array Value} {R : PySem.Fin → Shared → Prop}
end
end DV

set_option maxHeartbeats 4000000
namespace DV
open PySem PySem.Spec PyProof.Rows L2
/-! The walk of sorted(xs, key=lambda x: ..). -/
section
variable {X : Cx} {pins : List (Addr × Obj)} {σ : L2.St} {H : Hp} {s : Shared}
/-- what stands while the keys are made -/
structure MidK (X : Cx) (s : Shared) (H : Hp) (ι : List Addr) (kS a : Addr) (e1 : Nat) (kA : Array Value) (e : Nat) (Hi : Hp) (ιi : List Addr) (Si : Sto) (vks : List V) (kz : List PyData) (s' : Shared) : Prop where
  os : s'.os = s.os
  bare : AllBare s'.gens
  un : Un (frs X.stack) [] H Hi s.heap s'.heap
  hok : HOk X.prog X.w Hi s'.heap
  post : Post X.K ι H ιi Hi Si
  hk : s'.heap.get? kS = some (seqObj "list" kA e)
  ha : s'.heap.get? a = some (seqObj "list" #[] e1)
  nk : Hi kS = none
  na : Hi a = none
  vals : Vals vks kA.toList
  pp : PpAll X.K Hi vks kz
end
end DV

set_option maxHeartbeats 4000000
namespace DV
open PySem PySem.Spec PyProof.Rows L2
/-! len(set(a tuple of whole numbers)) -/
section
variable {X : Cx} {E : XK} {a b e : Expr} {f g : Ex} {k : Nat} {pos p p1 p2 p3 q : Pos}
end
end DV

set_option maxHeartbeats 4000000
namespace DV
open PySem PySem.Spec PyProof.Rows L2
/-! dicts with tuple keys that are changed: {}, d[a, b] = v, (a, b) in d -/
section
variable {K : PySem.W.Frag} {ι ι' : List Addr} {H H' : Hp} {S S' : Sto}
theorem KeepA.dt {H : Hp} {p : Addr} {kvs : List (List Key × V)} {o : HO} (h : H p = some (.dT kvs)) : KeepA H (upd H p o) := by
  have ne : ∀ (b : Addr) (u : HO), H b = some u → (∀ kvs, u ≠ .dT kvs) → upd H p o b = some u := fun b u e n => by
    rw [upd_ne (fun z => by subst z; rw [h] at e; cases e; exact n kvs rfl)]
    exact e
  exact ⟨⟨fun b xs e => ne b _ e (fun _ z => by cases z), fun b o u e => ne b _ e (fun _ z => by cases z)⟩, fun P q ⟨ps, h1, h2, h3⟩ => ⟨ps, ne _ _ h1 (fun _ z => by cases z), h2, fun pos cv hc => by
    obtain ⟨c, e1, e2⟩ := h3 pos cv hc
    exact ⟨c, e1, ne _ _ e2 (fun _ z => by unfold LamX.CodeO at z; cases z)⟩⟩⟩
end
section
variable {X : Cx} {E : XK} {v x : Ex} {k : Ax} {ve xe : Expr} {ks : List Expr} {x1 : Nat} {pos pos' tpos : Pos}
end
end DV

set_option maxHeartbeats 4000000
/-! t.index(x), dict(t) of tuples made in the run. -/
namespace DV
open PySem PySem.Spec PyProof.Rows L2
section
variable {X : Cx} {E : XK} {pins : List (Addr × Obj)} {σ : L2.St} {H : Hp} {s : Shared}
theorem FT.at_ {a : Addr} {xs : List V} (I : Inv X pins σ H s) (h : FT X.K H a xs) : ∃ o its n, s.heap.get? a = some o ∧ o.cls = .type "tuple" ∧ o.dict = none ∧ o.data = .seq its n ∧ its.size ≤ sizeLine ∧ Vals xs its.toList := by
  rcases h with ⟨o, h, d⟩ | ⟨o, its, n, h1, h2, h3, h4, h5, h6⟩
  · obtain ⟨e, hz, us, r, o2, e2, hc, n, hd⟩ := I.hok a _ h
    cases e.symm.trans e2
    exact ⟨o, us.toArray, n, e, hc, d, hd, by rw [List.size_toArray, ← r.length]; exact hz, by simpa using r⟩
  · exact ⟨o, its, n, I.kIn a o h1, h2, h3, h4, h5, h6⟩
variable {o e : Expr} {es : List Expr} {to : TE} {t : TA} {name : Str} {apos cpos pos p : Pos} {id : String} {r : V → List V → Hp → VK → Prop} {f : Ex} {fs : Ax}
def methT (g : D → List D → Sto → R D) (o : Ex) (a : Ax) : Ex := fun σ S => (o σ S).bind fun x S1 => match x with
  | .py (.tuple _) => (a σ S1).bind fun ds S2 => g x ds S2
  | _ => .no
/-! ### dict(t) -/
def dictT (f : Ex) : Ex := fun σ S => (f σ S).bind fun d S1 => match d with
  | .py (.tuple ds) => (match pairsOf ds with
    | some kv => if (kv.map Prod.fst).Nodup then .ok (.py (.dict (kv.map fun p => (keyP p.1, p.2)))) S1 else .no
    | none => .no)
  | _ => .no
end
end DV

set_option maxHeartbeats 4000000
/-! sorted(set(xs)), xs a list of whole numbers. -/
namespace L2
open PySem PySem.Spec PyProof.Rows
section
variable {P : Program} {w : World} {A : Around} {E : Value → Shared → Prop} {s : Shared}
end
end L2
namespace DV
open PySem PySem.Spec PyProof.Rows L2
def putI (x : Int) : List Int → List Int
  | [] => [x]
  | y :: r => if x < y then x :: y :: r else if x = y then y :: r else y :: putI x r
/-- the numbers of a list in order, each once -/
def riseI (ns : List Int) : List Int := ns.foldr putI []
section
variable {X : Cx} {E : XK} {e : Expr} {f : Ex} {p p2 q pos : Pos}
end
end DV

set_option maxHeartbeats 4000000
namespace DV
open PySem PySem.Spec PyProof.Rows L2
/-! The end of a law where two defs make lambdas: their tables are numbers 0 and 1 of the store. -/
section
variable {P : Program} {w : World} {K : PySem.W.Frag} {mg : Str → Option Value} {base : Heap}
end
end DV

set_option maxHeartbeats 4000000
namespace DV
open PySem PySem.Spec PyProof.Rows L2
/-! for x in [f, g]: .. x(..): defs of the program out of a written list, called by the name that walks it. -/
section
variable {X : Cx} {E : XK} {k n : Nat}
inductive Ck (X : Cx) (k n : Nat) : List Addr → List (List D → Sto → R D) → Prop
  | nil : Ck X k n [] []
  | cons {x : Str} {f : Addr} {fd : FuncData} {ps : List Str} {F : List D → Sto → R D} {j : Nat} {as : List Addr} {Fs : List (List D → Sto → R D)} :
      FnD X.prog X.w X.K X.mg X.base j f fd ps F → At X.K X.mg x f fd ps → j ≤ k → ps.length = n → Ck X k n as Fs → Ck X k n (f :: as) (F :: Fs)
theorem Ck.find {as : List Addr} {Fs : List (List D → Sto → R D)} (h : Ck X k n as Fs) {a : Addr} {F : List D → Sto → R D} (e : (as.zip Fs).lookup a = some F) : Callable X k n a F := by
  induction h with
  | nil => cases e
  | @cons x f fd ps G j as Fs hF at_ hj hn _ ih =>
    rw [List.zip_cons_cons, List.lookup_cons] at e
    by_cases q : a = f
    · subst q
      simp at e
      subst e
      exact ⟨_, _, _, hF, at_.kp, at_.b, hj, hn⟩
    · have : (a == f) = false := by simpa using q
      rw [this] at e
      exact ih e
end
end DV

set_option maxHeartbeats 4000000
namespace DV
open PySem PySem.Spec PyProof.Rows L2
/-! xs.extend(ys), ys a list that is never changed. -/
variable {X : Cx} {E : XK}
def extendD : D → List D → Sto → R D
  | .obj n, [.py (.list ys)], S => (match S[n]? with
    | some (.lst ds) => if ds.length + ys.length ≤ sizeLine then .ok (.py .none) (S.set n (.lst (ds ++ ys.map D.py))) else .no
    | _ => .no)
  | _, _, _ => .no
theorem FL.obj {pins : List (Addr × Obj)} {σ : List (Option V)} {H : Hp} {s : Shared} {a : Addr} {xs : List V} (I : Inv X pins σ H s) (h : FL X.K H a xs) :
    ∃ (its : List Value) (n : Nat), Vals xs its ∧ xs.length ≤ sizeLine ∧ s.heap.get? a = some { cls := .type "list", data := .seq its.toArray n } := by
  rcases h with ⟨o, h⟩ | ⟨o, its, n, h1, h2, h3, h4, h5, h6, h7⟩
  · obtain ⟨_, z, its, n, r, e⟩ := (show ObjOk X.prog X.w H s.heap a (.frz o (.lst xs)) from I.hok a _ h)
    exact ⟨its, n, r, z, e⟩
  · refine ⟨its.toList, n, h7, by have := h7.length; simp at this; omega, ?_⟩
    have e := I.kIn a o h1
    obtain ⟨c, d, dt, sl⟩ := o
    simp only at h2 h3 h4 h5
    subst h2 h3 h4 h5
    simpa using e
end DV

set_option maxHeartbeats 4000000
namespace DV
open PySem PySem.Spec PyProof.Rows L2
/-! a, b, c = x, y, z; and four of them. -/
section
variable {X : Cx} {E : XK} {a b c d : Expr} {fs : Ax} {pos : Pos}
end
end DV

set_option maxHeartbeats 4000000
namespace DV
open PySem PySem.Spec PyProof.Rows L2
/-! text.partition(sep); int(text). -/
section
variable {X : Cx} {pins : List (Addr × Obj)} {σ : L2.St} {H : Hp} {s : Shared} {xs : List V} {us : List Value} {Q : VK}
theorem lay_tupK (I : Inv X pins σ H s) (r : Vals xs us) (hz : xs.length ≤ sizeLine) (k : Nat) (q : ∀ p (o : Obj), o.dict = none → H p = none → Q (.ref p) (upd H p (.frz o (.tup xs)))) : EP X pins σ Q (.ref s.heap.objs.size) { s with toks := k, heap := s.heap.push (tupB us) } :=
  ⟨.ref s.heap.objs.size, _, I.laid (t' := k) (fun b u e => Heap.get?_push_of_some _ e) (Nat.le_refl _) (tupF_ok hz r (Heap.get?_push_size _ rfl) rfl rfl), rfl, q _ (tupB us) rfl (I.hok.fresh (Nat.le_refl _))⟩
theorem laid_partsF {x y z : Str} {t u v : Tok} {k : Nat} (I : Inv X pins σ H s) (h : ∀ p (o : Obj), o.dict = none → H p = none → Q (.ref p) (upd H p (.frz o (.tup [.str x, .str y, .str z])))) :
    EP X pins σ Q (.ref s.heap.objs.size) { s with toks := k, heap := s.heap.push { cls := .type "tuple", data := .seq [Value.str x t, .str y u, .str z v].toArray } } :=
  lay_tupK (xs := [.str x, .str y, .str z]) (us := [Value.str x t, .str y u, .str z v]) I (.cons ⟨t, rfl⟩ (.cons ⟨u, rfl⟩ (.cons ⟨v, rfl⟩ .nil))) (by show 3 ≤ sizeLine; decide) k h
end
section
variable {X : Cx} {E : XK}
theorem mt_partitionF : MtR X "str.partition" (fun x xs H Q => ∃ a b, x = .str a ∧ xs = [.str b] ∧ (b.length == 0) = false ∧ a.length ≤ sizeLine ∧
    ∀ p (o : Obj), o.dict = none → H p = none → Q (.ref p) (upd H p (.frz o (.tup [.str (Txt.partition a b).1, .str (Txt.partition a b).2.1, .str (Txt.partition a b).2.2])))) := by
  intro pins s σ H x xs v us Q I rx rs h
  obtain ⟨a, b, rfl, rfl, hb, hz, h⟩ := h
  obtain ⟨t, rfl⟩ := rx
  cases rs with
  | cons r1 rs =>
    cases rs
    obtain ⟨u, rfl⟩ := r1
    refine call_meets PySem.F.slot_str_partition (typeIs_str _ _ _) PySem.F.entry_str_partition (PySem.F.args_str_partition_2 _ _) (meets_str_partition a b t u hb hz) ?_
    unfold Txt.partition at h
    revert h
    cases Builtin.Str.occurrences a b 0 a.length 1 with
    | nil => intro h; exact laid_partsF I h
    | cons i r => intro h; exact laid_partsF I h
def partitionD : D → List D → Sto → R D
  | .py (.str a), [.py (.str b)], S => if (b.length == 0) = false ∧ a.length ≤ sizeLine then .ok (.py (.tuple [.str (Txt.partition a b).1, .str (Txt.partition a b).2.1, .str (Txt.partition a b).2.2])) S else .no
  | _, _, _ => .no
theorem dm_partition : DM X "str" "str.partition" partitionD := by
  refine ⟨_, mt_partitionF (X := X), fun x xs d ds H S ι E Q hS rx r hw => ?_⟩
  unfold partitionD at hw
  split at hw
  · split at hw
    · rename_i hz
      cases r with
      | cons r rs =>
        cases rs
        refine ⟨_, _, str_of rx, by rw [str_of r], hz.1, hz.2, fun p o ho np => hw _ _ _ (.new hS np) (.py (.tup (.new ho) (by show 3 ≤ sizeLine; decide) ?_))⟩
        exact .cons (.str _) (.cons (.str _) (.cons (.str _) .nil))
    · exact hw.elim
  · exact hw.elim
def intX : List D → Sto → R D
  | [.py (.str a)], S => (match PySem.intText? a with
    | some n => if a.length ≤ 640 then .ok (.py (.int n)) S else .no
    | none => .no)
  | _, _ => .no
theorem dc_intX : DC X (.type "int") intX := by
  refine ⟨_, call_int_str (X := X), fun xs ds H S ι E Q hS r hw => ?_⟩
  unfold intX at hw
  split at hw
  · split at hw
    · rename_i n hn
      split at hw
      · rename_i hz
        cases r with
        | cons r rs =>
          cases rs
          exact ⟨_, n, by rw [str_of r], hn, hz, hw _ _ _ (.refl hS) (.py (.int _))⟩
      · exact hw.elim
    · exact hw.elim
  · exact hw.elim
end
end DV

set_option maxHeartbeats 4000000
namespace DV
open PySem PySem.Spec PyProof.Rows L2
/-! sorted(xs), xs a list of data that are alike. -/
section
variable {X : Cx} {E : XK}
end
end DV


set_option maxHeartbeats 4000000
/-! A comprehension over a zip with a list of the store, of whole numbers, that its turns leave as it is. -/
namespace DV
open PySem PySem.Spec PyProof.Rows L2
section
variable {X : Cx} {pins : List (Addr × Obj)} {σ : L2.St} {H : Hp} {s : Shared}
theorem lst_heap {a : Addr} {ys : List V} (I : Inv X pins σ H s) (h : H a = some (.lst ys)) : ∃ its : List Value, (SK.lst a).hold s.heap its ∧ (SK.lst a).n its = ys.length ∧ (∀ i v, (SK.lst a).P its i v → ∃ x, ys[i]? = some x ∧ RelV x v) ∧ ∀ b ∈ (SK.lst a).src, b < s.heap.objs.size := by
  obtain ⟨its, rv, p, z⟩ := I.list (.inl (.inl h))
  exact ⟨its, p.isList, rv.length.symm, fun i v e => by
    have e' : its[i]? = some v := by simpa [SK.P] using e
    exact Paired.getR rv e', fun b hb => by
    rw [show b = a by simpa [SK.src] using hb]
    exact p.lt⟩
end
section
variable {X : Cx} {E : XK} {e a b c : Expr} {f g h : Ex} {pos p : Pos}
def iZipL (K : PySem.W.Frag) (ta : TA) : TI := fun σ H R => ta σ H fun vs H1 => ∃ v1 d xs ys, vs = [v1, .ref d] ∧ srcV K H1 v1 xs ∧ H1 d = some (.lst ys) ∧
  ∀ Src : Hp → Prop, (∀ H', Keep H1 H' → H' d = some (.lst ys) → Src H') → R (ItN Src (min xs.length ys.length) fun i => [xs.getD i .non, ys.getD i .non]) H1
theorem turn_zipL {P : Program} {w : World} {K : PySem.W.Frag} {elts : List Expr} {kk : Nat} {tpos : Pos} {k1 : SK} {d : Addr} {N : Addr} {xs ys : List V} (l1 : ∀ a ∈ k1.src, a < N) (l2 : ∀ a ∈ (SK.lst d).src, a < N) :
    Turn P w K (.Tuple elts kk tpos) (ItN (fun H => k1.ok K H xs ∧ H d = some (.lst ys)) (min xs.length ys.length) fun i => [xs.getD i .non, ys.getD i .non]) [N + 4, N + 2, N + 3, N, N + 1] (N + 4) (zipTn k1 (.lst d) N) := by
  have S := zip_sep2 (N := N) l1 l2
  refine turn_new (by simp) ?_ ?_ ?_ (fun i => by show 2 ≤ sizeLine; decide) ?_
  · intro i h st c hc
    obtain ⟨hz, hTI, ⟨x, y, hTO⟩, h1, h2⟩ := st
    have e' : c = N + 4 ∨ c = N + 2 ∨ c = N + 3 ∨ c = N ∨ c = N + 1 := by simpa using hc
    rcases e' with q | q | q | q | q
    · rw [q]; exact ⟨_, hz, fun v q => nomatch q⟩
    · rw [q]; exact ⟨_, hTI, fun v q => nomatch q⟩
    · rw [q]; exact ⟨_, hTO, fun v q => nomatch q⟩
    · rw [q]; exact SK.st_obj h1
    · rw [q]; exact SK.st_obj h2
  · intro i h h' st k
    obtain ⟨hz, hTI, ⟨x, y, hTO⟩, h1, h2⟩ := st
    exact ⟨k (N + 4) (by simp) _ hz, k (N + 2) (by simp) _ hTI, ⟨x, y, k (N + 3) (by simp) _ hTO⟩, SK.st_keep h1 fun o q => k N (by simp) o q, SK.st_keep h2 fun o q => k (N + 1) (by simp) o q⟩
  · exact fun A i s Q E st h => wpAny_pyIter_zip st.1 h
  · intro X' hP hw hK hh i pins' s' σ' H' I' st hsrc
    subst hP hw hK
    obtain ⟨its1', d1', n1', P1', l1'⟩ := SK.heap I' hsrc.1
    obtain ⟨its2', d2', n2', P2', l2'⟩ := lst_heap I' hsrc.2
    have W := zip2_noD (elts := elts) (k := kk) (pos := tpos) S (SK.draws (prog := X'.prog) (w := X'.w) (A := X'.A.in1) hh k1 N (fun a ha => Nat.ne_of_lt (l1 a ha)) its1') (SK.draws (A := X'.A.in1) hh (.lst d) (N + 1) (fun a ha => Nat.ne_of_lt (Nat.lt_succ_of_lt (l2 a ha))) its2')
    rw [n1', n2'] at W
    refine ⟨_, _, _, _, W, ⟨st.1, st.2.1, st.2.2.1, ⟨st.2.2.2.1, d1'⟩, ⟨st.2.2.2.2, d2'⟩⟩, fun b hb => ?_, fun h v h' hi y => ?_, fun h' st' => ⟨st'.1, st'.2.1, st'.2.2.1, st'.2.2.2.1.1, st'.2.2.2.2.1⟩⟩
    · have e' : b = N + 4 ∨ b = N + 3 ∨ b = N ∨ b = N + 1 := by simpa using hb
      rcases e' with q | q | q | q <;> simp [q]
    · obtain ⟨T, x, y, rfl, hT, p1, p2, ht⟩ := y
      obtain ⟨v1, e1, r1⟩ := P1' _ _ p1
      obtain ⟨v2, e2, r2⟩ := P2' _ _ p2
      refine ⟨T, [x, y], rfl, hT, ?_, ht⟩
      rw [getD_of e1, getD_of e2]
      exact .cons r1 (.cons r2 .nil)
theorem pi_zipL {e2 : Expr} {ta : TA} {tpos : Pos} {elts : List Expr} {kk : Nat} (hg : Gl X "zip") (hm : X.mg "zip" = none) (hc : X.calm = true) (ha : PA X [e, e2] ta)
    (hs : starEach [e, e2] X.env = (false, eval e X.env) :: starEach [e2] X.env := by rfl) (hpl : (backTo pos (starEach [e2] X.env)).any (·.1) = false := by rfl) :
    PI X (.Tuple elts kk tpos) (.Call (.Name "zip" p) [e, e2] [] pos) (iZipL X.K ta) := by
  refine ⟨fun pins s σ H R I h => ?_⟩
  refine Call_ (ld_blt I hg hm PyProof.Rows.boot_zip (PyProof.Rows.callWith_type1 (thn (ha.run pos pins s σ H _ I h) fun us s1 ⟨vs, H1, I1, r1, q1⟩ => ?_) hs hpl))
  obtain ⟨v1, dd, xs, ys, rfl, h1, h2, q⟩ := q1
  obtain ⟨u1, u2, rfl, r1, r2⟩ := vals2 r1
  obtain ⟨k1, rfl, o1⟩ := h1.sk r1
  cases r2
  obtain ⟨its1, d1, n1, P1, l1⟩ := SK.heap I1 o1
  obtain ⟨its2, d2, n2, P2, l2⟩ := lst_heap I1 h2
  refine zip_begins2 (SK.begins k1 its1) (SK.begins (.lst dd) its2) d1 d2 fun h' hz hTI hTO hi1 hi2 hsz hk => wpAny_pyIter_zip hz ?_
  have I2 : Inv X pins σ H1 { s1 with heap := h' } := I1.kept (t' := s1.toks) hk
  generalize hN : s1.heap.objs.size = N at *
  have fresh5 : ∀ c, c ∈ [N + 4, N + 2, N + 3, N, N + 1] → FpOk X pins H1 c := fun c hcm => by
    have e' : c = N + 4 ∨ c = N + 2 ∨ c = N + 3 ∨ c = N ∨ c = N + 1 := by simpa using hcm
    have hle : s1.heap.objs.size ≤ c := by
      rw [hN]
      rcases e' with z | z | z | z | z
      · rw [z]; exact Nat.le_add_right _ _
      · rw [z]; exact Nat.le_add_right _ _
      · rw [z]; exact Nat.le_add_right _ _
      · rw [z]; exact Nat.le_refl _
      · rw [z]; exact Nat.le_add_right _ _
    exact I1.fpOk hle (I1.hok.fresh hle)
  refine ⟨N + 4, [N + 4, N + 2, N + 3, N, N + 1], fun i h => IsZip h (N + 4) (N + 2) (N + 3) .none ∧ IsTupOf2 h (N + 2) (.ref N) (.ref (N + 1)) ∧ (∃ a1 a2, IsTupOf2 h (N + 3) a1 a2) ∧ k1.st N i h ∧ (SK.lst dd).st (N + 1) i h,
    ItN (fun H => k1.ok X.K H xs ∧ H dd = some (.lst ys)) (min xs.length ys.length) fun i => [xs.getD i .non, ys.getD i .non], H1, rfl, I2, ?_, ⟨hz, hTI, ⟨_, _, hTO⟩, SK.st0 k1 hi1, SK.st0 (.lst dd) hi2⟩, fresh5, q _ fun H' kp hd => ⟨o1.keep kp, hd⟩⟩
  exact turn_zipL l1 l2
/-- a walk that wants the list as it is -/
structure WalkZ (K : PySem.W.Frag) (H0 : Hp) (d : Addr) (ys : List V) (J : L2.It) (xs : List D) : Prop where
  len : xs.length ≤ sizeLine
  go : ∀ i H, Keep H0 H → H d = some (.lst ys) → i < xs.length → J.go i H
  stop : ∀ H, Keep H0 H → H d = some (.lst ys) → J.stop xs.length H
  yld : ∀ i H v H' x, Keep H0 H → xs[i]? = some x → J.yld i H v H' → KeepA H H' ∧ (∀ (b : Addr) (vs : MO), H b = some vs.ho → H' b = some vs.ho) ∧ (∀ b, H b ≠ none → H' b ≠ none) ∧ ∀ ι, Rd K ι H' v x
end
end DV

set_option maxHeartbeats 4000000
/-! A loop over a zip with a list of the store, whose turns leave that list as it is. -/
namespace DV
open PySem PySem.Spec PyProof.Rows L2
/-- things of which the value is known from what they are -/
def detD : D → Bool
  | .obj _ => true
  | .py (.int _) => true
  | _ => false
theorem det_eq {K : PySem.W.Frag} {ι ι' : List Addr} {H H' : Hp} {v v' : V} {d : D} (hd : detD d = true) (p : ι <+: ι') (r : Rd K ι H v d) (r' : Rd K ι' H' v' d) : v' = v := by
  cases r with
  | obj e =>
    cases r' with
    | obj e' =>
      have := pre_get p e
      rw [this] at e'
      cases e'
      rfl
  | raw a => cases r'; rfl
  | py h =>
    cases r' with
    | py h' =>
      cases h with
      | int i => cases h'; rfl
      | _ => cases hd
theorem det_all {K : PySem.W.Frag} {ι ι' : List Addr} {H H' : Hp} (p : ι <+: ι') : ∀ {ds : List D} {vs vs' : List V}, ds.all detD = true → RdAll K ι H vs ds → RdAll K ι' H' vs' ds → vs' = vs
  | [], _, _, _, .nil, .nil => rfl
  | d :: ds, _, _, h, .cons r rs, .cons r' rs' => by
    rw [List.all_cons, Bool.and_eq_true] at h
    rw [det_eq h.1 p r r', det_all p h.2 rs rs']
theorem rd_get {K : PySem.W.Frag} {ι : List Addr} {H : Hp} {vs : List V} {ds : List D} (h : RdAll K ι H vs ds) : ∀ {i : Nat} {d : D}, ds[i]? = some d → ∃ v, vs[i]? = some v ∧ Rd K ι H v d := by
  induction h with
  | nil => intro i d h; simp at h
  | cons r _ ih =>
    intro i d h
    cases i with
    | zero =>
      simp at h
      subst h
      exact ⟨_, rfl, r⟩
    | succ i => exact ih (by simpa using h)
def lsD (S : Sto) (m : Nat) : Option (List D) := match S[m]? with
  | some (.lst ds) => some ds
  | _ => none
theorem lsD_at {S : Sto} {m : Nat} {es : List D} (h : S[m]? = some (.lst es)) : lsD S m = some es := by unfold lsD; rw [h]
theorem lsD_of {S : Sto} {m : Nat} {es : List D} (h : lsD S m = some es) : S[m]? = some (.lst es) := by
  unfold lsD at h
  split at h
  · rename_i ds e
    cases h
    exact e
  · cases h
def zpJ (a b : Ex) : En → Sto → R (Nat × List D × List (List D)) := fun σ S => (a σ S).bind fun x S1 => (b σ S1).bind fun y S2 => match pyWalk S2 x, y with
  | some xs, .obj m => (match lsD S2 m with
    | some es => if es.all detD = true then .ok (m, es, (xs.zip es).map fun p => [D.py p.1, p.2]) S2 else .no
    | none => .no)
  | _, _ => .no
open Classical in
noncomputable def forZL (m : Nat) (es : List D) (g : List D → En → Sto → R En) (u : Sx) : List (List D) → En → Sto → F
  | [], σ, S => if lsD S m = some es then .nx σ S else .no
  | ps :: r, σ, S => if lsD S m = some es then (match g ps σ S with
    | .ok σ1 S1 => (match u σ1 S1 with
      | .nx σ2 S2 => forZL m es g u r σ2 S2
      | .ct σ2 S2 => forZL m es g u r σ2 S2
      | .bk σ2 S2 => .nx σ2 S2
      | .rt d S2 => .rt d S2
      | .ex c S2 => .ex c S2
      | .no => .no)
    | .ex c S1 => .ex c S1
    | .no => .no) else .no
noncomputable def forZ (a b : Ex) (g : List D → En → Sto → R En) (u : Sx) : Sx := fun σ S => (zpJ a b σ S).run fun z S1 => forZL z.1 z.2.1 g u z.2.2 σ S1
section
variable {X : Cx} {E : XK} {a b : Expr} {f g : Ex} {p pos pos2 : Pos}
/-- a walk that wants the list as it is; each turn gives a new tuple -/
structure WalkQ (K : PySem.W.Frag) (ι0 : List Addr) (H0 : Hp) (d : Addr) (ys : List V) (J : L2.It) (ps : List (List D)) : Prop where
  go : ∀ i H, Keep H0 H → H d = some (.lst ys) → i < ps.length → J.go i H
  stop : ∀ H, Keep H0 H → H d = some (.lst ys) → J.stop ps.length H
  yld : ∀ i H v H' q, Keep H0 H → ps[i]? = some q → J.yld i H v H' → KeepA H H' ∧ (∀ (b : Addr) (vs : MO), H b = some vs.ho → H' b = some vs.ho) ∧ (∀ b, H b ≠ none → H' b ≠ none) ∧
    ∃ T ws, v = .ref T ∧ SqT K H' T ws ∧ ws.length = 2 ∧ ∀ ι, ι0 <+: ι → RdAll K ι H' ws q
theorem zpJ_read (hm : X.mg "zip" = none) (hc : X.calm = true) (ha : DE X E a f) (hb : DE X E b g) {tpos : Pos} {elts : List Expr} {kk : Nat} (hg : Gl X "zip")
    (hs : starEach [a, b] X.env = (false, eval a X.env) :: starEach [b] X.env) (hs2 : starEach [b] X.env = (false, eval b X.env) :: starEach [] X.env) (hpl : (backTo pos (starEach [b] X.env)).any (·.1) = false) :
    ∃ wi, PI X (.Tuple elts kk tpos) (.Call (.Name "zip" p) [a, b] [] pos) wi ∧ ∀ σ H σd S ι R, EnR X.K ι H σ σd → StR X.K ι H S →
      Wp X.K X.mg E ι H (fun ι' H' J (z : Nat × List D × List (List D)) => ∃ d ys, ι'[z.1]? = some d ∧ z.2.1.all detD = true ∧ RdAll X.K ι' H' ys z.2.1 ∧ H' d = some (.lst ys) ∧ WalkQ X.K ι' H' d ys J z.2.2) (zpJ f g σd S) R → wi σ H R := by
  obtain ⟨t, pt, q⟩ := ha
  obtain ⟨u, pu, qu⟩ := hb
  refine ⟨_, pi_zipL hg hm hc (pa_cons pt (pa_cons pu pa_nil hs2) hs) hs hpl, fun σ H σd S ι R hE hS h => ?_⟩
  refine q σ H σd S ι _ hE hS (Wp.bind0 h fun d S1 _ v H1 ι1 p1 r1 h1 => ?_)
  refine qu σ H1 σd S1 ι1 _ (hE.mono p1.pre p1.keep) p1.sto (Wp.bind0 (Wp.re p1 h1) fun d2 S2 _ v2 H2 ι2 p2 r2 h2 => ?_)
  split at h2
  · rename_i xs m hx _
    obtain ⟨vs, s1, al1, z1⟩ := srcV.of (S := S2) (r1.mono p2.pre p2.keep) hx
    split at h2
    · rename_i es he
      split at h2
      · rename_i hdet
        have hes := lsD_of he
        cases r2 with
        | obj e =>
          rename_i dd
          cases p2.sto.at_ _ _ _ hes e with
          | lst hl al2 =>
            rename_i ys
            refine ⟨v, dd, vs, ys, rfl, s1, hl, fun Src hSrc => h2 _ _ _ p2 ⟨dd, ys, e, hdet, al2, hl, ?_⟩⟩
            have l1 : vs.length = xs.length := al1.length
            have l2 : ys.length = es.length := al2.length
            have len : (((xs.zip es).map fun p => [D.py p.1, p.2])).length = min vs.length ys.length := by
              rw [List.length_map, List.length_zip, l1, l2]
            refine ⟨fun i H' kp hd hi => ⟨by rw [len] at hi; exact hi, hSrc H' kp hd⟩, fun H' kp hd => ⟨len, hSrc H' kp hd⟩, fun i H' w H'' qq kp hq y => ?_⟩
            obtain ⟨T, o, rfl, hT, ho, rfl⟩ := y
            rw [List.getElem?_map, Option.map_eq_some_iff] at hq
            obtain ⟨⟨x, y⟩, h3, rfl⟩ := hq
            rw [List.getElem?_zip_eq_some] at h3
            obtain ⟨w1, e1, q1⟩ := al1.getR h3.1
            obtain ⟨w2, e2, q2⟩ := rd_get al2 h3.2
            refine ⟨.new hT, fun b vs e => by rw [upd_ne (ne_of_none e hT)]; exact e, upd_dom, T, [w1, w2], rfl, ?_, rfl, fun ι' hι => ?_⟩
            · rw [← getD_of e1, ← getD_of e2]
              exact (FT.new ho).sq
            · have kk : Keep H2 (upd H' T (.frz o (.tup [vs.getD i .non, ys.getD i .non]))) := kp.trans (.new hT)
              exact .cons (.py (q1.keep kk)) (.cons (q2.mono hι kk) .nil)
      · exact h2.elim
    · exact h2.elim
  · exact h2.elim
/-- for x, y in zip(a list by value, a list of the store): body -/
theorem ds_forZ {k : Nat} {vs : List Nat} {tgs : List Expr} {kk : Nat} {tpos : Pos} {body : List Stmt} {gs : List D → En → Sto → R En} {u : Sx} (o : Okx k X E) (hm : X.mg "zip" = none) (ha : DE X E a f) (hb : DE X E b g)
    (hgs : DGs X E vs tgs gs) (hbd : DSs X E body u) (hg : Gl X "zip" := by rfl)
    (hs : starEach [a, b] X.env = (false, eval a X.env) :: starEach [b] X.env := by rfl) (hs2 : starEach [b] X.env = (false, eval b X.env) :: starEach [] X.env := by rfl) (hpl : (backTo pos2 (starEach [b] X.env)).any (·.1) = false := by rfl)
    (hn : (assignEach tgs X.env).length = 2 := by rfl) (hst : (assignEach tgs X.env).findIdx? (·.1) = none := by rfl)
    (hf : ∀ x, foldedSetIterable (.Call (.Name "zip" p) [a, b] [] pos2) X.env x = pure x := by intro _; rfl) :
    DS X E (.For (.Tuple tgs kk tpos) (.Call (.Name "zip" p) [a, b] [] pos2) body [] pos) (forZ f g gs u) := by
  obtain ⟨wi, pz, q⟩ := zpJ_read (p := p) (pos := pos2) (tpos := tpos) (elts := tgs) (kk := kk) hm o.calm ha hb hg hs hs2 hpl
  obtain ⟨t, pt, qt⟩ := hgs
  obtain ⟨tb, pb, qb⟩ := hbd
  refine ⟨_, ps_for o.own o.calm pz (pg_tup o.calm pt hn hst) pb hf, fun σ H σd S ι N hE hS h => ?_⟩
  refine q σ H σd S ι _ hE hS (Wp.run h fun z S1 _ J H1 ι1 p1 w h1 => ?_)
  obtain ⟨m, es, xs⟩ := z
  obtain ⟨dd, ys, hdd, hdet, al, hl, w⟩ := w
  simp only at hdd hdet al w h1
  refine ⟨fun i n σ' H' => n = xs.length - i ∧ i ≤ xs.length ∧ Keep H1 H' ∧ ∃ σd' S' ι', ι1 <+: ι' ∧ EnR X.K ι' H' σ' σd' ∧ StR X.K ι' H' S' ∧ WpF X.K X.mg E ι' H' (forZL m es gs u (xs.drop i) σd' S') N,
    ⟨_, rfl, Nat.zero_le _, .refl _, σd, S1, ι1, List.prefix_refl _, hE.mono p1.pre p1.keep, p1.sto, by rw [List.drop_zero]; exact h1⟩, ?_⟩
  rintro i n σ' H' ⟨rfl, hle, kp, σd', S', ι', hι, hE', hS', hw⟩
  have hok : lsD S' m = some es := by
    cases hx : xs.drop i with
    | nil =>
      rw [hx] at hw
      unfold forZL at hw
      split at hw
      · assumption
      · exact hw.elim
    | cons x l =>
      rw [hx] at hw
      unfold forZL at hw
      split at hw
      · assumption
      · exact hw.elim
  have hd' : H' dd = some (.lst ys) := by
    cases hS'.at_ _ _ _ (lsD_of hok) (pre_get hι hdd) with
    | lst ha2 rr =>
      rw [ha2, det_all hι hdet al rr]
  by_cases hlt : i < xs.length
  · refine .inr ⟨w.go i H' kp hd' hlt, fun σ2 H2 => i + 1 ≤ xs.length ∧ Keep H1 H2 ∧ ∃ σd' S' ι', ι1 <+: ι' ∧ EnR X.K ι' H2 σ2 σd' ∧ StR X.K ι' H2 S' ∧ WpF X.K X.mg E ι' H2 (forZL m es gs u (xs.drop (i + 1)) σd' S') N,
      fun σ2 H2 ⟨z1, z2, z3⟩ => ⟨_, by omega, rfl, z1, z2, z3⟩, fun v H2 y => ?_⟩
    obtain ⟨k2, l2, n2, T, ws, rfl, sq, lw, r2⟩ := w.yld i H' v H2 xs[i] kp (List.getElem?_eq_getElem hlt) y
    have pp : Post X.K ι' H' ι' H2 S' := ⟨List.prefix_refl _, k2, hS'.keep k2 l2 n2, fun b vs m q => ⟨l2 b (.lst vs) q, m⟩, n2⟩
    rw [drop_cons hlt] at hw
    have hw2 := WpF.re pp hw
    unfold forZL at hw2
    rw [if_pos hok] at hw2
    refine ⟨T, ws, rfl, sq, lw, qt ws xs[i] σ' H2 σd' S' ι' _ (hE'.mono (List.prefix_refl _) k2) pp.sto (r2 ι' hι) ?_⟩
    cases hgx : gs xs[i] σd' S' with
    | no => rw [hgx] at hw2; exact hw2.elim
    | ex c S3 => rw [hgx] at hw2; exact hw2
    | ok σd3 S3 =>
      rw [hgx] at hw2
      intro σ3 H3 ι3 p3 r3
      refine qb σ3 H3 σd3 S3 ι3 _ r3.1 p3.sto ?_
      have hw3 := WpF.re p3 hw2
      simp only at hw3
      have nxt : ∀ σd4 S4, WpF X.K X.mg E ι3 H3 (forZL m es gs u (xs.drop (i + 1)) σd4 S4) N → ∀ σ4 H4 ι4, Post X.K ι3 H3 ι4 H4 S4 → EnR X.K ι4 H4 σ4 σd4 →
          i + 1 ≤ xs.length ∧ Keep H1 H4 ∧ ∃ σd' S' ι', ι1 <+: ι' ∧ EnR X.K ι' H4 σ4 σd' ∧ StR X.K ι' H4 S' ∧ WpF X.K X.mg E ι' H4 (forZL m es gs u (xs.drop (i + 1)) σd' S') N := fun σd4 S4 hz σ4 H4 ι4 p4 r4 =>
        ⟨hlt, ((kp.trans k2).trans p3.keep).trans p4.keep, σd4, S4, ι4, (hι.trans p3.pre).trans p4.pre, r4, p4.sto, WpF.re p4 hz⟩
      cases hu : u σd3 S3 with
      | nx σd4 S4 => rw [hu] at hw3; exact nxt _ _ hw3
      | ct σd4 S4 => rw [hu] at hw3; exact nxt _ _ hw3
      | bk σd4 S4 => rw [hu] at hw3; exact hw3
      | rt d S4 => rw [hu] at hw3; exact hw3
      | ex c S4 => rw [hu] at hw3; exact hw3
      | no => rw [hu] at hw3; exact hw3.elim
  · have hi : i = xs.length := by omega
    subst hi
    refine .inl ⟨w.stop H' kp hd', ?_⟩
    rw [List.drop_length] at hw
    unfold forZL at hw
    rw [if_pos hok] at hw
    exact hw _ _ _ (.refl hS') hE'
end
end DV

set_option maxHeartbeats 2000000
namespace DV
open PySem PySem.Spec PyProof.Rows L2
/-! some text, or another where it is empty -/
def orS (a b : Ex) : Ex := fun σ S => (a σ S).bind fun x S1 => match x with
  | .py (.str s) => if s.length ≤ sizeLine then (if s.length = 0 then b σ S1 else .ok (.py (.str s)) S1) else .no
  | _ => .no
section
variable {X : Cx} {E : XK} {a b : Expr} {f g : Ex} {rest : List Expr} {pos : Pos}
theorem de_orS (ha : DE X E a f) (hb : DE X E (.BoolOp .Or (b :: rest) pos) g) : DE X E (.BoolOp .Or (a :: b :: rest) pos) (orS f g) := by
  obtain ⟨t, p, q⟩ := ha
  obtain ⟨u, pu, qu⟩ := hb
  refine ⟨_, pe_orT p pu, fun σ H σd S ι Q hE hS h => ?_⟩
  refine q σ H σd S ι _ hE hS (Wp.bind h fun d S1 _ v H1 ι1 p1 r1 h1 => ?_)
  split at h1
  · rename_i s _
    have e := str_of r1
    subst e
    split at h1
    · rename_i hz
      refine ⟨((s.length : Int) != 0), ⟨hz, rfl⟩, ?_⟩
      split at h1
      · rename_i h0
        rw [if_neg (by simp [h0])]
        exact qu σ H1 σd S1 ι1 _ (hE.mono p1.pre p1.keep) p1.sto h1
      · rename_i h0
        rw [if_pos (by simpa using h0)]
        exact h1 _ _ _ (.refl p1.sto) (.py (.str _))
    · exact h1.elim
  · exact h1.elim
end
end DV

set_option maxHeartbeats 4000000
namespace DV
open PySem PySem.Spec PyProof.Rows L2 DV
noncomputable def b_place_of : Sx := (seqS (forS (enumI (opE itemD (varE 0) (cE (.int 1)))) (tupG 2 (consG (nmG 2) (consG (nmG 3) nilG))) (ifS (valT (opE eqD (opE itemD (varE 3) (cE (.int 0))) (varE 1))) (retS (varE 2)) passS)) (retS (cE .none)))
noncomputable def F_place_of : List D → Sto → R D := fnF 4 b_place_of
noncomputable def b_need_letter : Sx := (seqS (asgS (callE F_place_of (consA (varE 0) (consA (varE 1) nilA))) (nmG 2)) (seqS (ifS (valT (opE isND (varE 2) (cE .none))) (raiseS "NoLetter") passS) (retS (varE 2))))
noncomputable def F_need_letter : List D → Sto → R D := fnF 3 b_need_letter
noncomputable def b_law_box : Sx := (seqS (asgS (opE addD (opE mulD (cE (.int 6151)) (varE 1)) (cE (.int 29))) (nmG 2)) (seqS (ifS (valT (opE ltD (varE 1) (callE lenD (consA (varE 0) nilA)))) (asgS (opE itemD (varE 0) (varE 1)) (nmG 2)) passS) (seqS (ifS (valT (opE eqD (opE modD (varE 2) (cE (.int 2))) (cE (.int 0)))) (retS (thwE (consA (opE fdivD (callE absD (consA (varE 2) nilA)) (cE (.int 2))) (consA (opE addD (opE addD (opE modD (varE 2) (cE (.int 1000003))) (opE mulD (cE (.int 7919)) (varE 1))) (cE (.int 1))) nilA)))) passS) (retS (thwE (consA (cE (.int 0)) (consA (opE addD (opE addD (opE modD (varE 2) (cE (.int 2147483563))) (opE mulD (cE (.int 7919)) (varE 1))) (cE (.int 1))) nilA)))))))
noncomputable def F_law_box : List D → Sto → R D := fnF 3 b_law_box
noncomputable def b_law_take : Sx := (seqS (ifS (valT (opE (cmpI fun i j => decide (j < i)) (opE itemD (varE 0) (cE (.int 0))) (cE (.int 0)))) (seqS (asgS (callE divmodD (consA (opE itemD (varE 0) (cE (.int 0))) (consA (varE 1) nilA))) (tupG 2 (consG (ixG (varE 0) (cE (.int 0))) (consG (nmG 2) nilG)))) (retS (varE 2))) passS) (seqS (asgS (opE modD (opE addD (opE mulD (opE itemD (varE 0) (cE (.int 1))) (cE (.int 48271))) (cE (.int 11))) (cE (.int 2147483647))) (ixG (varE 0) (cE (.int 1)))) (seqS (asgS (opE addD (opE fdivD (opE itemD (varE 0) (cE (.int 1))) (cE (.int 1009))) (cE (.int 1))) (nmG 3)) (retS (opE modD (opE fdivD (opE modD (opE mulD (opE mulD (varE 3) (varE 3)) (varE 3)) (cE (.int 2147483629))) (cE (.int 61))) (varE 1))))))
noncomputable def F_law_take : List D → Sto → R D := fnF 4 b_law_take
noncomputable def b_is_from_to : Sx := (retS (andE (op1 (isiD "int") (varE 0)) (andE (notE (op1 (isiD "bool") (varE 0))) (chainE (cmpI fun i j => decide (i ≤ j)) (cmpI fun i j => decide (i ≤ j)) (varE 1) (varE 0) (varE 2)))))
noncomputable def F_is_from_to : List D → Sto → R D := fnF 3 b_is_from_to
noncomputable def b_letters_of : Sx := (retS (callE tupleD (consA (frzE (lcX (seqI (opE itemD (varE 0) (cE (.int 1)))) [1] (nmG 1) yesT (opE itemD (varE 1) (cE (.int 0))))) nilA)))
noncomputable def F_letters_of : List D → Sto → R D := fnF 2 b_letters_of
noncomputable def b_law_face : Sx := (seqS (asgS (thwE (callL listD (consA (cE (.str "abcdefghijklmnopqrstuvwxyz")) nilA))) (nmG 3)) (seqS (asgS (opE addD (varE 1) (callE F_law_take (consA (varE 0) (consA (opE addD (opE subD (varE 2) (varE 1)) (cE (.int 1))) nilA)))) (nmG 4)) (seqS (asgS (frzE (lcX (rng1I (varE 4)) [6] (nmG 6) yesT (tupE (consA (methL popD (varE 3) (consA (callE F_law_take (consA (varE 0) (consA (callE lenD (consA (varE 3) nilA)) nilA))) nilA)) (consA (opE addD (cE (.int 10)) (callE F_law_take (consA (varE 0) (consA (cE (.int 90)) nilA)))) nilA))))) (nmG 5)) (retS (tupE (consA (opE addD (cE (.int 1)) (callE F_law_take (consA (varE 0) (consA (cE (.int 99)) nilA)))) (consA (callE tupleD (consA (varE 5) nilA)) nilA)))))))
noncomputable def F_law_face : List D → Sto → R D := fnF 7 b_law_face
noncomputable def b_law_letters : Sx := (retS (frzE (lcX (seqI (opE itemD (varE 0) (cE (.int 1)))) [1] (nmG 1) yesT (opE itemD (varE 1) (cE (.int 0))))))
noncomputable def F_law_letters : List D → Sto → R D := fnF 2 b_law_letters
noncomputable def b_is_gap : Sx := (retS (callE F_is_from_to (consA (varE 0) (consA (opE subD (cE (.int 0)) (cE (.int 9))) (consA (cE (.int 9)) nilA)))))
noncomputable def F_is_gap : List D → Sto → R D := fnF 1 b_is_gap
noncomputable def b_gap_in : Sx := (seqS (forS (seqI (varE 0)) (tupG 3 (consG (nmG 3) (consG (nmG 4) (consG (nmG 5) nilG)))) (ifS (andT (valT (opE eqD (varE 3) (varE 1))) (valT (opE eqD (varE 4) (varE 2)))) (retS (varE 5)) passS)) (retS (cE (.int 0))))
noncomputable def F_gap_in : List D → Sto → R D := fnF 6 b_gap_in
noncomputable def b_from_rows : Sx := (seqS (asgS (callE F_letters_of (consA (varE 0) nilA)) (nmG 2)) (seqS (asgS (thwE nilA) (nmG 3)) (seqS (forS (zipI (varE 2) (varE 1)) (tupG 2 (consG (nmG 4) (consG (nmG 5) nilG))) (exprS (extE (varE 3) (lcX (zipI (varE 2) (varE 5)) [6, 7] (tupG 2 (consG (nmG 6) (consG (nmG 7) nilG))) (valT (opE neD (varE 7) (cE (.int 0)))) (tupE (consA (varE 4) (consA (varE 6) (consA (varE 7) nilA)))))))) (retS (callE tupleD (consA (varE 3) nilA))))))
noncomputable def F_from_rows : List D → Sto → R D := fnF 8 b_from_rows
noncomputable def b_all_pairs : Sx := (seqS (asgS (thwE nilA) (nmG 1)) (seqS (forS (seqI (callE F_letters_of (consA (varE 0) nilA))) (nmG 2) (exprS (extE (varE 1) (lcX (seqI (callE F_letters_of (consA (varE 0) nilA))) [3] (nmG 3) yesT (tupE (consA (varE 2) (consA (varE 3) nilA))))))) (seqS (fixS 1) (retS (varE 1)))))
noncomputable def F_all_pairs : List D → Sto → R D := fnF 4 b_all_pairs
noncomputable def b_is_parting : Sx := (seqS (ifS (notT (valT (op1 (isiD "tuple") (varE 1)))) (retS (cE (.bool false))) passS) (seqS (asgS (thwE nilA) (nmG 2)) (seqS (forS (seqI (varE 1)) (nmG 3) (seqS (ifS (orT (notT (valT (op1 (isiD "tuple") (varE 3)))) (valT (opE eqD (varE 3) (tupE nilA)))) (retS (cE (.bool false))) passS) (seqS (asgS (frzE (lcX (seqI (varE 3)) [7] (nmG 7) yesT (callE F_place_of (consA (varE 0) (consA (varE 7) nilA))))) (nmG 4)) (seqS (ifS (orT (valT (opE inD (cE .none) (varE 4))) (valT (opE neD (varE 4) (frzE (callL sortedD (consA (varE 4) nilA)))))) (retS (cE (.bool false))) passS) (exprS (methL appendD (varE 2) (consA (varE 4) nilA))))))) (seqS (fixS 2) (seqS (asgS (frzE (lcX (seqI (varE 2)) [4] (nmG 4) yesT (opE itemD (varE 4) (cE (.int 0))))) (nmG 5)) (seqS (asgS (frzE (callL sortedD (consA (frzE (sumL (varE 2))) nilA))) (nmG 6)) (retS (andE (opE eqD (varE 5) (frzE (callL sortedD (consA (varE 5) nilA)))) (opE eqD (varE 6) (frzE (rng1I (callE lenD (consA (opE itemD (varE 0) (cE (.int 1))) nilA)))))))))))))
noncomputable def F_is_parting : List D → Sto → R D := fnF 8 b_is_parting
noncomputable def b_class_in : Sx := (retS (methL indexD (frzE (lcX (seqI (varE 0)) [2] (nmG 2) yesT (opE inD (varE 1) (varE 2)))) (consA (cE (.bool true)) nilA)))
noncomputable def F_class_in : List D → Sto → R D := fnF 3 b_class_in
noncomputable def b_law_grouped : Sx := (seqS (asgS (thwE nilA) (nmG 2)) (seqS (forS (enumI (varE 1)) (tupG 2 (consG (nmG 3) (consG (nmG 4) nilG))) (ifS (valT (opE eqD (methL indexD (varE 1) (consA (varE 4) nilA)) (varE 3))) (exprS (methL appendD (varE 2) (consA (callE tupleD (consA (frzE (lcX (zipI (varE 0) (varE 1)) [5, 6] (tupG 2 (consG (nmG 5) (consG (nmG 6) nilG))) (valT (opE eqD (varE 6) (varE 4))) (varE 5))) nilA)) nilA))) passS)) (retS (callE tupleD (consA (varE 2) nilA)))))
noncomputable def F_law_grouped : List D → Sto → R D := fnF 7 b_law_grouped
noncomputable def b_law_class : Sx := (retS (opE itemD (frzE (lcX (enumI (varE 0)) [2, 3] (tupG 2 (consG (nmG 2) (consG (nmG 3) nilG))) (valT (opE inD (varE 1) (varE 3))) (varE 2))) (cE (.int 0))))
noncomputable def F_law_class : List D → Sto → R D := fnF 4 b_law_class
noncomputable def b_is_gaps : Sx := (seqS (ifS (orT (notT (valT (op1 (isiD "tuple") (varE 2)))) (valT (opE neD (callE lenD (consA (varE 2) nilA)) (callE lenD (consA (varE 0) nilA))))) (retS (cE (.bool false))) passS) (seqS (forS (seqI (varE 2)) (nmG 3) (ifS (orT (notT (valT (op1 (isiD "tuple") (varE 3)))) (orT (valT (opE neD (callE lenD (consA (varE 3) nilA)) (callE lenD (consA (varE 1) nilA)))) (notT (valT (callE allD (consA (frzE (lcX (seqI (varE 3)) [4] (nmG 4) yesT (callE F_is_gap (consA (varE 4) nilA)))) nilA)))))) (retS (cE (.bool false))) passS)) (retS (cE (.bool true)))))
noncomputable def F_is_gaps : List D → Sto → R D := fnF 5 b_is_gaps
noncomputable def b_key_of : Sx := (seqS (ifS (orT (notT (valT (op1 (isiD "tuple") (varE 3)))) (orT (valT (opE neD (callE lenD (consA (varE 3) nilA)) (cE (.int 3)))) (notT (valT (callE F_is_gap (consA (opE itemD (varE 3) (cE (.int 2))) nilA)))))) (retS (cE .none)) passS) (seqS (parS [4, 5] (consA (callE F_place_of (consA (varE 0) (consA (opE itemD (varE 3) (cE (.int 0))) nilA))) (consA (callE F_place_of (consA (varE 0) (consA (opE itemD (varE 3) (cE (.int 1))) nilA))) nilA))) (seqS (ifS (andT (valT (opE notND (varE 4) (cE .none))) (valT (opE notND (varE 5) (cE .none)))) (retS (tupE (consA (cE (.int 0)) (consA (varE 4) (consA (varE 5) nilA))))) passS) (seqS (ifS (andT (valT (opE notND (varE 4) (cE .none))) (valT (callE F_is_from_to (consA (opE itemD (varE 3) (cE (.int 1))) (consA (cE (.int 0)) (consA (opE subD (callE lenD (consA (varE 2) nilA)) (cE (.int 1))) nilA)))))) (retS (tupE (consA (cE (.int 1)) (consA (varE 4) (consA (opE itemD (varE 3) (cE (.int 1))) nilA))))) passS) (seqS (ifS (andT (valT (opE notND (varE 5) (cE .none))) (valT (callE F_is_from_to (consA (opE itemD (varE 3) (cE (.int 0))) (consA (cE (.int 0)) (consA (opE subD (callE lenD (consA (varE 1) nilA)) (cE (.int 1))) nilA)))))) (retS (tupE (consA (cE (.int 2)) (consA (opE itemD (varE 3) (cE (.int 0))) (consA (varE 5) nilA))))) passS) (retS (cE .none)))))))
noncomputable def F_key_of : List D → Sto → R D := fnF 6 b_key_of
noncomputable def b_are_exceptions : Sx := (seqS (ifS (notT (valT (op1 (isiD "tuple") (varE 3)))) (retS (cE (.bool false))) passS) (seqS (asgS (frzE (lcX (seqI (varE 3)) [5] (nmG 5) yesT (callE F_key_of (consA (varE 0) (consA (varE 1) (consA (varE 2) (consA (varE 5) nilA))))))) (nmG 4)) (retS (andE (opE notInD (cE .none) (varE 4)) (callE allD (consA (frzE (lcX (zipI (varE 4) (frzE (sliceL (varE 4) (someP (cE (.int 1))) noP))) [5, 6] (tupG 2 (consG (nmG 5) (consG (nmG 6) nilG))) yesT (opE ltD (varE 5) (varE 6)))) nilA))))))
noncomputable def F_are_exceptions : List D → Sto → R D := fnF 7 b_are_exceptions
noncomputable def b_is_table : Sx := (seqS (ifS (orT (notT (valT (op1 (isiD "tuple") (varE 1)))) (valT (opE neD (callE lenD (consA (varE 1) nilA)) (cE (.int 4))))) (retS (cE (.bool false))) passS) (seqS (ifS (orT (notT (valT (callE F_is_parting (consA (varE 0) (consA (opE itemD (varE 1) (cE (.int 0))) nilA))))) (notT (valT (callE F_is_parting (consA (varE 0) (consA (opE itemD (varE 1) (cE (.int 1))) nilA)))))) (retS (cE (.bool false))) passS) (retS (andE (callE F_is_gaps (consA (opE itemD (varE 1) (cE (.int 0))) (consA (opE itemD (varE 1) (cE (.int 1))) (consA (opE itemD (varE 1) (cE (.int 2))) nilA)))) (callE F_are_exceptions (consA (varE 0) (consA (opE itemD (varE 1) (cE (.int 0))) (consA (opE itemD (varE 1) (cE (.int 1))) (consA (opE itemD (varE 1) (cE (.int 3))) nilA)))))))))
noncomputable def F_is_table : List D → Sto → R D := fnF 2 b_is_table
noncomputable def b_need_table : Sx := (ifS (notT (valT (callE F_is_table (consA (varE 0) (consA (varE 1) nilA))))) (raiseS "NoTable") passS)
noncomputable def F_need_table : List D → Sto → R D := fnF 2 b_need_table
noncomputable def b_told_in : Sx := (seqS (asgS (varE 0) (tupG 4 (consG (nmG 3) (consG (nmG 4) (consG (nmG 5) (consG (nmG 6) nilG)))))) (seqS (parS [7, 8] (consA (callE F_class_in (consA (varE 3) (consA (varE 1) nilA))) (consA (callE F_class_in (consA (varE 4) (consA (varE 2) nilA))) nilA))) (seqS (forS (enumI (frzE (consA (tupE (consA (varE 1) (consA (varE 2) nilA))) (consA (tupE (consA (varE 1) (consA (varE 8) nilA))) (consA (tupE (consA (varE 7) (consA (varE 2) nilA))) nilA))))) (tupG 2 (consG (nmG 9) (consG (tupG 2 (consG (nmG 10) (consG (nmG 11) nilG))) nilG))) (forS (seqI (varE 6)) (tupG 3 (consG (nmG 12) (consG (nmG 13) (consG (nmG 14) nilG)))) (ifS (andT (valT (opE eqD (varE 12) (varE 10))) (valT (opE eqD (varE 13) (varE 11)))) (retS (tupE (consA (varE 14) (consA (varE 9) nilA)))) passS))) (retS (tupE (consA (opE itemD (opE itemD (varE 5) (varE 7)) (varE 8)) (consA (cE (.int 3)) nilA)))))))
noncomputable def F_told_in : List D → Sto → R D := fnF 15 b_told_in
noncomputable def b_gap_by : Sx := (seqS (exprS (callE F_need_table (consA (varE 0) (consA (varE 1) nilA)))) (seqS (exprS (callE F_need_letter (consA (varE 0) (consA (varE 2) nilA)))) (seqS (exprS (callE F_need_letter (consA (varE 0) (consA (varE 3) nilA)))) (retS (opE itemD (callE F_told_in (consA (varE 1) (consA (varE 2) (consA (varE 3) nilA)))) (cE (.int 0)))))))
noncomputable def F_gap_by : List D → Sto → R D := fnF 4 b_gap_by
noncomputable def b_told_by : Sx := (seqS (exprS (callE F_need_table (consA (varE 0) (consA (varE 1) nilA)))) (seqS (exprS (callE F_need_letter (consA (varE 0) (consA (varE 2) nilA)))) (seqS (exprS (callE F_need_letter (consA (varE 0) (consA (varE 3) nilA)))) (retS (opE itemD (callE F_told_in (consA (varE 1) (consA (varE 2) (consA (varE 3) nilA)))) (cE (.int 1)))))))
noncomputable def F_told_by : List D → Sto → R D := fnF 4 b_told_by
noncomputable def b_law_told : Sx := (seqS (asgS (varE 0) (tupG 4 (consG (nmG 3) (consG (nmG 4) (consG (nmG 5) (consG (nmG 6) nilG)))))) (seqS (asgS (tupE (consA (callE F_law_class (consA (varE 3) (consA (varE 1) nilA))) (consA (callE F_law_class (consA (varE 4) (consA (varE 2) nilA))) nilA))) (tupG 2 (consG (nmG 7) (consG (nmG 8) nilG)))) (seqS (asgS (thwE (consA (frzE (lcX (seqI (varE 6)) [11, 12, 13] (tupG 3 (consG (nmG 11) (consG (nmG 12) (consG (nmG 13) nilG)))) (valT (opE eqD (tupE (consA (varE 11) (consA (varE 12) nilA))) (tupE (consA (varE 1) (consA (varE 2) nilA))))) (varE 13))) nilA)) (nmG 9)) (seqS (exprS (methL appendD (varE 9) (consA (frzE (lcX (seqI (varE 6)) [11, 12, 13] (tupG 3 (consG (nmG 11) (consG (nmG 12) (consG (nmG 13) nilG)))) (andT (valT (op1 (isiD "str") (varE 11))) (andT (valT (opE eqD (varE 11) (varE 1))) (valT (opE eqD (varE 12) (varE 8))))) (varE 13))) nilA))) (seqS (exprS (methL appendD (varE 9) (consA (frzE (lcX (seqI (varE 6)) [11, 12, 13] (tupG 3 (consG (nmG 11) (consG (nmG 12) (consG (nmG 13) nilG)))) (andT (valT (op1 (isiD "str") (varE 12))) (andT (valT (opE eqD (varE 11) (varE 7))) (valT (opE eqD (varE 12) (varE 2))))) (varE 13))) nilA))) (seqS (exprS (methL appendD (varE 9) (consA (frzE (consA (opE itemD (opE itemD (varE 5) (varE 7)) (varE 8)) nilA)) nilA))) (seqS (fixS 9) (seqS (asgS (methL indexD (frzE (lcX (seqI (varE 9)) [11] (nmG 11) yesT (opE neD (varE 11) (frzE nilA)))) (consA (cE (.bool true)) nilA)) (nmG 10)) (retS (tupE (consA (opE itemD (opE itemD (varE 9) (varE 10)) (cE (.int 0))) (consA (varE 10) nilA))))))))))))
noncomputable def F_law_told : List D → Sto → R D := fnF 14 b_law_told
noncomputable def b_listed : Sx := (seqS (asgS (callE F_letters_of (consA (varE 0) nilA)) (nmG 2)) (retS (callE F_from_rows (consA (varE 0) (consA (frzE (lcX (seqI (varE 2)) [3] (nmG 3) yesT (frzE (lcX (seqI (varE 2)) [4] (nmG 4) yesT (opE itemD (callE F_told_in (consA (varE 1) (consA (varE 3) (consA (varE 4) nilA)))) (cE (.int 0))))))) nilA)))))
noncomputable def F_listed : List D → Sto → R D := fnF 5 b_listed
noncomputable def b_list_by : Sx := (seqS (exprS (callE F_need_table (consA (varE 0) (consA (varE 1) nilA)))) (retS (callE F_listed (consA (varE 0) (consA (varE 1) nilA)))))
noncomputable def F_list_by : List D → Sto → R D := fnF 2 b_list_by
noncomputable def b_first_unlike : Sx := (seqS (exprS (callE F_need_table (consA (varE 0) (consA (varE 2) nilA)))) (seqS (forS (seqI (callE F_all_pairs (consA (varE 0) nilA))) (tupG 2 (consG (nmG 3) (consG (nmG 4) nilG))) (ifS (valT (opE neD (callE F_gap_in (consA (varE 1) (consA (varE 3) (consA (varE 4) nilA)))) (opE itemD (callE F_told_in (consA (varE 2) (consA (varE 3) (consA (varE 4) nilA)))) (cE (.int 0))))) (retS (tupE (consA (varE 3) (consA (varE 4) nilA)))) passS)) (retS (cE .none))))
noncomputable def F_first_unlike : List D → Sto → R D := fnF 5 b_first_unlike
noncomputable def b_number_in : Sx := (seqS (asgS (ifE (valT (opE eqD (sliceE (varE 0) noP (someP (cE (.int 1)))) (cE (.str "-")))) (sliceE (varE 0) (someP (cE (.int 1))) noP) (varE 0)) (nmG 1)) (seqS (ifS (orT (valT (opE eqD (varE 1) (cE (.str "")))) (orT (valT (opE (cmpI fun i j => decide (j < i)) (callE lenD (consA (varE 1) nilA)) (cE (.int 20)))) (notT (valT (callE allD (consA (frzE (lcX (txtI (varE 1)) [2] (nmG 2) yesT (opE inD (varE 2) (cE (.str "0123456789"))))) nilA)))))) (retS (cE .none)) passS) (seqS (ifS (valT (opE neD (callE strD (consA (callE intX (consA (varE 0) nilA)) nilA)) (varE 0))) (retS (cE .none)) passS) (retS (callE intX (consA (varE 0) nilA))))))
noncomputable def F_number_in : List D → Sto → R D := fnF 3 b_number_in
noncomputable def b_side_text : Sx := (seqS (ifS (valT (op1 (isiD "str") (varE 0))) (retS (varE 0)) passS) (retS (opE addD (cE (.str "@")) (callE strD (consA (varE 0) nilA)))))
noncomputable def F_side_text : List D → Sto → R D := fnF 1 b_side_text
noncomputable def b_parting_text : Sx := (retS (methS joinD (cE (.str " ")) (consA (frzE (lcX (seqI (varE 0)) [1] (nmG 1) yesT (methS joinD (cE (.str "")) (consA (varE 1) nilA)))) nilA)))
noncomputable def F_parting_text : List D → Sto → R D := fnF 2 b_parting_text
noncomputable def b_exceptions_text : Sx := (seqS (ifS (valT (opE eqD (varE 0) (tupE nilA))) (retS (cE (.str "-"))) passS) (retS (methS joinD (cE (.str " ; ")) (consA (frzE (lcX (seqI (varE 0)) [1, 2, 3] (tupG 3 (consG (nmG 1) (consG (nmG 2) (consG (nmG 3) nilG)))) yesT (opE addD (opE addD (opE addD (callE F_side_text (consA (varE 1) nilA)) (callE F_side_text (consA (varE 2) nilA))) (cE (.str " "))) (callE strD (consA (varE 3) nilA))))) nilA))))
noncomputable def F_exceptions_text : List D → Sto → R D := fnF 4 b_exceptions_text
noncomputable def b_text_of : Sx := (seqS (asgS (varE 0) (tupG 4 (consG (nmG 1) (consG (nmG 2) (consG (nmG 3) (consG (nmG 4) nilG)))))) (seqS (asgS (methS joinD (cE (.str " , ")) (consA (frzE (lcX (seqI (varE 3)) [6] (nmG 6) yesT (methS joinD (cE (.str " ")) (consA (frzE (lcX (seqI (varE 6)) [7] (nmG 7) yesT (callE strD (consA (varE 7) nilA)))) nilA)))) nilA)) (nmG 5)) (retS (methS joinD (cE (.str " / ")) (consA (frzE (consA (callE F_parting_text (consA (varE 1) nilA)) (consA (callE F_parting_text (consA (varE 2) nilA)) (consA (varE 5) (consA (callE F_exceptions_text (consA (varE 4) nilA)) nilA))))) nilA)))))
noncomputable def F_text_of : List D → Sto → R D := fnF 8 b_text_of
noncomputable def b_table_text : Sx := (seqS (exprS (callE F_need_table (consA (varE 0) (consA (varE 1) nilA)))) (retS (callE F_text_of (consA (varE 1) nilA))))
noncomputable def F_table_text : List D → Sto → R D := fnF 2 b_table_text
noncomputable def b_sides_in : Sx := (seqS (ifS (valT (opE eqD (sliceE (varE 0) noP (someP (cE (.int 1)))) (cE (.str "@")))) (retS (tupE (consA (callE F_number_in (consA (sliceE (varE 0) (someP (cE (.int 1))) (someP (cE (.int 2)))) nilA)) (consA (sliceE (varE 0) (someP (cE (.int 2))) noP) nilA)))) passS) (seqS (ifS (valT (opE eqD (sliceE (varE 0) (someP (cE (.int 1))) (someP (cE (.int 2)))) (cE (.str "@")))) (retS (tupE (consA (sliceE (varE 0) noP (someP (cE (.int 1)))) (consA (callE F_number_in (consA (sliceE (varE 0) (someP (cE (.int 2))) noP) nilA)) nilA)))) passS) (retS (tupE (consA (sliceE (varE 0) noP (someP (cE (.int 1)))) (consA (sliceE (varE 0) (someP (cE (.int 1))) noP) nilA))))))
noncomputable def F_sides_in : List D → Sto → R D := fnF 1 b_sides_in
noncomputable def b_exceptions_by : Sx := (seqS (ifS (valT (opE eqD (varE 0) (cE (.str "-")))) (retS (tupE nilA)) passS) (seqS (asgS (thwE nilA) (nmG 1)) (seqS (forS (seqI (frzE (methSL splitD (varE 0) (consA (cE (.str " ; ")) nilA)))) (nmG 2) (seqS (asgS (methS partitionD (varE 2) (consA (cE (.str " ")) nilA)) (tupG 3 (consG (nmG 3) (consG (nmG 4) (consG (nmG 5) nilG))))) (seqS (asgS (callE F_sides_in (consA (varE 3) nilA)) (tupG 2 (consG (nmG 6) (consG (nmG 7) nilG)))) (exprS (methL appendD (varE 1) (consA (tupE (consA (varE 6) (consA (varE 7) (consA (callE F_number_in (consA (varE 5) nilA)) nilA)))) nilA)))))) (retS (callE tupleD (consA (varE 1) nilA))))))
noncomputable def F_exceptions_by : List D → Sto → R D := fnF 8 b_exceptions_by
noncomputable def b_parting_by : Sx := (retS (callE tupleD (consA (frzE (lcX (seqI (frzE (methSL splitD (varE 0) (consA (cE (.str " ")) nilA)))) [1] (nmG 1) yesT (callE tupleD (consA (frzE (callL listD (consA (varE 1) nilA))) nilA)))) nilA)))
noncomputable def F_parting_by : List D → Sto → R D := fnF 2 b_parting_by
noncomputable def b_table_read : Sx := (seqS (ifS (valT (op1 (isiD "str") (varE 1))) (seqS (asgS (frzE (methSL splitD (varE 1) (consA (cE (.str " / ")) nilA))) (nmG 2)) (ifS (valT (opE eqD (callE lenD (consA (varE 2) nilA)) (cE (.int 4)))) (seqS (asgS (callE tupleD (consA (frzE (lcX (seqI (frzE (methSL splitD (opE itemD (varE 2) (cE (.int 2))) (consA (cE (.str " , ")) nilA)))) [5] (nmG 5) yesT (callE tupleD (consA (frzE (lcX (seqI (frzE (methSL splitD (varE 5) (consA (cE (.str " ")) nilA)))) [6] (nmG 6) yesT (callE F_number_in (consA (varE 6) nilA)))) nilA)))) nilA)) (nmG 3)) (seqS (asgS (tupE (consA (callE F_parting_by (consA (opE itemD (varE 2) (cE (.int 0))) nilA)) (consA (callE F_parting_by (consA (opE itemD (varE 2) (cE (.int 1))) nilA)) (consA (varE 3) (consA (callE F_exceptions_by (consA (opE itemD (varE 2) (cE (.int 3))) nilA)) nilA))))) (nmG 4)) (ifS (andT (valT (callE F_is_table (consA (varE 0) (consA (varE 4) nilA)))) (valT (opE eqD (callE F_text_of (consA (varE 4) nilA)) (varE 1)))) (retS (varE 4)) passS))) passS)) passS) (raiseS "NoText"))
noncomputable def F_table_read : List D → Sto → R D := fnF 7 b_table_read
noncomputable def b_law_list_v1 : Sx := (seqS (asgS (callE F_law_letters (consA (varE 0) nilA)) (nmG 2)) (seqS (asgS (thwE nilA) (nmG 3)) (seqS (forZ (varE 2) (varE 1) (consG (nmG 4) (consG (nmG 5) nilG)) (forZ (varE 2) (varE 5) (consG (nmG 6) (consG (nmG 7) nilG)) (ifS (valT (opE neD (varE 7) (cE (.int 0)))) (exprS (methL appendD (varE 3) (consA (tupE (consA (varE 4) (consA (varE 6) (consA (varE 7) nilA)))) nilA))) passS))) (retS (callE tupleD (consA (varE 3) nilA))))))
noncomputable def F_law_list_v1 : List D → Sto → R D := fnF 8 b_law_list_v1
noncomputable def b_law_side_text : Sx := (retS (ifE (valT (op1 (isiD "str") (varE 0))) (varE 0) (opE addD (cE (.str "@")) (callE strD (consA (varE 0) nilA)))))
noncomputable def F_law_side_text : List D → Sto → R D := fnF 1 b_law_side_text
noncomputable def b_law_table_text : Sx := (seqS (asgS (thwE (lcX (seqI (sliceE (varE 0) noP (someP (cE (.int 2))))) [3] (nmG 3) yesT (methS joinD (cE (.str " ")) (consA (frzE (lcX (seqI (varE 3)) [4] (nmG 4) yesT (methS joinD (cE (.str "")) (consA (varE 4) nilA)))) nilA)))) (nmG 1)) (seqS (exprS (methL appendD (varE 1) (consA (methS joinD (cE (.str " , ")) (consA (frzE (lcX (seqI (opE itemD (varE 0) (cE (.int 2)))) [5] (nmG 5) yesT (methS joinD (cE (.str " ")) (consA (frzE (lcX (seqI (varE 5)) [6] (nmG 6) yesT (callE strD (consA (varE 6) nilA)))) nilA)))) nilA)) nilA))) (seqS (asgS (frzE (lcX (seqI (opE itemD (varE 0) (cE (.int 3)))) [4, 7, 6] (tupG 3 (consG (nmG 4) (consG (nmG 7) (consG (nmG 6) nilG)))) yesT (opE addD (opE addD (opE addD (callE F_law_side_text (consA (varE 4) nilA)) (callE F_law_side_text (consA (varE 7) nilA))) (cE (.str " "))) (callE strD (consA (varE 6) nilA))))) (nmG 2)) (seqS (fixS 1) (retS (methS joinD (cE (.str " / ")) (consA (opE addD (varE 1) (frzE (consA (orS (methS joinD (cE (.str " ; ")) (consA (varE 2) nilA)) (cE (.str "-"))) nilA))) nilA)))))))
noncomputable def F_law_table_text : List D → Sto → R D := fnF 8 b_law_table_text
noncomputable def b_law_fine : Sx := (seqS (asgS (thwE nilA) (nmG 2)) (seqS (forS (rng1I (callE lenD (consA (varE 1) nilA))) (nmG 3) (exprS (methL appendD (varE 2) (consA (opE itemD (frzE (consA (varE 3) (consA (callE F_law_take (consA (varE 0) (consA (opE addD (varE 3) (cE (.int 1))) nilA))) nilA))) (opE fdivD (callE F_law_take (consA (varE 0) (consA (cE (.int 6)) nilA))) (cE (.int 5)))) nilA)))) (seqS (fixS 2) (retS (callE F_law_grouped (consA (varE 1) (consA (varE 2) nilA)))))))
noncomputable def F_law_fine : List D → Sto → R D := fnF 4 b_law_fine
noncomputable def b_law_few : Sx := (seqS (asgS (thwE nilA) (nmG 3)) (seqS (forS (rng1I (cE (.int 3))) (nmG 4) (seqS (asgS (opE itemD (frzE (consA (varE 1) (consA (varE 1) (consA (frzE (rng1I (callE lenD (consA (opE itemD (varE 2) (cE (.int 0))) nilA)))) nilA)))) (varE 4)) (nmG 5)) (seqS (asgS (opE itemD (frzE (consA (varE 1) (consA (frzE (rng1I (callE lenD (consA (opE itemD (varE 2) (cE (.int 1))) nilA)))) (consA (varE 1) nilA)))) (varE 4)) (nmG 6)) (forS (seqI (varE 5)) (nmG 7) (forS (seqI (varE 6)) (nmG 8) (seqS (asgS (opE inD (tupE (consA (varE 7) (consA (varE 8) nilA))) (frzE (consA (tupE (consA (opE subD (callE lenD (consA (opE itemD (varE 2) (cE (.int 0))) nilA)) (cE (.int 1))) (consA (opE itemD (varE 1) (cE (.int 0))) nilA))) (consA (tupE (consA (opE itemD (varE 1) (op1 negD (cE (.int 1)))) (consA (opE subD (callE lenD (consA (opE itemD (varE 2) (cE (.int 1))) nilA)) (cE (.int 1))) nilA))) nilA)))) (nmG 9)) (ifS (orT (valT (varE 9)) (valT (opE eqD (callE F_law_take (consA (varE 0) (consA (cE (.int 24)) nilA))) (cE (.int 0))))) (exprS (methL appendD (varE 3) (consA (tupE (consA (varE 7) (consA (varE 8) (consA (opE subD (callE F_law_take (consA (varE 0) (consA (cE (.int 19)) nilA))) (cE (.int 9))) nilA)))) nilA))) passS))))))) (retS (callE tupleD (consA (varE 3) nilA)))))
noncomputable def F_law_few : List D → Sto → R D := fnF 10 b_law_few
noncomputable def b_law_gaps_right : Sx := (seqS (asgS (callE F_law_letters (consA (varE 0) nilA)) (nmG 2)) (seqS (forS (seqI (varE 2)) (nmG 3) (seqS (asgS (frzE (lcX (seqI (varE 2)) [5] (nmG 5) yesT (callE F_law_told (consA (varE 1) (consA (varE 3) (consA (varE 5) nilA)))))) (nmG 4)) (seqS (ifS (valT (opE neD (callE reprD (consA (frzE (lcX (seqI (varE 2)) [5] (nmG 5) yesT (callE F_gap_by (consA (varE 0) (consA (varE 1) (consA (varE 3) (consA (varE 5) nilA))))))) nilA)) (callE reprD (consA (frzE (lcX (seqI (varE 4)) [6] (nmG 6) yesT (opE itemD (varE 6) (cE (.int 0))))) nilA)))) (retS (cE (.bool false))) passS) (ifS (valT (opE neD (callE reprD (consA (frzE (lcX (seqI (varE 2)) [5] (nmG 5) yesT (callE F_told_by (consA (varE 0) (consA (varE 1) (consA (varE 3) (consA (varE 5) nilA))))))) nilA)) (callE reprD (consA (frzE (lcX (seqI (varE 4)) [6] (nmG 6) yesT (opE itemD (varE 6) (cE (.int 1))))) nilA)))) (retS (cE (.bool false))) passS)))) (retS (cE (.bool true)))))
noncomputable def F_law_gaps_right : List D → Sto → R D := fnF 7 b_law_gaps_right
noncomputable def b_law_list_right : Sx := (seqS (asgS (callE F_law_letters (consA (varE 1) nilA)) (nmG 3)) (seqS (asgS (thwE (lcX (seqI (varE 3)) [8] (nmG 8) yesT (thwE (lcX (seqI (varE 3)) [9] (nmG 9) yesT (opE itemD (callE F_law_told (consA (varE 2) (consA (varE 8) (consA (varE 9) nilA)))) (cE (.int 0))))))) (nmG 4)) (seqS (asgS (callE F_law_list_v1 (consA (varE 1) (consA (varE 4) nilA))) (nmG 5)) (seqS (ifS (orT (valT (opE neD (callE reprD (consA (callE F_list_by (consA (varE 1) (consA (varE 2) nilA))) nilA)) (callE reprD (consA (varE 5) nilA)))) (valT (opE notND (callE F_first_unlike (consA (varE 1) (consA (varE 5) (consA (varE 2) nilA)))) (cE .none)))) (retS (cE (.bool false))) passS) (seqS (parS [6, 7] (consA (callE F_law_take (consA (varE 0) (consA (callE lenD (consA (varE 3) nilA)) nilA))) (consA (callE F_law_take (consA (varE 0) (consA (callE lenD (consA (varE 3) nilA)) nilA))) nilA))) (seqS (asgS (opE addD (cE (.int 5)) (callE intD (consA (opE eqD (opE itemD (opE itemD (varE 4) (varE 6)) (varE 7)) (cE (.int 5))) nilA))) (ixG (opE itemD (varE 4) (varE 6)) (varE 7))) (retS (opE eqD (callE reprD (consA (callE F_first_unlike (consA (varE 1) (consA (callE F_law_list_v1 (consA (varE 1) (consA (varE 4) nilA))) (consA (varE 2) nilA)))) nilA)) (callE reprD (consA (tupE (consA (opE itemD (varE 3) (varE 6)) (consA (opE itemD (varE 3) (varE 7)) nilA))) nilA))))))))))
noncomputable def F_law_list_right : List D → Sto → R D := fnF 10 b_law_list_right
end DV

set_option maxHeartbeats 4000000
namespace DV.k28
open PySem PySem.Spec PyProof.Rows L2 DV
noncomputable def q_law_0 : Sx := (ifS (valT (opE notBD (callE F_is_table (consA (varE 3) (consA (varE 8) nilA))) (cE (.bool true)))) (retS (cE (.bool false))) passS)
noncomputable def q_law_1 : Sx := (ifS (valT (opE notBD (callE F_is_table (consA (varE 3) (consA (opE addD (sliceE (varE 8) noP (someP (cE (.int 3)))) (tupE (consA (tupE (consA (varE 9) nilA)) nilA))) nilA))) (cE (.bool false)))) (retS (cE (.bool false))) passS)
noncomputable def q_law_2 : Sx := (forS (seqI (frzE (consA (tupE (consA (opE itemD (varE 4) (cE (.int 0))) (consA (callE lenD (consA (varE 6) nilA)) (consA (cE (.int 1)) nilA)))) (consA (tupE (consA (callE lenD (consA (varE 5) nilA)) (consA (opE itemD (varE 4) (cE (.int 0))) (consA (cE (.int 1)) nilA)))) nilA)))) (nmG 9) q_law_1)
noncomputable def q_law_3 : Sx := (ifS (orT (notT (valT (callE F_law_gaps_right (consA (varE 3) (consA (varE 8) nilA))))) (notT (valT (callE F_law_list_right (consA (varE 2) (consA (varE 3) (consA (varE 8) nilA))))))) (retS (cE (.bool false))) passS)
noncomputable def q_law_4 : Sx := (ifS (valT (opE neD (callE reprD (consA (callE F_table_text (consA (varE 3) (consA (varE 8) nilA))) nilA)) (callE reprD (consA (varE 10) nilA)))) (retS (cE (.bool false))) passS)
noncomputable def q_law_5 : Sx := (ifS (andT (valT (opE ltD (callE lenD (consA (varE 10) nilA)) (cE (.int 1001)))) (valT (opE neD (callE reprD (consA (callE F_table_read (consA (varE 3) (consA (varE 10) nilA))) nilA)) (callE reprD (consA (varE 8) nilA))))) (retS (cE (.bool false))) passS)
noncomputable def q_law_6 : Sx := (forS (rng1I (callE max2D (consA (cE (.int 1)) (consA (callE min2D (consA (callE lenD (consA (varE 0) nilA)) (consA (cE (.int 2)) nilA))) nilA)))) (nmG 1) (seqS (asgS (callE F_law_box (consA (varE 0) (consA (varE 1) nilA))) (nmG 2)) (seqS (asgS (callE F_law_face (consA (varE 2) (consA (cE (.int 8)) (consA (cE (.int 10)) nilA)))) (nmG 3)) (seqS (asgS (callE F_law_letters (consA (varE 3) nilA)) (nmG 4)) (seqS (asgS (tupE (consA (callE F_law_fine (consA (varE 2) (consA (varE 4) nilA))) (consA (callE F_law_fine (consA (varE 2) (consA (varE 4) nilA))) nilA))) (tupG 2 (consG (nmG 5) (consG (nmG 6) nilG)))) (seqS (asgS (callE tupleD (consA (frzE (lcX (seqI (varE 5)) [11] (nmG 11) yesT (callE tupleD (consA (frzE (lcX (seqI (varE 6)) [12] (nmG 12) yesT (opE subD (callE F_law_take (consA (varE 2) (consA (cE (.int 19)) nilA))) (cE (.int 9))))) nilA)))) nilA)) (nmG 7)) (seqS (asgS (tupE (consA (varE 5) (consA (varE 6) (consA (varE 7) (consA (callE F_law_few (consA (varE 2) (consA (varE 4) (consA (tupE (consA (varE 5) (consA (varE 6) nilA))) nilA)))) nilA))))) (nmG 8)) (seqS q_law_0 (seqS q_law_2 (seqS q_law_3 (seqS (asgS (callE F_law_table_text (consA (varE 8) nilA)) (nmG 10)) (seqS q_law_4 q_law_5))))))))))))
noncomputable def b_law : Sx := (seqS q_law_6 (retS (cE (.bool true))))
noncomputable def F_law : List D → Sto → R D := fnF 13 b_law
end DV.k28

set_option maxHeartbeats 4000000
namespace DV.k28
open PySem PySem.Spec PyProof.Rows L2 DV
def topS (i : Nat) : Stmt := PySem.Challenge.pw_stampgaps_k28_tables_of_many_classes.main.body.getD i (.Pass ⟨0, 0, 0, 0⟩)
abbrev s_is_from_to : Stmt := topS 7
theorem sc_is_from_to : FnScope ["thing", "least", "most"] ["thing", "least", "most"] (defScope s_is_from_to) := ⟨rfl, rfl, rfl, by decide +kernel, rfl, by decide +kernel, by decide +kernel⟩
abbrev s_is_gap : Stmt := topS 8
theorem sc_is_gap : FnScope ["thing"] ["thing"] (defScope s_is_gap) := ⟨rfl, rfl, rfl, by decide +kernel, rfl, by decide +kernel, by decide +kernel⟩
abbrev s_letters_of : Stmt := topS 9
theorem sc_letters_of : FnScope ["face", "one"] ["face"] (defScope s_letters_of) := ⟨rfl, rfl, rfl, by decide +kernel, rfl, by decide +kernel, by decide +kernel⟩
abbrev s_place_of : Stmt := topS 10
theorem sc_place_of : FnScope ["face", "thing", "place", "one"] ["face", "thing"] (defScope s_place_of) := ⟨rfl, rfl, rfl, by decide +kernel, rfl, by decide +kernel, by decide +kernel⟩
abbrev s_need_letter : Stmt := topS 11
theorem sc_need_letter : FnScope ["face", "thing", "place"] ["face", "thing"] (defScope s_need_letter) := ⟨rfl, rfl, rfl, by decide +kernel, rfl, by decide +kernel, by decide +kernel⟩
abbrev s_gap_in : Stmt := topS 12
theorem sc_gap_in : FnScope ["pairs", "left", "right", "one", "other", "gap"] ["pairs", "left", "right"] (defScope s_gap_in) := ⟨rfl, rfl, rfl, by decide +kernel, rfl, by decide +kernel, by decide +kernel⟩
abbrev s_from_rows : Stmt := topS 13
theorem sc_from_rows : FnScope ["face", "rows", "letters", "found", "left", "row", "right", "gap"] ["face", "rows"] (defScope s_from_rows) := ⟨rfl, rfl, rfl, by decide +kernel, rfl, by decide +kernel, by decide +kernel⟩
abbrev s_all_pairs : Stmt := topS 14
theorem sc_all_pairs : FnScope ["face", "found", "left", "right"] ["face"] (defScope s_all_pairs) := ⟨rfl, rfl, rfl, by decide +kernel, rfl, by decide +kernel, by decide +kernel⟩
abbrev s_is_parting : Stmt := topS 16
theorem sc_is_parting : FnScope ["face", "thing", "places", "one", "here", "firsts", "together", "letter"] ["face", "thing"] (defScope s_is_parting) := ⟨rfl, rfl, rfl, by decide +kernel, rfl, by decide +kernel, by decide +kernel⟩
abbrev s_class_in : Stmt := topS 17
theorem sc_class_in : FnScope ["parting", "letter", "one"] ["parting", "letter"] (defScope s_class_in) := ⟨rfl, rfl, rfl, by decide +kernel, rfl, by decide +kernel, by decide +kernel⟩
abbrev s_is_gaps : Stmt := topS 18
theorem sc_is_gaps : FnScope ["lefts", "rights", "thing", "row", "gap"] ["lefts", "rights", "thing"] (defScope s_is_gaps) := ⟨rfl, rfl, rfl, by decide +kernel, rfl, by decide +kernel, by decide +kernel⟩
abbrev s_key_of : Stmt := topS 19
theorem sc_key_of : FnScope ["face", "lefts", "rights", "one", "left", "right"] ["face", "lefts", "rights", "one"] (defScope s_key_of) := ⟨rfl, rfl, rfl, by decide +kernel, rfl, by decide +kernel, by decide +kernel⟩
abbrev s_are_exceptions : Stmt := topS 20
theorem sc_are_exceptions : FnScope ["face", "lefts", "rights", "thing", "keys", "one", "other"] ["face", "lefts", "rights", "thing"] (defScope s_are_exceptions) := ⟨rfl, rfl, rfl, by decide +kernel, rfl, by decide +kernel, by decide +kernel⟩
abbrev s_is_table : Stmt := topS 21
theorem sc_is_table : FnScope ["face", "thing"] ["face", "thing"] (defScope s_is_table) := ⟨rfl, rfl, rfl, by decide +kernel, rfl, by decide +kernel, by decide +kernel⟩
abbrev s_need_table : Stmt := topS 22
theorem sc_need_table : FnScope ["face", "thing"] ["face", "thing"] (defScope s_need_table) := ⟨rfl, rfl, rfl, by decide +kernel, rfl, by decide +kernel, by decide +kernel⟩
abbrev s_told_in : Stmt := topS 23
theorem sc_told_in : FnScope ["table", "left", "right", "lefts", "rights", "gaps", "exceptions", "first", "second", "number", "one", "other", "here", "there", "gap"] ["table", "left", "right"] (defScope s_told_in) := ⟨rfl, rfl, rfl, by decide +kernel, rfl, by decide +kernel, by decide +kernel⟩
abbrev s_gap_by : Stmt := topS 24
theorem sc_gap_by : FnScope ["face", "table", "left", "right"] ["face", "table", "left", "right"] (defScope s_gap_by) := ⟨rfl, rfl, rfl, by decide +kernel, rfl, by decide +kernel, by decide +kernel⟩
abbrev s_told_by : Stmt := topS 25
theorem sc_told_by : FnScope ["face", "table", "left", "right"] ["face", "table", "left", "right"] (defScope s_told_by) := ⟨rfl, rfl, rfl, by decide +kernel, rfl, by decide +kernel, by decide +kernel⟩
abbrev s_listed : Stmt := topS 26
theorem sc_listed : FnScope ["face", "table", "letters", "left", "right"] ["face", "table"] (defScope s_listed) := ⟨rfl, rfl, rfl, by decide +kernel, rfl, by decide +kernel, by decide +kernel⟩
abbrev s_list_by : Stmt := topS 27
theorem sc_list_by : FnScope ["face", "table"] ["face", "table"] (defScope s_list_by) := ⟨rfl, rfl, rfl, by decide +kernel, rfl, by decide +kernel, by decide +kernel⟩
abbrev s_first_unlike : Stmt := topS 28
theorem sc_first_unlike : FnScope ["face", "pairs", "table", "left", "right"] ["face", "pairs", "table"] (defScope s_first_unlike) := ⟨rfl, rfl, rfl, by decide +kernel, rfl, by decide +kernel, by decide +kernel⟩
abbrev s_number_in : Stmt := topS 31
theorem sc_number_in : FnScope ["word", "figures", "sign"] ["word"] (defScope s_number_in) := ⟨rfl, rfl, rfl, by decide +kernel, rfl, by decide +kernel, by decide +kernel⟩
abbrev s_side_text : Stmt := topS 32
theorem sc_side_text : FnScope ["side"] ["side"] (defScope s_side_text) := ⟨rfl, rfl, rfl, by decide +kernel, rfl, by decide +kernel, by decide +kernel⟩
abbrev s_parting_text : Stmt := topS 33
theorem sc_parting_text : FnScope ["parting", "one"] ["parting"] (defScope s_parting_text) := ⟨rfl, rfl, rfl, by decide +kernel, rfl, by decide +kernel, by decide +kernel⟩
abbrev s_exceptions_text : Stmt := topS 34
theorem sc_exceptions_text : FnScope ["exceptions", "left", "right", "gap"] ["exceptions"] (defScope s_exceptions_text) := ⟨rfl, rfl, rfl, by decide +kernel, rfl, by decide +kernel, by decide +kernel⟩
abbrev s_text_of : Stmt := topS 35
theorem sc_text_of : FnScope ["table", "lefts", "rights", "gaps", "exceptions", "rows", "row", "gap"] ["table"] (defScope s_text_of) := ⟨rfl, rfl, rfl, by decide +kernel, rfl, by decide +kernel, by decide +kernel⟩
abbrev s_table_text : Stmt := topS 36
theorem sc_table_text : FnScope ["face", "table"] ["face", "table"] (defScope s_table_text) := ⟨rfl, rfl, rfl, by decide +kernel, rfl, by decide +kernel, by decide +kernel⟩
abbrev s_sides_in : Stmt := topS 37
theorem sc_sides_in : FnScope ["word"] ["word"] (defScope s_sides_in) := ⟨rfl, rfl, rfl, by decide +kernel, rfl, by decide +kernel, by decide +kernel⟩
abbrev s_exceptions_by : Stmt := topS 38
theorem sc_exceptions_by : FnScope ["text", "found", "word", "sides", "blank", "gap", "left", "right"] ["text"] (defScope s_exceptions_by) := ⟨rfl, rfl, rfl, by decide +kernel, rfl, by decide +kernel, by decide +kernel⟩
abbrev s_parting_by : Stmt := topS 39
theorem sc_parting_by : FnScope ["text", "word"] ["text"] (defScope s_parting_by) := ⟨rfl, rfl, rfl, by decide +kernel, rfl, by decide +kernel, by decide +kernel⟩
abbrev s_table_read : Stmt := topS 40
theorem sc_table_read : FnScope ["face", "text", "words", "gaps", "found", "row", "gap"] ["face", "text"] (defScope s_table_read) := ⟨rfl, rfl, rfl, by decide +kernel, rfl, by decide +kernel, by decide +kernel⟩
abbrev s_law_box : Stmt := topS 42
theorem sc_law_box : FnScope ["_law_script", "_law_k", "_law_cell"] ["_law_script", "_law_k"] (defScope s_law_box) := ⟨rfl, rfl, rfl, by decide +kernel, rfl, by decide +kernel, by decide +kernel⟩
abbrev s_law_take : Stmt := topS 43
theorem sc_law_take : FnScope ["_law_box_here", "_law_many", "_law_digit", "_law_high"] ["_law_box_here", "_law_many"] (defScope s_law_take) := ⟨rfl, rfl, rfl, by decide +kernel, rfl, by decide +kernel, by decide +kernel⟩
abbrev s_law_face : Stmt := topS 44
theorem sc_law_face : FnScope ["_law_box_here", "_law_least", "_law_most", "_law_pool", "_law_many", "_law_letters_here", "_law_turn"] ["_law_box_here", "_law_least", "_law_most"] (defScope s_law_face) := ⟨rfl, rfl, rfl, by decide +kernel, rfl, by decide +kernel, by decide +kernel⟩
abbrev s_law_letters : Stmt := topS 45
theorem sc_law_letters : FnScope ["_law_face_here", "_law_one"] ["_law_face_here"] (defScope s_law_letters) := ⟨rfl, rfl, rfl, by decide +kernel, rfl, by decide +kernel, by decide +kernel⟩
abbrev s_law_list : Stmt := topS 46
theorem sc_law_list : FnScope ["_law_face_here", "_law_rows", "_law_letters_here", "_law_found", "_law_left", "_law_row", "_law_right", "_law_gap"] ["_law_face_here", "_law_rows"] (defScope s_law_list) := ⟨rfl, rfl, rfl, by decide +kernel, rfl, by decide +kernel, by decide +kernel⟩
abbrev s_law_grouped : Stmt := topS 47
theorem sc_law_grouped : FnScope ["_law_letters_here", "_law_marks", "_law_found", "_law_place", "_law_mark", "_law_letter", "_law_own"] ["_law_letters_here", "_law_marks"] (defScope s_law_grouped) := ⟨rfl, rfl, rfl, by decide +kernel, rfl, by decide +kernel, by decide +kernel⟩
abbrev s_law_class : Stmt := topS 48
theorem sc_law_class : FnScope ["_law_parting", "_law_letter", "_law_number", "_law_one"] ["_law_parting", "_law_letter"] (defScope s_law_class) := ⟨rfl, rfl, rfl, by decide +kernel, rfl, by decide +kernel, by decide +kernel⟩
abbrev s_law_told : Stmt := topS 49
theorem sc_law_told : FnScope ["_law_table", "_law_left", "_law_right", "_law_lefts", "_law_rights", "_law_gaps", "_law_exceptions", "_law_first", "_law_second", "_law_met", "_law_by", "_law_one", "_law_other", "_law_gap"] ["_law_table", "_law_left", "_law_right"] (defScope s_law_told) := ⟨rfl, rfl, rfl, by decide +kernel, rfl, by decide +kernel, by decide +kernel⟩
abbrev s_law_side_text : Stmt := topS 50
theorem sc_law_side_text : FnScope ["_law_side"] ["_law_side"] (defScope s_law_side_text) := ⟨rfl, rfl, rfl, by decide +kernel, rfl, by decide +kernel, by decide +kernel⟩
abbrev s_law_table_text : Stmt := topS 51
theorem sc_law_table_text : FnScope ["_law_table", "_law_words", "_law_some", "_law_parting", "_law_one", "_law_row", "_law_gap", "_law_other"] ["_law_table"] (defScope s_law_table_text) := ⟨rfl, rfl, rfl, by decide +kernel, rfl, by decide +kernel, by decide +kernel⟩
abbrev s_law_fine : Stmt := topS 52
theorem sc_law_fine : FnScope ["_law_box_here", "_law_letters_here", "_law_marks", "_law_place"] ["_law_box_here", "_law_letters_here"] (defScope s_law_fine) := ⟨rfl, rfl, rfl, by decide +kernel, rfl, by decide +kernel, by decide +kernel⟩
abbrev s_law_few : Stmt := topS 53
theorem sc_law_few : FnScope ["_law_box_here", "_law_letters_here", "_law_sides", "_law_found", "_law_kind", "_law_firsts", "_law_seconds", "_law_one", "_law_other", "_law_last"] ["_law_box_here", "_law_letters_here", "_law_sides"] (defScope s_law_few) := ⟨rfl, rfl, rfl, by decide +kernel, rfl, by decide +kernel, by decide +kernel⟩
abbrev s_law_gaps_right : Stmt := topS 54
theorem sc_law_gaps_right : FnScope ["_law_face_here", "_law_table", "_law_letters_here", "_law_left", "_law_told_here", "_law_right", "_law_one"] ["_law_face_here", "_law_table"] (defScope s_law_gaps_right) := ⟨rfl, rfl, rfl, by decide +kernel, rfl, by decide +kernel, by decide +kernel⟩
abbrev s_law_list_right : Stmt := topS 55
theorem sc_law_list_right : FnScope ["_law_box_here", "_law_face_here", "_law_table", "_law_letters_here", "_law_rows", "_law_own", "_law_one", "_law_other", "_law_left", "_law_right"] ["_law_box_here", "_law_face_here", "_law_table"] (defScope s_law_list_right) := ⟨rfl, rfl, rfl, by decide +kernel, rfl, by decide +kernel, by decide +kernel⟩
abbrev s_law : Stmt := topS 56
theorem sc_law : FnScope ["_law_script", "_law_k", "_law_box_here", "_law_face_here", "_law_letters_here", "_law_lefts", "_law_rights", "_law_gaps", "_law_table", "_law_beyond", "_law_text", "_law_left", "_law_right"] ["_law_script"] (defScope s_law) := ⟨rfl, rfl, rfl, by decide +kernel, rfl, by decide +kernel, by decide +kernel⟩
section
variable {P : Program} {w : World} {K : PySem.W.Frag} {mg : Str → Option Value} {base : Heap}
theorem ok_is_from_to {f : Addr} {fd : FuncData} (F0 : L2.Fun K "is_from_to" "is_from_to" s_is_from_to f fd) (m_isinstance : mg "isinstance" = none) (m_int : mg "int" = none) (m_bool : mg "bool" = none) : FnD P w K mg base 1 f fd ["thing", "least", "most"] F_is_from_to :=
  dfn F0 sc_is_from_to (fun _ _ _ _ _ _ o => (dss_one (ds_ret (de_and (de_isi (T := "int") m_isinstance m_int (de_var 0)) (de_and (de_not (de_isi (T := "bool") m_isinstance m_bool (de_var 0))) (de_one (de_chain do_le do_le (de_var 1) (de_var 0) (de_var 2))))))))
theorem ok_is_gap {f : Addr} {fd : FuncData} (F0 : L2.Fun K "is_gap" "is_gap" s_is_gap f fd) {f_is_from_to : Addr} {fd_is_from_to : FuncData} (G_is_from_to : FnD P w K mg base 1 f_is_from_to fd_is_from_to ["thing", "least", "most"] F_is_from_to) (A_is_from_to : At K mg "is_from_to" f_is_from_to fd_is_from_to ["thing", "least", "most"]) {t_FAR : Tok} (c_FAR : mg "FAR" = some (.int 9 t_FAR)) : FnD P w K mg base 2 f fd ["thing"] F_is_gap :=
  dfn F0 sc_is_gap (fun _ _ _ _ _ _ o => (dss_one (ds_ret (de_call o G_is_from_to A_is_from_to (by decide) (da_cons (de_var 0) (da_cons (de_bin do_sub de_int (de_gint c_FAR)) (da_cons (de_gint c_FAR) da_nil)))))))
theorem ok_letters_of {f : Addr} {fd : FuncData} (F0 : L2.Fun K "letters_of" "letters_of" s_letters_of f fd) (m_tuple : mg "tuple" = none) : FnD P w K mg base 1 f fd ["face"] F_letters_of :=
  dfn F0 sc_letters_of (fun _ _ _ _ _ _ o => (dss_one (ds_ret (de_callTy dc_tuple m_tuple PyProof.Rows.boot_tuple (da_cons (de_frz (dl_lc [("one", 1)] o (di_seq (de_item (de_var 0) de_int)) (fun _ _ _ _ _ o => (dg_name 1 o.nd)) (fun _ _ _ _ _ o => dts_nil) (fun _ _ _ _ _ o => (de_item (de_var 1) de_int)))) da_nil)))))
theorem ok_place_of {f : Addr} {fd : FuncData} (F0 : L2.Fun K "place_of" "place_of" s_place_of f fd) (m_enumerate : mg "enumerate" = none) : FnD P w K mg base 1 f fd ["face", "thing"] F_place_of :=
  dfn F0 sc_place_of (fun _ _ _ _ _ _ o => (dss_cons (ds_for (vs := [2, 3]) o (di_enum m_enumerate (de_item (de_var 0) de_int)) (dg_tup o.calm (dgs_cons (dg_name 2 o.nd) (dgs_cons (dg_name 3 o.nd) dgs_nil))) (dss_one (ds_if (dt_cmp (do_eq o) (de_item (de_var 3) de_int) (de_var 1)) (dss_one (ds_ret (de_var 2))) dss_nil))) (dss_one (ds_ret de_non))))
theorem ok_need_letter {f : Addr} {fd : FuncData} (F0 : L2.Fun K "need_letter" "need_letter" s_need_letter f fd) {f_place_of : Addr} {fd_place_of : FuncData} (G_place_of : FnD P w K mg base 1 f_place_of fd_place_of ["face", "thing"] F_place_of) (A_place_of : At K mg "place_of" f_place_of fd_place_of ["face", "thing"]) {a_NoLetter : Addr} (X_NoLetter : ExcAt K mg "NoLetter" a_NoLetter) : FnD P w K mg base 2 f fd ["face", "thing"] F_need_letter :=
  dfn F0 sc_need_letter (fun _ _ _ _ _ _ o => (dss_cons (ds_set 2 o.nd (de_call o G_place_of A_place_of (by decide) (da_cons (de_var 0) (da_cons (de_var 1) da_nil)))) (dss_cons (ds_if (dt_cmp do_is (de_var 2) de_non) (dss_one (ds_raise o X_NoLetter)) dss_nil) (dss_one (ds_ret (de_var 2))))))
theorem ok_gap_in {f : Addr} {fd : FuncData} (F0 : L2.Fun K "gap_in" "gap_in" s_gap_in f fd) : FnD P w K mg base 1 f fd ["pairs", "left", "right"] F_gap_in :=
  dfn F0 sc_gap_in (fun _ _ _ _ _ _ o => (dss_cons (ds_for (vs := [3, 4, 5]) o (di_seq (de_var 0)) (dg_tup o.calm (dgs_cons (dg_name 3 o.nd) (dgs_cons (dg_name 4 o.nd) (dgs_cons (dg_name 5 o.nd) dgs_nil)))) (dss_one (ds_if (dt_w (dw_and (dt_cmp (do_eq o) (de_var 3) (de_var 1)) (dw_and1 (dt_cmp (do_eq o) (de_var 4) (de_var 2))))) (dss_one (ds_ret (de_var 5))) dss_nil))) (dss_one (ds_ret de_int))))
theorem ok_from_rows {f : Addr} {fd : FuncData} (F0 : L2.Fun K "from_rows" "from_rows" s_from_rows f fd) {f_letters_of : Addr} {fd_letters_of : FuncData} (G_letters_of : FnD P w K mg base 1 f_letters_of fd_letters_of ["face"] F_letters_of) (A_letters_of : At K mg "letters_of" f_letters_of fd_letters_of ["face"]) (m_zip : mg "zip" = none) (m_tuple : mg "tuple" = none) : FnD P w K mg base 2 f fd ["face", "rows"] F_from_rows :=
  dfn F0 sc_from_rows (fun _ _ _ _ _ _ o => (dss_cons (ds_set 2 o.nd (de_call o G_letters_of A_letters_of (by decide) (da_cons (de_var 0) da_nil))) (dss_cons (ds_set 3 o.nd (de_thw (dl_lst da_nil))) (dss_cons (ds_for (vs := [4, 5]) o (di_zip m_zip o.calm (de_var 2) (de_var 1)) (dg_tup o.calm (dgs_cons (dg_name 4 o.nd) (dgs_cons (dg_name 5 o.nd) dgs_nil))) (dss_one (ds_expr (de_extend (de_var 3) (dl_lc [("right", 6), ("gap", 7)] o (di_zip m_zip o.calm (de_var 2) (de_var 5)) (fun _ _ _ _ _ o => (dg_tup o.calm (dgs_cons (dg_name 6 o.nd) (dgs_cons (dg_name 7 o.nd) dgs_nil)))) (fun _ _ _ _ _ o => (dts_one (dt_cmp (do_ne o) (de_var 7) de_int))) (fun _ _ _ _ _ o => (de_tup (da_cons (de_var 4) (da_cons (de_var 6) (da_cons (de_var 7) da_nil)))))))))) (dss_one (ds_ret (de_callTy dc_tuple m_tuple PyProof.Rows.boot_tuple (da_cons (de_var 3) da_nil))))))))
theorem ok_all_pairs {f : Addr} {fd : FuncData} (F0 : L2.Fun K "all_pairs" "all_pairs" s_all_pairs f fd) {f_letters_of : Addr} {fd_letters_of : FuncData} (G_letters_of : FnD P w K mg base 1 f_letters_of fd_letters_of ["face"] F_letters_of) (A_letters_of : At K mg "letters_of" f_letters_of fd_letters_of ["face"]) : FnD P w K mg base 2 f fd ["face"] F_all_pairs :=
  dfn F0 sc_all_pairs (fun _ _ _ _ _ _ o => (dss_cons (ds_set 1 o.nd (de_thw (dl_lst da_nil))) (dss_cons (ds_for (vs := [2]) o (di_seq (de_call o G_letters_of A_letters_of (by decide) (da_cons (de_var 0) da_nil))) (dg_name 2 o.nd) (dss_one (ds_expr (de_extend (de_var 1) (dl_lc [("right", 3)] o (di_seq (de_call o G_letters_of A_letters_of (by decide) (da_cons (de_var 0) da_nil))) (fun _ _ _ _ _ o => (dg_name 3 o.nd)) (fun _ _ _ _ _ o => dts_nil) (fun _ _ _ _ _ o => (de_tup (da_cons (de_var 2) (da_cons (de_var 3) da_nil))))))))) (dss_fix 1 (dss_one (ds_ret (de_var 1)))))))
theorem ok_is_parting {f : Addr} {fd : FuncData} (F0 : L2.Fun K "is_parting" "is_parting" s_is_parting f fd) {f_place_of : Addr} {fd_place_of : FuncData} (G_place_of : FnD P w K mg base 1 f_place_of fd_place_of ["face", "thing"] F_place_of) (A_place_of : At K mg "place_of" f_place_of fd_place_of ["face", "thing"]) (m_isinstance : mg "isinstance" = none) (m_tuple : mg "tuple" = none) (m_sorted : mg "sorted" = none) (m_sum : mg "sum" = none) (m_list : mg "list" = none) (m_range : mg "range" = none) (m_len : mg "len" = none) : FnD P w K mg base 2 f fd ["face", "thing"] F_is_parting :=
  dfn F0 sc_is_parting (fun _ _ _ _ _ _ o => (dss_cons (ds_if (dt_not (dt_val (de_isi (T := "tuple") m_isinstance m_tuple (de_var 1)))) (dss_one (ds_ret de_bl)) dss_nil) (dss_cons (ds_set 2 o.nd (de_thw (dl_lst da_nil))) (dss_cons (ds_for (vs := [3]) o (di_seq (de_var 1)) (dg_name 3 o.nd) (dss_cons (ds_if (dt_w (dw_or (dt_not (dt_val (de_isi (T := "tuple") m_isinstance m_tuple (de_var 3)))) (dw_or1 (dt_cmp (do_eq o) (de_var 3) (de_tup da_nil))))) (dss_one (ds_ret de_bl)) dss_nil) (dss_cons (ds_setLcF 4 [("letter", 7)] o (di_seq (de_var 3)) (fun _ _ _ _ _ o => (dg_name 7 o.nd)) (fun _ _ _ _ _ o => dts_nil) (fun _ _ _ _ _ o => (de_call o G_place_of A_place_of (by decide) (da_cons (de_var 0) (da_cons (de_var 7) da_nil))))) (dss_cons (ds_if (dt_w (dw_or (dt_cmp (do_in o) de_non (de_var 4)) (dw_or1 (dt_cmp (do_ne o) (de_var 4) (de_frz (dl_callB (dcl_sorted o) m_sorted rfl (da_cons (de_var 4) da_nil))))))) (dss_one (ds_ret de_bl)) dss_nil) (dss_one (ds_expr (de_methL PySem.F.slot_list_append PySem.F.type_list_append dm_append (de_var 2) (da_cons (de_var 4) da_nil)))))))) (dss_fix 2 (dss_cons (ds_setLcF 5 [("here", 4)] o (di_seq (de_var 2)) (fun _ _ _ _ _ o => (dg_name 4 o.nd)) (fun _ _ _ _ _ o => dts_nil) (fun _ _ _ _ _ o => (de_item (de_var 4) de_int))) (dss_cons (ds_set 6 o.nd (de_frz (dl_callB (dcl_sorted o) m_sorted rfl (da_cons (de_frz (dl_sumL o.calm m_sum (de_var 2))) da_nil)))) (dss_one (ds_ret (de_and (de_cmp (do_eq o) (de_var 5) (de_frz (dl_callB (dcl_sorted o) m_sorted rfl (da_cons (de_var 5) da_nil)))) (de_one (de_cmp (do_eq o) (de_var 6) (de_frz (dl_lrg1 o.calm m_list m_range (de_callB dc_len m_len boot_len (da_cons (de_item (de_var 0) de_int) da_nil))))))))))))))))
theorem ok_class_in {f : Addr} {fd : FuncData} (F0 : L2.Fun K "class_in" "class_in" s_class_in f fd) : FnD P w K mg base 1 f fd ["parting", "letter"] F_class_in :=
  dfn F0 sc_class_in (fun _ _ _ _ _ _ o => (dss_one (ds_ret (de_methL PySem.F.slot_list_index PySem.F.type_list_index (dm_index o) (de_frz (dl_lc [("one", 2)] o (di_seq (de_var 0)) (fun _ _ _ _ _ o => (dg_name 2 o.nd)) (fun _ _ _ _ _ o => dts_nil) (fun _ _ _ _ _ o => (de_cmp (do_in o) (de_var 1) (de_var 2))))) (da_cons de_bl da_nil)))))
theorem ok_is_gaps {f : Addr} {fd : FuncData} (F0 : L2.Fun K "is_gaps" "is_gaps" s_is_gaps f fd) {f_is_gap : Addr} {fd_is_gap : FuncData} (G_is_gap : FnD P w K mg base 2 f_is_gap fd_is_gap ["thing"] F_is_gap) (A_is_gap : At K mg "is_gap" f_is_gap fd_is_gap ["thing"]) (m_isinstance : mg "isinstance" = none) (m_tuple : mg "tuple" = none) (m_len : mg "len" = none) (m_all : mg "all" = none) : FnD P w K mg base 3 f fd ["lefts", "rights", "thing"] F_is_gaps :=
  dfn F0 sc_is_gaps (fun _ _ _ _ _ _ o => (dss_cons (ds_if (dt_w (dw_or (dt_not (dt_val (de_isi (T := "tuple") m_isinstance m_tuple (de_var 2)))) (dw_or1 (dt_cmp (do_ne o) (de_callB dc_len m_len boot_len (da_cons (de_var 2) da_nil)) (de_callB dc_len m_len boot_len (da_cons (de_var 0) da_nil)))))) (dss_one (ds_ret de_bl)) dss_nil) (dss_cons (ds_for (vs := [3]) o (di_seq (de_var 2)) (dg_name 3 o.nd) (dss_one (ds_if (dt_w (dw_or (dt_not (dt_val (de_isi (T := "tuple") m_isinstance m_tuple (de_var 3)))) (dw_or (dt_cmp (do_ne o) (de_callB dc_len m_len boot_len (da_cons (de_var 3) da_nil)) (de_callB dc_len m_len boot_len (da_cons (de_var 1) da_nil))) (dw_or1 (dt_not (dt_val (de_callB (dc_all o) m_all rfl (da_cons (de_frz (dl_lc [("gap", 4)] o (di_seq (de_var 3)) (fun _ _ _ _ _ o => (dg_name 4 o.nd)) (fun _ _ _ _ _ o => dts_nil) (fun _ _ _ _ _ o => (de_call o G_is_gap A_is_gap (by decide) (da_cons (de_var 4) da_nil))))) da_nil)))))))) (dss_one (ds_ret de_bl)) dss_nil))) (dss_one (ds_ret de_bl)))))
theorem ok_key_of {f : Addr} {fd : FuncData} (F0 : L2.Fun K "key_of" "key_of" s_key_of f fd) {f_is_gap : Addr} {fd_is_gap : FuncData} (G_is_gap : FnD P w K mg base 2 f_is_gap fd_is_gap ["thing"] F_is_gap) (A_is_gap : At K mg "is_gap" f_is_gap fd_is_gap ["thing"]) {f_place_of : Addr} {fd_place_of : FuncData} (G_place_of : FnD P w K mg base 1 f_place_of fd_place_of ["face", "thing"] F_place_of) (A_place_of : At K mg "place_of" f_place_of fd_place_of ["face", "thing"]) {f_is_from_to : Addr} {fd_is_from_to : FuncData} (G_is_from_to : FnD P w K mg base 1 f_is_from_to fd_is_from_to ["thing", "least", "most"] F_is_from_to) (A_is_from_to : At K mg "is_from_to" f_is_from_to fd_is_from_to ["thing", "least", "most"]) (m_isinstance : mg "isinstance" = none) (m_tuple : mg "tuple" = none) (m_len : mg "len" = none) : FnD P w K mg base 3 f fd ["face", "lefts", "rights", "one"] F_key_of :=
  dfn F0 sc_key_of (fun _ _ _ _ _ _ o => (dss_cons (ds_if (dt_w (dw_or (dt_not (dt_val (de_isi (T := "tuple") m_isinstance m_tuple (de_var 3)))) (dw_or (dt_cmp (do_ne o) (de_callB dc_len m_len boot_len (da_cons (de_var 3) da_nil)) de_int) (dw_or1 (dt_not (dt_val (de_call o G_is_gap A_is_gap (by decide) (da_cons (de_item (de_var 3) de_int) da_nil)))))))) (dss_one (ds_ret de_non)) dss_nil) (dss_cons (ds_par o.calm o.nd (da_cons (de_call o G_place_of A_place_of (by decide) (da_cons (de_var 0) (da_cons (de_item (de_var 3) de_int) da_nil))) (da_cons (de_call o G_place_of A_place_of (by decide) (da_cons (de_var 0) (da_cons (de_item (de_var 3) de_int) da_nil))) da_nil))) (dss_cons (ds_if (dt_w (dw_and (dt_cmp do_isnot (de_var 4) de_non) (dw_and1 (dt_cmp do_isnot (de_var 5) de_non)))) (dss_one (ds_ret (de_tup (da_cons de_int (da_cons (de_var 4) (da_cons (de_var 5) da_nil)))))) dss_nil) (dss_cons (ds_if (dt_w (dw_and (dt_cmp do_isnot (de_var 4) de_non) (dw_and1 (dt_val (de_call o G_is_from_to A_is_from_to (by decide) (da_cons (de_item (de_var 3) de_int) (da_cons de_int (da_cons (de_bin do_sub (de_callB dc_len m_len boot_len (da_cons (de_var 2) da_nil)) de_int) da_nil)))))))) (dss_one (ds_ret (de_tup (da_cons de_int (da_cons (de_var 4) (da_cons (de_item (de_var 3) de_int) da_nil)))))) dss_nil) (dss_cons (ds_if (dt_w (dw_and (dt_cmp do_isnot (de_var 5) de_non) (dw_and1 (dt_val (de_call o G_is_from_to A_is_from_to (by decide) (da_cons (de_item (de_var 3) de_int) (da_cons de_int (da_cons (de_bin do_sub (de_callB dc_len m_len boot_len (da_cons (de_var 1) da_nil)) de_int) da_nil)))))))) (dss_one (ds_ret (de_tup (da_cons de_int (da_cons (de_item (de_var 3) de_int) (da_cons (de_var 5) da_nil)))))) dss_nil) (dss_one (ds_ret de_non))))))))
theorem ok_are_exceptions {f : Addr} {fd : FuncData} (F0 : L2.Fun K "are_exceptions" "are_exceptions" s_are_exceptions f fd) {f_key_of : Addr} {fd_key_of : FuncData} (G_key_of : FnD P w K mg base 3 f_key_of fd_key_of ["face", "lefts", "rights", "one"] F_key_of) (A_key_of : At K mg "key_of" f_key_of fd_key_of ["face", "lefts", "rights", "one"]) (m_isinstance : mg "isinstance" = none) (m_tuple : mg "tuple" = none) (m_zip : mg "zip" = none) (m_all : mg "all" = none) : FnD P w K mg base 4 f fd ["face", "lefts", "rights", "thing"] F_are_exceptions :=
  dfn F0 sc_are_exceptions (fun _ _ _ _ _ _ o => (dss_cons (ds_if (dt_not (dt_val (de_isi (T := "tuple") m_isinstance m_tuple (de_var 3)))) (dss_one (ds_ret de_bl)) dss_nil) (dss_cons (ds_setLcF 4 [("one", 5)] o (di_seq (de_var 3)) (fun _ _ _ _ _ o => (dg_name 5 o.nd)) (fun _ _ _ _ _ o => dts_nil) (fun _ _ _ _ _ o => (de_call o G_key_of A_key_of (by decide) (da_cons (de_var 0) (da_cons (de_var 1) (da_cons (de_var 2) (da_cons (de_var 5) da_nil))))))) (dss_one (ds_ret (de_and (de_cmp (do_notin o) de_non (de_var 4)) (de_one (de_callB (dc_all o) m_all rfl (da_cons (de_frz (dl_lc [("one", 5), ("other", 6)] o (di_zip m_zip o.calm (de_var 4) (de_frz (dl_slice (de_var 4) (dp_some de_int) dp_none))) (fun _ _ _ _ _ o => (dg_tup o.calm (dgs_cons (dg_name 5 o.nd) (dgs_cons (dg_name 6 o.nd) dgs_nil)))) (fun _ _ _ _ _ o => dts_nil) (fun _ _ _ _ _ o => (de_cmp (do_ltX o) (de_var 5) (de_var 6))))) da_nil)))))))))
theorem ok_is_table {f : Addr} {fd : FuncData} (F0 : L2.Fun K "is_table" "is_table" s_is_table f fd) {f_is_parting : Addr} {fd_is_parting : FuncData} (G_is_parting : FnD P w K mg base 2 f_is_parting fd_is_parting ["face", "thing"] F_is_parting) (A_is_parting : At K mg "is_parting" f_is_parting fd_is_parting ["face", "thing"]) {f_is_gaps : Addr} {fd_is_gaps : FuncData} (G_is_gaps : FnD P w K mg base 3 f_is_gaps fd_is_gaps ["lefts", "rights", "thing"] F_is_gaps) (A_is_gaps : At K mg "is_gaps" f_is_gaps fd_is_gaps ["lefts", "rights", "thing"]) {f_are_exceptions : Addr} {fd_are_exceptions : FuncData} (G_are_exceptions : FnD P w K mg base 4 f_are_exceptions fd_are_exceptions ["face", "lefts", "rights", "thing"] F_are_exceptions) (A_are_exceptions : At K mg "are_exceptions" f_are_exceptions fd_are_exceptions ["face", "lefts", "rights", "thing"]) (m_isinstance : mg "isinstance" = none) (m_tuple : mg "tuple" = none) (m_len : mg "len" = none) : FnD P w K mg base 5 f fd ["face", "thing"] F_is_table :=
  dfn F0 sc_is_table (fun _ _ _ _ _ _ o => (dss_cons (ds_if (dt_w (dw_or (dt_not (dt_val (de_isi (T := "tuple") m_isinstance m_tuple (de_var 1)))) (dw_or1 (dt_cmp (do_ne o) (de_callB dc_len m_len boot_len (da_cons (de_var 1) da_nil)) de_int)))) (dss_one (ds_ret de_bl)) dss_nil) (dss_cons (ds_if (dt_w (dw_or (dt_not (dt_val (de_call o G_is_parting A_is_parting (by decide) (da_cons (de_var 0) (da_cons (de_item (de_var 1) de_int) da_nil))))) (dw_or1 (dt_not (dt_val (de_call o G_is_parting A_is_parting (by decide) (da_cons (de_var 0) (da_cons (de_item (de_var 1) de_int) da_nil)))))))) (dss_one (ds_ret de_bl)) dss_nil) (dss_one (ds_ret (de_and (de_call o G_is_gaps A_is_gaps (by decide) (da_cons (de_item (de_var 1) de_int) (da_cons (de_item (de_var 1) de_int) (da_cons (de_item (de_var 1) de_int) da_nil)))) (de_one (de_call o G_are_exceptions A_are_exceptions (by decide) (da_cons (de_var 0) (da_cons (de_item (de_var 1) de_int) (da_cons (de_item (de_var 1) de_int) (da_cons (de_item (de_var 1) de_int) da_nil))))))))))))
theorem ok_need_table {f : Addr} {fd : FuncData} (F0 : L2.Fun K "need_table" "need_table" s_need_table f fd) {f_is_table : Addr} {fd_is_table : FuncData} (G_is_table : FnD P w K mg base 5 f_is_table fd_is_table ["face", "thing"] F_is_table) (A_is_table : At K mg "is_table" f_is_table fd_is_table ["face", "thing"]) {a_NoTable : Addr} (X_NoTable : ExcAt K mg "NoTable" a_NoTable) : FnD P w K mg base 6 f fd ["face", "thing"] F_need_table :=
  dfn F0 sc_need_table (fun _ _ _ _ _ _ o => (dss_one (ds_if (dt_not (dt_val (de_call o G_is_table A_is_table (by decide) (da_cons (de_var 0) (da_cons (de_var 1) da_nil))))) (dss_one (ds_raise o X_NoTable)) dss_nil)))
theorem ok_told_in {f : Addr} {fd : FuncData} (F0 : L2.Fun K "told_in" "told_in" s_told_in f fd) {f_class_in : Addr} {fd_class_in : FuncData} (G_class_in : FnD P w K mg base 1 f_class_in fd_class_in ["parting", "letter"] F_class_in) (A_class_in : At K mg "class_in" f_class_in fd_class_in ["parting", "letter"]) (m_enumerate : mg "enumerate" = none) : FnD P w K mg base 2 f fd ["table", "left", "right"] F_told_in :=
  dfn F0 sc_told_in (fun _ _ _ _ _ _ o => (dss_cons (ds_asg (vs := [3, 4, 5, 6]) (de_var 0) (dg_tup o.calm (dgs_cons (dg_name 3 o.nd) (dgs_cons (dg_name 4 o.nd) (dgs_cons (dg_name 5 o.nd) (dgs_cons (dg_name 6 o.nd) dgs_nil)))))) (dss_cons (ds_par o.calm o.nd (da_cons (de_call o G_class_in A_class_in (by decide) (da_cons (de_var 3) (da_cons (de_var 1) da_nil))) (da_cons (de_call o G_class_in A_class_in (by decide) (da_cons (de_var 4) (da_cons (de_var 2) da_nil))) da_nil))) (dss_cons (ds_for (vs := [9, 10, 11]) o (di_enum m_enumerate (de_frz (dl_lst (da_cons (de_tup (da_cons (de_var 1) (da_cons (de_var 2) da_nil))) (da_cons (de_tup (da_cons (de_var 1) (da_cons (de_var 8) da_nil))) (da_cons (de_tup (da_cons (de_var 7) (da_cons (de_var 2) da_nil))) da_nil)))))) (dg_tup o.calm (dgs_cons (dg_name 9 o.nd) (dgs_cons (dg_tup o.calm (dgs_cons (dg_name 10 o.nd) (dgs_cons (dg_name 11 o.nd) dgs_nil))) dgs_nil))) (dss_one (ds_for (vs := [12, 13, 14]) o (di_seq (de_var 6)) (dg_tup o.calm (dgs_cons (dg_name 12 o.nd) (dgs_cons (dg_name 13 o.nd) (dgs_cons (dg_name 14 o.nd) dgs_nil)))) (dss_one (ds_if (dt_w (dw_and (dt_cmp (do_eq o) (de_var 12) (de_var 10)) (dw_and1 (dt_cmp (do_eq o) (de_var 13) (de_var 11))))) (dss_one (ds_ret (de_tup (da_cons (de_var 14) (da_cons (de_var 9) da_nil))))) dss_nil))))) (dss_one (ds_ret (de_tup (da_cons (de_item (de_item (de_var 5) (de_var 7)) (de_var 8)) (da_cons de_int da_nil)))))))))
theorem ok_gap_by {f : Addr} {fd : FuncData} (F0 : L2.Fun K "gap_by" "gap_by" s_gap_by f fd) {f_need_table : Addr} {fd_need_table : FuncData} (G_need_table : FnD P w K mg base 6 f_need_table fd_need_table ["face", "thing"] F_need_table) (A_need_table : At K mg "need_table" f_need_table fd_need_table ["face", "thing"]) {f_need_letter : Addr} {fd_need_letter : FuncData} (G_need_letter : FnD P w K mg base 2 f_need_letter fd_need_letter ["face", "thing"] F_need_letter) (A_need_letter : At K mg "need_letter" f_need_letter fd_need_letter ["face", "thing"]) {f_told_in : Addr} {fd_told_in : FuncData} (G_told_in : FnD P w K mg base 2 f_told_in fd_told_in ["table", "left", "right"] F_told_in) (A_told_in : At K mg "told_in" f_told_in fd_told_in ["table", "left", "right"]) : FnD P w K mg base 7 f fd ["face", "table", "left", "right"] F_gap_by :=
  dfn F0 sc_gap_by (fun _ _ _ _ _ _ o => (dss_cons (ds_expr (de_call o G_need_table A_need_table (by decide) (da_cons (de_var 0) (da_cons (de_var 1) da_nil)))) (dss_cons (ds_expr (de_call o G_need_letter A_need_letter (by decide) (da_cons (de_var 0) (da_cons (de_var 2) da_nil)))) (dss_cons (ds_expr (de_call o G_need_letter A_need_letter (by decide) (da_cons (de_var 0) (da_cons (de_var 3) da_nil)))) (dss_one (ds_ret (de_item (de_call o G_told_in A_told_in (by decide) (da_cons (de_var 1) (da_cons (de_var 2) (da_cons (de_var 3) da_nil)))) de_int)))))))
theorem ok_told_by {f : Addr} {fd : FuncData} (F0 : L2.Fun K "told_by" "told_by" s_told_by f fd) {f_need_table : Addr} {fd_need_table : FuncData} (G_need_table : FnD P w K mg base 6 f_need_table fd_need_table ["face", "thing"] F_need_table) (A_need_table : At K mg "need_table" f_need_table fd_need_table ["face", "thing"]) {f_need_letter : Addr} {fd_need_letter : FuncData} (G_need_letter : FnD P w K mg base 2 f_need_letter fd_need_letter ["face", "thing"] F_need_letter) (A_need_letter : At K mg "need_letter" f_need_letter fd_need_letter ["face", "thing"]) {f_told_in : Addr} {fd_told_in : FuncData} (G_told_in : FnD P w K mg base 2 f_told_in fd_told_in ["table", "left", "right"] F_told_in) (A_told_in : At K mg "told_in" f_told_in fd_told_in ["table", "left", "right"]) : FnD P w K mg base 7 f fd ["face", "table", "left", "right"] F_told_by :=
  dfn F0 sc_told_by (fun _ _ _ _ _ _ o => (dss_cons (ds_expr (de_call o G_need_table A_need_table (by decide) (da_cons (de_var 0) (da_cons (de_var 1) da_nil)))) (dss_cons (ds_expr (de_call o G_need_letter A_need_letter (by decide) (da_cons (de_var 0) (da_cons (de_var 2) da_nil)))) (dss_cons (ds_expr (de_call o G_need_letter A_need_letter (by decide) (da_cons (de_var 0) (da_cons (de_var 3) da_nil)))) (dss_one (ds_ret (de_item (de_call o G_told_in A_told_in (by decide) (da_cons (de_var 1) (da_cons (de_var 2) (da_cons (de_var 3) da_nil)))) de_int)))))))
theorem ok_listed {f : Addr} {fd : FuncData} (F0 : L2.Fun K "listed" "listed" s_listed f fd) {f_letters_of : Addr} {fd_letters_of : FuncData} (G_letters_of : FnD P w K mg base 1 f_letters_of fd_letters_of ["face"] F_letters_of) (A_letters_of : At K mg "letters_of" f_letters_of fd_letters_of ["face"]) {f_from_rows : Addr} {fd_from_rows : FuncData} (G_from_rows : FnD P w K mg base 2 f_from_rows fd_from_rows ["face", "rows"] F_from_rows) (A_from_rows : At K mg "from_rows" f_from_rows fd_from_rows ["face", "rows"]) {f_told_in : Addr} {fd_told_in : FuncData} (G_told_in : FnD P w K mg base 2 f_told_in fd_told_in ["table", "left", "right"] F_told_in) (A_told_in : At K mg "told_in" f_told_in fd_told_in ["table", "left", "right"]) : FnD P w K mg base 3 f fd ["face", "table"] F_listed :=
  dfn F0 sc_listed (fun _ _ _ _ _ _ o => (dss_cons (ds_set 2 o.nd (de_call o G_letters_of A_letters_of (by decide) (da_cons (de_var 0) da_nil))) (dss_one (ds_ret (de_call o G_from_rows A_from_rows (by decide) (da_cons (de_var 0) (da_cons (de_frz (dl_lc [("left", 3)] o (di_seq (de_var 2)) (fun _ _ _ _ _ o => (dg_name 3 o.nd)) (fun _ _ _ _ _ o => dts_nil) (fun _ _ _ _ _ o => (de_frz (dl_lc [("right", 4)] o (di_seq (de_var 2)) (fun _ _ _ _ _ o => (dg_name 4 o.nd)) (fun _ _ _ _ _ o => dts_nil) (fun _ _ _ _ _ o => (de_item (de_call o G_told_in A_told_in (by decide) (da_cons (de_var 1) (da_cons (de_var 3) (da_cons (de_var 4) da_nil)))) de_int))))))) da_nil)))))))
theorem ok_list_by {f : Addr} {fd : FuncData} (F0 : L2.Fun K "list_by" "list_by" s_list_by f fd) {f_need_table : Addr} {fd_need_table : FuncData} (G_need_table : FnD P w K mg base 6 f_need_table fd_need_table ["face", "thing"] F_need_table) (A_need_table : At K mg "need_table" f_need_table fd_need_table ["face", "thing"]) {f_listed : Addr} {fd_listed : FuncData} (G_listed : FnD P w K mg base 3 f_listed fd_listed ["face", "table"] F_listed) (A_listed : At K mg "listed" f_listed fd_listed ["face", "table"]) : FnD P w K mg base 7 f fd ["face", "table"] F_list_by :=
  dfn F0 sc_list_by (fun _ _ _ _ _ _ o => (dss_cons (ds_expr (de_call o G_need_table A_need_table (by decide) (da_cons (de_var 0) (da_cons (de_var 1) da_nil)))) (dss_one (ds_ret (de_call o G_listed A_listed (by decide) (da_cons (de_var 0) (da_cons (de_var 1) da_nil)))))))
theorem ok_first_unlike {f : Addr} {fd : FuncData} (F0 : L2.Fun K "first_unlike" "first_unlike" s_first_unlike f fd) {f_need_table : Addr} {fd_need_table : FuncData} (G_need_table : FnD P w K mg base 6 f_need_table fd_need_table ["face", "thing"] F_need_table) (A_need_table : At K mg "need_table" f_need_table fd_need_table ["face", "thing"]) {f_all_pairs : Addr} {fd_all_pairs : FuncData} (G_all_pairs : FnD P w K mg base 2 f_all_pairs fd_all_pairs ["face"] F_all_pairs) (A_all_pairs : At K mg "all_pairs" f_all_pairs fd_all_pairs ["face"]) {f_gap_in : Addr} {fd_gap_in : FuncData} (G_gap_in : FnD P w K mg base 1 f_gap_in fd_gap_in ["pairs", "left", "right"] F_gap_in) (A_gap_in : At K mg "gap_in" f_gap_in fd_gap_in ["pairs", "left", "right"]) {f_told_in : Addr} {fd_told_in : FuncData} (G_told_in : FnD P w K mg base 2 f_told_in fd_told_in ["table", "left", "right"] F_told_in) (A_told_in : At K mg "told_in" f_told_in fd_told_in ["table", "left", "right"]) : FnD P w K mg base 7 f fd ["face", "pairs", "table"] F_first_unlike :=
  dfn F0 sc_first_unlike (fun _ _ _ _ _ _ o => (dss_cons (ds_expr (de_call o G_need_table A_need_table (by decide) (da_cons (de_var 0) (da_cons (de_var 2) da_nil)))) (dss_cons (ds_for (vs := [3, 4]) o (di_seq (de_call o G_all_pairs A_all_pairs (by decide) (da_cons (de_var 0) da_nil))) (dg_tup o.calm (dgs_cons (dg_name 3 o.nd) (dgs_cons (dg_name 4 o.nd) dgs_nil))) (dss_one (ds_if (dt_cmp (do_ne o) (de_call o G_gap_in A_gap_in (by decide) (da_cons (de_var 1) (da_cons (de_var 3) (da_cons (de_var 4) da_nil)))) (de_item (de_call o G_told_in A_told_in (by decide) (da_cons (de_var 2) (da_cons (de_var 3) (da_cons (de_var 4) da_nil)))) de_int)) (dss_one (ds_ret (de_tup (da_cons (de_var 3) (da_cons (de_var 4) da_nil))))) dss_nil))) (dss_one (ds_ret de_non)))))
theorem ok_number_in {f : Addr} {fd : FuncData} (F0 : L2.Fun K "number_in" "number_in" s_number_in f fd) (m_len : mg "len" = none) (m_all : mg "all" = none) (m_int : mg "int" = none) (m_str : mg "str" = none) {t_FIGURES : Tok} (c_FIGURES : mg "FIGURES" = some (.str "0123456789" t_FIGURES)) : FnD P w K mg base 1 f fd ["word"] F_number_in :=
  dfn F0 sc_number_in (fun _ _ _ _ _ _ o => (dss_cons (ds_set 1 o.nd (de_ife (dt_cmp (do_eq o) (de_slice (de_var 0) dp_none (dp_some de_int)) de_str) (de_slice (de_var 0) (dp_some de_int) dp_none) (de_var 0))) (dss_cons (ds_if (dt_w (dw_or (dt_cmp (do_eq o) (de_var 1) de_str) (dw_or (dt_cmp do_gt (de_callB dc_len m_len boot_len (da_cons (de_var 1) da_nil)) de_int) (dw_or1 (dt_not (dt_val (de_callB (dc_all o) m_all rfl (da_cons (de_frz (dl_lc [("sign", 2)] o (di_txt (de_var 1)) (fun _ _ _ _ _ o => (dg_name 2 o.nd)) (fun _ _ _ _ _ o => dts_nil) (fun _ _ _ _ _ o => (de_cmp (do_in o) (de_var 2) (de_gstr c_FIGURES))))) da_nil)))))))) (dss_one (ds_ret de_non)) dss_nil) (dss_cons (ds_if (dt_cmp (do_ne o) (de_callTy dc_str m_str PyProof.Rows.boot_str (da_cons (de_callTy dc_intX m_int rfl (da_cons (de_var 0) da_nil)) da_nil)) (de_var 0)) (dss_one (ds_ret de_non)) dss_nil) (dss_one (ds_ret (de_callTy dc_intX m_int rfl (da_cons (de_var 0) da_nil))))))))
theorem ok_side_text {f : Addr} {fd : FuncData} (F0 : L2.Fun K "side_text" "side_text" s_side_text f fd) (m_isinstance : mg "isinstance" = none) (m_str : mg "str" = none) : FnD P w K mg base 1 f fd ["side"] F_side_text :=
  dfn F0 sc_side_text (fun _ _ _ _ _ _ o => (dss_cons (ds_if (dt_val (de_isi (T := "str") m_isinstance m_str (de_var 0))) (dss_one (ds_ret (de_var 0))) dss_nil) (dss_one (ds_ret (de_bin do_add de_str (de_callTy dc_str m_str PyProof.Rows.boot_str (da_cons (de_var 0) da_nil)))))))
theorem ok_parting_text {f : Addr} {fd : FuncData} (F0 : L2.Fun K "parting_text" "parting_text" s_parting_text f fd) : FnD P w K mg base 1 f fd ["parting"] F_parting_text :=
  dfn F0 sc_parting_text (fun _ _ _ _ _ _ o => (dss_one (ds_ret (de_methS PySem.F.slot_str_join PySem.F.type_str_join dm_join de_str (da_cons (de_frz (dl_lc [("one", 1)] o (di_seq (de_var 0)) (fun _ _ _ _ _ o => (dg_name 1 o.nd)) (fun _ _ _ _ _ o => dts_nil) (fun _ _ _ _ _ o => (de_methS PySem.F.slot_str_join PySem.F.type_str_join dm_join de_str (da_cons (de_var 1) da_nil))))) da_nil)))))
theorem ok_exceptions_text {f : Addr} {fd : FuncData} (F0 : L2.Fun K "exceptions_text" "exceptions_text" s_exceptions_text f fd) {f_side_text : Addr} {fd_side_text : FuncData} (G_side_text : FnD P w K mg base 1 f_side_text fd_side_text ["side"] F_side_text) (A_side_text : At K mg "side_text" f_side_text fd_side_text ["side"]) (m_str : mg "str" = none) : FnD P w K mg base 2 f fd ["exceptions"] F_exceptions_text :=
  dfn F0 sc_exceptions_text (fun _ _ _ _ _ _ o => (dss_cons (ds_if (dt_cmp (do_eq o) (de_var 0) (de_tup da_nil)) (dss_one (ds_ret de_str)) dss_nil) (dss_one (ds_ret (de_methS PySem.F.slot_str_join PySem.F.type_str_join dm_join de_str (da_cons (de_frz (dl_lc [("left", 1), ("right", 2), ("gap", 3)] o (di_seq (de_var 0)) (fun _ _ _ _ _ o => (dg_tup o.calm (dgs_cons (dg_name 1 o.nd) (dgs_cons (dg_name 2 o.nd) (dgs_cons (dg_name 3 o.nd) dgs_nil))))) (fun _ _ _ _ _ o => dts_nil) (fun _ _ _ _ _ o => (de_bin do_add (de_bin do_add (de_bin do_add (de_call o G_side_text A_side_text (by decide) (da_cons (de_var 1) da_nil)) (de_call o G_side_text A_side_text (by decide) (da_cons (de_var 2) da_nil))) de_str) (de_callTy dc_str m_str PyProof.Rows.boot_str (da_cons (de_var 3) da_nil)))))) da_nil))))))
theorem ok_text_of {f : Addr} {fd : FuncData} (F0 : L2.Fun K "text_of" "text_of" s_text_of f fd) {f_exceptions_text : Addr} {fd_exceptions_text : FuncData} (G_exceptions_text : FnD P w K mg base 2 f_exceptions_text fd_exceptions_text ["exceptions"] F_exceptions_text) (A_exceptions_text : At K mg "exceptions_text" f_exceptions_text fd_exceptions_text ["exceptions"]) {f_parting_text : Addr} {fd_parting_text : FuncData} (G_parting_text : FnD P w K mg base 1 f_parting_text fd_parting_text ["parting"] F_parting_text) (A_parting_text : At K mg "parting_text" f_parting_text fd_parting_text ["parting"]) (m_str : mg "str" = none) : FnD P w K mg base 3 f fd ["table"] F_text_of :=
  dfn F0 sc_text_of (fun _ _ _ _ _ _ o => (dss_cons (ds_asg (vs := [1, 2, 3, 4]) (de_var 0) (dg_tup o.calm (dgs_cons (dg_name 1 o.nd) (dgs_cons (dg_name 2 o.nd) (dgs_cons (dg_name 3 o.nd) (dgs_cons (dg_name 4 o.nd) dgs_nil)))))) (dss_cons (ds_set 5 o.nd (de_methS PySem.F.slot_str_join PySem.F.type_str_join dm_join de_str (da_cons (de_frz (dl_lc [("row", 6)] o (di_seq (de_var 3)) (fun _ _ _ _ _ o => (dg_name 6 o.nd)) (fun _ _ _ _ _ o => dts_nil) (fun _ _ _ _ _ o => (de_methS PySem.F.slot_str_join PySem.F.type_str_join dm_join de_str (da_cons (de_frz (dl_lc [("gap", 7)] o (di_seq (de_var 6)) (fun _ _ _ _ _ o => (dg_name 7 o.nd)) (fun _ _ _ _ _ o => dts_nil) (fun _ _ _ _ _ o => (de_callTy dc_str m_str PyProof.Rows.boot_str (da_cons (de_var 7) da_nil))))) da_nil))))) da_nil))) (dss_one (ds_ret (de_methS PySem.F.slot_str_join PySem.F.type_str_join dm_join de_str (da_cons (de_frz (dl_lst (da_cons (de_call o G_parting_text A_parting_text (by decide) (da_cons (de_var 1) da_nil)) (da_cons (de_call o G_parting_text A_parting_text (by decide) (da_cons (de_var 2) da_nil)) (da_cons (de_var 5) (da_cons (de_call o G_exceptions_text A_exceptions_text (by decide) (da_cons (de_var 4) da_nil)) da_nil)))))) da_nil)))))))
theorem ok_table_text {f : Addr} {fd : FuncData} (F0 : L2.Fun K "table_text" "table_text" s_table_text f fd) {f_need_table : Addr} {fd_need_table : FuncData} (G_need_table : FnD P w K mg base 6 f_need_table fd_need_table ["face", "thing"] F_need_table) (A_need_table : At K mg "need_table" f_need_table fd_need_table ["face", "thing"]) {f_text_of : Addr} {fd_text_of : FuncData} (G_text_of : FnD P w K mg base 3 f_text_of fd_text_of ["table"] F_text_of) (A_text_of : At K mg "text_of" f_text_of fd_text_of ["table"]) : FnD P w K mg base 7 f fd ["face", "table"] F_table_text :=
  dfn F0 sc_table_text (fun _ _ _ _ _ _ o => (dss_cons (ds_expr (de_call o G_need_table A_need_table (by decide) (da_cons (de_var 0) (da_cons (de_var 1) da_nil)))) (dss_one (ds_ret (de_call o G_text_of A_text_of (by decide) (da_cons (de_var 1) da_nil))))))
theorem ok_sides_in {f : Addr} {fd : FuncData} (F0 : L2.Fun K "sides_in" "sides_in" s_sides_in f fd) {f_number_in : Addr} {fd_number_in : FuncData} (G_number_in : FnD P w K mg base 1 f_number_in fd_number_in ["word"] F_number_in) (A_number_in : At K mg "number_in" f_number_in fd_number_in ["word"]) : FnD P w K mg base 2 f fd ["word"] F_sides_in :=
  dfn F0 sc_sides_in (fun _ _ _ _ _ _ o => (dss_cons (ds_if (dt_cmp (do_eq o) (de_slice (de_var 0) dp_none (dp_some de_int)) de_str) (dss_one (ds_ret (de_tup (da_cons (de_call o G_number_in A_number_in (by decide) (da_cons (de_slice (de_var 0) (dp_some de_int) (dp_some de_int)) da_nil)) (da_cons (de_slice (de_var 0) (dp_some de_int) dp_none) da_nil))))) dss_nil) (dss_cons (ds_if (dt_cmp (do_eq o) (de_slice (de_var 0) (dp_some de_int) (dp_some de_int)) de_str) (dss_one (ds_ret (de_tup (da_cons (de_slice (de_var 0) dp_none (dp_some de_int)) (da_cons (de_call o G_number_in A_number_in (by decide) (da_cons (de_slice (de_var 0) (dp_some de_int) dp_none) da_nil)) da_nil))))) dss_nil) (dss_one (ds_ret (de_tup (da_cons (de_slice (de_var 0) dp_none (dp_some de_int)) (da_cons (de_slice (de_var 0) (dp_some de_int) dp_none) da_nil))))))))
theorem ok_exceptions_by {f : Addr} {fd : FuncData} (F0 : L2.Fun K "exceptions_by" "exceptions_by" s_exceptions_by f fd) {f_sides_in : Addr} {fd_sides_in : FuncData} (G_sides_in : FnD P w K mg base 2 f_sides_in fd_sides_in ["word"] F_sides_in) (A_sides_in : At K mg "sides_in" f_sides_in fd_sides_in ["word"]) {f_number_in : Addr} {fd_number_in : FuncData} (G_number_in : FnD P w K mg base 1 f_number_in fd_number_in ["word"] F_number_in) (A_number_in : At K mg "number_in" f_number_in fd_number_in ["word"]) (m_tuple : mg "tuple" = none) : FnD P w K mg base 3 f fd ["text"] F_exceptions_by :=
  dfn F0 sc_exceptions_by (fun _ _ _ _ _ _ o => (dss_cons (ds_if (dt_cmp (do_eq o) (de_var 0) de_str) (dss_one (ds_ret (de_tup da_nil))) dss_nil) (dss_cons (ds_set 1 o.nd (de_thw (dl_lst da_nil))) (dss_cons (ds_for (vs := [2]) o (di_seq (de_frz (dl_methS PySem.F.slot_str_split PySem.F.type_str_split dml_split (de_var 0) (da_cons de_str da_nil)))) (dg_name 2 o.nd) (dss_cons (ds_asg (vs := [3, 4, 5]) (de_methS PySem.F.slot_str_partition PySem.F.type_str_partition dm_partition (de_var 2) (da_cons de_str da_nil)) (dg_tup o.calm (dgs_cons (dg_name 3 o.nd) (dgs_cons (dg_name 4 o.nd) (dgs_cons (dg_name 5 o.nd) dgs_nil))))) (dss_cons (ds_asg (vs := [6, 7]) (de_call o G_sides_in A_sides_in (by decide) (da_cons (de_var 3) da_nil)) (dg_tup o.calm (dgs_cons (dg_name 6 o.nd) (dgs_cons (dg_name 7 o.nd) dgs_nil)))) (dss_one (ds_expr (de_methL PySem.F.slot_list_append PySem.F.type_list_append dm_append (de_var 1) (da_cons (de_tup (da_cons (de_var 6) (da_cons (de_var 7) (da_cons (de_call o G_number_in A_number_in (by decide) (da_cons (de_var 5) da_nil)) da_nil)))) da_nil))))))) (dss_one (ds_ret (de_callTy dc_tuple m_tuple PyProof.Rows.boot_tuple (da_cons (de_var 1) da_nil))))))))
theorem ok_parting_by {f : Addr} {fd : FuncData} (F0 : L2.Fun K "parting_by" "parting_by" s_parting_by f fd) (m_list : mg "list" = none) (m_tuple : mg "tuple" = none) : FnD P w K mg base 1 f fd ["text"] F_parting_by :=
  dfn F0 sc_parting_by (fun _ _ _ _ _ _ o => (dss_one (ds_ret (de_callTy dc_tuple m_tuple PyProof.Rows.boot_tuple (da_cons (de_frz (dl_lc [("word", 1)] o (di_seq (de_frz (dl_methS PySem.F.slot_str_split PySem.F.type_str_split dml_split (de_var 0) (da_cons de_str da_nil)))) (fun _ _ _ _ _ o => (dg_name 1 o.nd)) (fun _ _ _ _ _ o => dts_nil) (fun _ _ _ _ _ o => (de_callTy dc_tuple m_tuple PyProof.Rows.boot_tuple (da_cons (de_frz (dl_callTy (dcl_list o) m_list PyProof.Rows.boot_list (da_cons (de_var 1) da_nil))) da_nil))))) da_nil)))))
theorem ok_table_read {f : Addr} {fd : FuncData} (F0 : L2.Fun K "table_read" "table_read" s_table_read f fd) {f_number_in : Addr} {fd_number_in : FuncData} (G_number_in : FnD P w K mg base 1 f_number_in fd_number_in ["word"] F_number_in) (A_number_in : At K mg "number_in" f_number_in fd_number_in ["word"]) {f_exceptions_by : Addr} {fd_exceptions_by : FuncData} (G_exceptions_by : FnD P w K mg base 3 f_exceptions_by fd_exceptions_by ["text"] F_exceptions_by) (A_exceptions_by : At K mg "exceptions_by" f_exceptions_by fd_exceptions_by ["text"]) {f_parting_by : Addr} {fd_parting_by : FuncData} (G_parting_by : FnD P w K mg base 1 f_parting_by fd_parting_by ["text"] F_parting_by) (A_parting_by : At K mg "parting_by" f_parting_by fd_parting_by ["text"]) {f_is_table : Addr} {fd_is_table : FuncData} (G_is_table : FnD P w K mg base 5 f_is_table fd_is_table ["face", "thing"] F_is_table) (A_is_table : At K mg "is_table" f_is_table fd_is_table ["face", "thing"]) {f_text_of : Addr} {fd_text_of : FuncData} (G_text_of : FnD P w K mg base 3 f_text_of fd_text_of ["table"] F_text_of) (A_text_of : At K mg "text_of" f_text_of fd_text_of ["table"]) (m_isinstance : mg "isinstance" = none) (m_str : mg "str" = none) (m_len : mg "len" = none) (m_tuple : mg "tuple" = none) {a_NoText : Addr} (X_NoText : ExcAt K mg "NoText" a_NoText) : FnD P w K mg base 6 f fd ["face", "text"] F_table_read :=
  dfn F0 sc_table_read (fun _ _ _ _ _ _ o => (dss_cons (ds_if (dt_val (de_isi (T := "str") m_isinstance m_str (de_var 1))) (dss_cons (ds_set 2 o.nd (de_frz (dl_methS PySem.F.slot_str_split PySem.F.type_str_split dml_split (de_var 1) (da_cons de_str da_nil)))) (dss_one (ds_if (dt_cmp (do_eq o) (de_callB dc_len m_len boot_len (da_cons (de_var 2) da_nil)) de_int) (dss_cons (ds_set 3 o.nd (de_callTy dc_tuple m_tuple PyProof.Rows.boot_tuple (da_cons (de_frz (dl_lc [("row", 5)] o (di_seq (de_frz (dl_methS PySem.F.slot_str_split PySem.F.type_str_split dml_split (de_item (de_var 2) de_int) (da_cons de_str da_nil)))) (fun _ _ _ _ _ o => (dg_name 5 o.nd)) (fun _ _ _ _ _ o => dts_nil) (fun _ _ _ _ _ o => (de_callTy dc_tuple m_tuple PyProof.Rows.boot_tuple (da_cons (de_frz (dl_lc [("gap", 6)] o (di_seq (de_frz (dl_methS PySem.F.slot_str_split PySem.F.type_str_split dml_split (de_var 5) (da_cons de_str da_nil)))) (fun _ _ _ _ _ o => (dg_name 6 o.nd)) (fun _ _ _ _ _ o => dts_nil) (fun _ _ _ _ _ o => (de_call o G_number_in A_number_in (by decide) (da_cons (de_var 6) da_nil))))) da_nil))))) da_nil))) (dss_cons (ds_set 4 o.nd (de_tup (da_cons (de_call o G_parting_by A_parting_by (by decide) (da_cons (de_item (de_var 2) de_int) da_nil)) (da_cons (de_call o G_parting_by A_parting_by (by decide) (da_cons (de_item (de_var 2) de_int) da_nil)) (da_cons (de_var 3) (da_cons (de_call o G_exceptions_by A_exceptions_by (by decide) (da_cons (de_item (de_var 2) de_int) da_nil)) da_nil)))))) (dss_one (ds_if (dt_w (dw_and (dt_val (de_call o G_is_table A_is_table (by decide) (da_cons (de_var 0) (da_cons (de_var 4) da_nil)))) (dw_and1 (dt_cmp (do_eq o) (de_call o G_text_of A_text_of (by decide) (da_cons (de_var 4) da_nil)) (de_var 1))))) (dss_one (ds_ret (de_var 4))) dss_nil)))) dss_nil))) dss_nil) (dss_one (ds_raise o X_NoText))))
theorem ok_law_box {f : Addr} {fd : FuncData} (F0 : L2.Fun K "_law_box" "_law_box" s_law_box f fd) (m_len : mg "len" = none) (m_abs : mg "abs" = none) : FnD P w K mg base 1 f fd ["_law_script", "_law_k"] F_law_box :=
  dfn F0 sc_law_box (fun _ _ _ _ _ _ o => (dss_cons (ds_set 2 o.nd (de_bin do_add (de_bin do_mul de_int (de_var 1)) de_int)) (dss_cons (ds_if (dt_cmp (do_ltX o) (de_var 1) (de_callB dc_len m_len boot_len (da_cons (de_var 0) da_nil))) (dss_one (ds_set 2 o.nd (de_item (de_var 0) (de_var 1)))) dss_nil) (dss_cons (ds_if (dt_cmp (do_eq o) (de_bin do_mod (de_var 2) de_int) de_int) (dss_one (ds_ret (de_thw (dl_lst (da_cons (de_bin do_fdiv (de_callB dc_abs m_abs PyProof.Rows.boot_abs (da_cons (de_var 2) da_nil)) de_int) (da_cons (de_bin do_add (de_bin do_add (de_bin do_mod (de_var 2) de_int) (de_bin do_mul de_int (de_var 1))) de_int) da_nil)))))) dss_nil) (dss_one (ds_ret (de_thw (dl_lst (da_cons de_int (da_cons (de_bin do_add (de_bin do_add (de_bin do_mod (de_var 2) de_int) (de_bin do_mul de_int (de_var 1))) de_int) da_nil))))))))))
theorem ok_law_take {f : Addr} {fd : FuncData} (F0 : L2.Fun K "_law_take" "_law_take" s_law_take f fd) (m_divmod : mg "divmod" = none) : FnD P w K mg base 1 f fd ["_law_box_here", "_law_many"] F_law_take :=
  dfn F0 sc_law_take (fun _ _ _ _ _ _ o => (dss_cons (ds_if (dt_cmp do_gt (de_item (de_var 0) de_int) de_int) (dss_cons (ds_asg (vs := [2]) (de_callB dc_divmod m_divmod PyProof.Rows.boot_divmod (da_cons (de_item (de_var 0) de_int) (da_cons (de_var 1) da_nil))) (dg_tup o.calm (dgs_cons (dg_ix (de_var 0) de_int) (dgs_cons (dg_name 2 o.nd) dgs_nil)))) (dss_one (ds_ret (de_var 2)))) dss_nil) (dss_cons (ds_asg (vs := []) (de_bin do_mod (de_bin do_add (de_bin do_mul (de_item (de_var 0) de_int) de_int) de_int) de_int) (dg_ix (de_var 0) de_int)) (dss_cons (ds_set 3 o.nd (de_bin do_add (de_bin do_fdiv (de_item (de_var 0) de_int) de_int) de_int)) (dss_one (ds_ret (de_bin do_mod (de_bin do_fdiv (de_bin do_mod (de_bin do_mul (de_bin do_mul (de_var 3) (de_var 3)) (de_var 3)) de_int) de_int) (de_var 1))))))))
theorem ok_law_face {f : Addr} {fd : FuncData} (F0 : L2.Fun K "_law_face" "_law_face" s_law_face f fd) {f_law_take : Addr} {fd_law_take : FuncData} (G_law_take : FnD P w K mg base 1 f_law_take fd_law_take ["_law_box_here", "_law_many"] F_law_take) (A_law_take : At K mg "_law_take" f_law_take fd_law_take ["_law_box_here", "_law_many"]) (m_list : mg "list" = none) (m_range : mg "range" = none) (m_len : mg "len" = none) (m_tuple : mg "tuple" = none) : FnD P w K mg base 2 f fd ["_law_box_here", "_law_least", "_law_most"] F_law_face :=
  dfn F0 sc_law_face (fun _ _ _ _ _ _ o => (dss_cons (ds_set 3 o.nd (de_thw (dl_callTy (dcl_list o) m_list PyProof.Rows.boot_list (da_cons de_str da_nil)))) (dss_cons (ds_set 4 o.nd (de_bin do_add (de_var 1) (de_call o G_law_take A_law_take (by decide) (da_cons (de_var 0) (da_cons (de_bin do_add (de_bin do_sub (de_var 2) (de_var 1)) de_int) da_nil))))) (dss_cons (ds_setLcF 5 [("_law_turn", 6)] o (di_rng1 m_range (de_var 4)) (fun _ _ _ _ _ o => (dg_name 6 o.nd)) (fun _ _ _ _ _ o => dts_nil) (fun _ _ _ _ _ o => (de_tup (da_cons (de_methL PySem.F.slot_list_pop PySem.F.type_list_pop dm_pop (de_var 3) (da_cons (de_call o G_law_take A_law_take (by decide) (da_cons (de_var 0) (da_cons (de_callB dc_len m_len boot_len (da_cons (de_var 3) da_nil)) da_nil))) da_nil)) (da_cons (de_bin do_add de_int (de_call o G_law_take A_law_take (by decide) (da_cons (de_var 0) (da_cons de_int da_nil)))) da_nil))))) (dss_one (ds_ret (de_tup (da_cons (de_bin do_add de_int (de_call o G_law_take A_law_take (by decide) (da_cons (de_var 0) (da_cons de_int da_nil)))) (da_cons (de_callTy dc_tuple m_tuple PyProof.Rows.boot_tuple (da_cons (de_var 5) da_nil)) da_nil)))))))))
theorem ok_law_letters {f : Addr} {fd : FuncData} (F0 : L2.Fun K "_law_letters" "_law_letters" s_law_letters f fd) : FnD P w K mg base 1 f fd ["_law_face_here"] F_law_letters :=
  dfn F0 sc_law_letters (fun _ _ _ _ _ _ o => (dss_one (ds_ret (de_frz (dl_lc [("_law_one", 1)] o (di_seq (de_item (de_var 0) de_int)) (fun _ _ _ _ _ o => (dg_name 1 o.nd)) (fun _ _ _ _ _ o => dts_nil) (fun _ _ _ _ _ o => (de_item (de_var 1) de_int)))))))
theorem ok_law_list {f : Addr} {fd : FuncData} (F0 : L2.Fun K "_law_list" "_law_list" s_law_list f fd) {f_law_letters : Addr} {fd_law_letters : FuncData} (G_law_letters : FnD P w K mg base 1 f_law_letters fd_law_letters ["_law_face_here"] F_law_letters) (A_law_letters : At K mg "_law_letters" f_law_letters fd_law_letters ["_law_face_here"]) (m_zip : mg "zip" = none) (m_tuple : mg "tuple" = none) : FnD P w K mg base 2 f fd ["_law_face_here", "_law_rows"] F_law_list_v1 :=
  dfn F0 sc_law_list (fun _ _ _ _ _ _ o => (dss_cons (ds_set 2 o.nd (de_call o G_law_letters A_law_letters (by decide) (da_cons (de_var 0) da_nil))) (dss_cons (ds_set 3 o.nd (de_thw (dl_lst da_nil))) (dss_cons (ds_forZ (vs := [4, 5]) o m_zip (de_var 2) (de_var 1) (dgs_cons (dg_name 4 o.nd) (dgs_cons (dg_name 5 o.nd) dgs_nil)) (dss_one (ds_forZ (vs := [6, 7]) o m_zip (de_var 2) (de_var 5) (dgs_cons (dg_name 6 o.nd) (dgs_cons (dg_name 7 o.nd) dgs_nil)) (dss_one (ds_if (dt_cmp (do_ne o) (de_var 7) de_int) (dss_one (ds_expr (de_methL PySem.F.slot_list_append PySem.F.type_list_append dm_append (de_var 3) (da_cons (de_tup (da_cons (de_var 4) (da_cons (de_var 6) (da_cons (de_var 7) da_nil)))) da_nil)))) dss_nil))))) (dss_one (ds_ret (de_callTy dc_tuple m_tuple PyProof.Rows.boot_tuple (da_cons (de_var 3) da_nil))))))))
theorem ok_law_grouped {f : Addr} {fd : FuncData} (F0 : L2.Fun K "_law_grouped" "_law_grouped" s_law_grouped f fd) (m_enumerate : mg "enumerate" = none) (m_zip : mg "zip" = none) (m_tuple : mg "tuple" = none) : FnD P w K mg base 1 f fd ["_law_letters_here", "_law_marks"] F_law_grouped :=
  dfn F0 sc_law_grouped (fun _ _ _ _ _ _ o => (dss_cons (ds_set 2 o.nd (de_thw (dl_lst da_nil))) (dss_cons (ds_for (vs := [3, 4]) o (di_enum m_enumerate (de_var 1)) (dg_tup o.calm (dgs_cons (dg_name 3 o.nd) (dgs_cons (dg_name 4 o.nd) dgs_nil))) (dss_one (ds_if (dt_cmp (do_eq o) (de_methL PySem.F.slot_list_index PySem.F.type_list_index (dm_index o) (de_var 1) (da_cons (de_var 4) da_nil)) (de_var 3)) (dss_one (ds_expr (de_methL PySem.F.slot_list_append PySem.F.type_list_append dm_append (de_var 2) (da_cons (de_callTy dc_tuple m_tuple PyProof.Rows.boot_tuple (da_cons (de_frz (dl_lc [("_law_letter", 5), ("_law_own", 6)] o (di_zip m_zip o.calm (de_var 0) (de_var 1)) (fun _ _ _ _ _ o => (dg_tup o.calm (dgs_cons (dg_name 5 o.nd) (dgs_cons (dg_name 6 o.nd) dgs_nil)))) (fun _ _ _ _ _ o => (dts_one (dt_cmp (do_eq o) (de_var 6) (de_var 4)))) (fun _ _ _ _ _ o => (de_var 5)))) da_nil)) da_nil)))) dss_nil))) (dss_one (ds_ret (de_callTy dc_tuple m_tuple PyProof.Rows.boot_tuple (da_cons (de_var 2) da_nil)))))))
theorem ok_law_class {f : Addr} {fd : FuncData} (F0 : L2.Fun K "_law_class" "_law_class" s_law_class f fd) (m_enumerate : mg "enumerate" = none) : FnD P w K mg base 1 f fd ["_law_parting", "_law_letter"] F_law_class :=
  dfn F0 sc_law_class (fun _ _ _ _ _ _ o => (dss_one (ds_ret (de_item (de_frz (dl_lc [("_law_number", 2), ("_law_one", 3)] o (di_enum m_enumerate (de_var 0)) (fun _ _ _ _ _ o => (dg_tup o.calm (dgs_cons (dg_name 2 o.nd) (dgs_cons (dg_name 3 o.nd) dgs_nil)))) (fun _ _ _ _ _ o => (dts_one (dt_cmp (do_in o) (de_var 1) (de_var 3)))) (fun _ _ _ _ _ o => (de_var 2)))) de_int))))
theorem ok_law_told {f : Addr} {fd : FuncData} (F0 : L2.Fun K "_law_told" "_law_told" s_law_told f fd) {f_law_class : Addr} {fd_law_class : FuncData} (G_law_class : FnD P w K mg base 1 f_law_class fd_law_class ["_law_parting", "_law_letter"] F_law_class) (A_law_class : At K mg "_law_class" f_law_class fd_law_class ["_law_parting", "_law_letter"]) (m_isinstance : mg "isinstance" = none) (m_str : mg "str" = none) : FnD P w K mg base 2 f fd ["_law_table", "_law_left", "_law_right"] F_law_told :=
  dfn F0 sc_law_told (fun _ _ _ _ _ _ o => (dss_cons (ds_asg (vs := [3, 4, 5, 6]) (de_var 0) (dg_tup o.calm (dgs_cons (dg_name 3 o.nd) (dgs_cons (dg_name 4 o.nd) (dgs_cons (dg_name 5 o.nd) (dgs_cons (dg_name 6 o.nd) dgs_nil)))))) (dss_cons (ds_asg (vs := [7, 8]) (de_tup (da_cons (de_call o G_law_class A_law_class (by decide) (da_cons (de_var 3) (da_cons (de_var 1) da_nil))) (da_cons (de_call o G_law_class A_law_class (by decide) (da_cons (de_var 4) (da_cons (de_var 2) da_nil))) da_nil))) (dg_tup o.calm (dgs_cons (dg_name 7 o.nd) (dgs_cons (dg_name 8 o.nd) dgs_nil)))) (dss_cons (ds_set 9 o.nd (de_thw (dl_lst (da_cons (de_frz (dl_lc [("_law_one", 11), ("_law_other", 12), ("_law_gap", 13)] o (di_seq (de_var 6)) (fun _ _ _ _ _ o => (dg_tup o.calm (dgs_cons (dg_name 11 o.nd) (dgs_cons (dg_name 12 o.nd) (dgs_cons (dg_name 13 o.nd) dgs_nil))))) (fun _ _ _ _ _ o => (dts_one (dt_cmp (do_eq o) (de_tup (da_cons (de_var 11) (da_cons (de_var 12) da_nil))) (de_tup (da_cons (de_var 1) (da_cons (de_var 2) da_nil)))))) (fun _ _ _ _ _ o => (de_var 13)))) da_nil)))) (dss_cons (ds_expr (de_methL PySem.F.slot_list_append PySem.F.type_list_append dm_append (de_var 9) (da_cons (de_frz (dl_lc [("_law_one", 11), ("_law_other", 12), ("_law_gap", 13)] o (di_seq (de_var 6)) (fun _ _ _ _ _ o => (dg_tup o.calm (dgs_cons (dg_name 11 o.nd) (dgs_cons (dg_name 12 o.nd) (dgs_cons (dg_name 13 o.nd) dgs_nil))))) (fun _ _ _ _ _ o => (dts_one (dt_w (dw_and (dt_val (de_isi (T := "str") m_isinstance m_str (de_var 11))) (dw_and (dt_cmp (do_eq o) (de_var 11) (de_var 1)) (dw_and1 (dt_cmp (do_eq o) (de_var 12) (de_var 8)))))))) (fun _ _ _ _ _ o => (de_var 13)))) da_nil))) (dss_cons (ds_expr (de_methL PySem.F.slot_list_append PySem.F.type_list_append dm_append (de_var 9) (da_cons (de_frz (dl_lc [("_law_one", 11), ("_law_other", 12), ("_law_gap", 13)] o (di_seq (de_var 6)) (fun _ _ _ _ _ o => (dg_tup o.calm (dgs_cons (dg_name 11 o.nd) (dgs_cons (dg_name 12 o.nd) (dgs_cons (dg_name 13 o.nd) dgs_nil))))) (fun _ _ _ _ _ o => (dts_one (dt_w (dw_and (dt_val (de_isi (T := "str") m_isinstance m_str (de_var 12))) (dw_and (dt_cmp (do_eq o) (de_var 11) (de_var 7)) (dw_and1 (dt_cmp (do_eq o) (de_var 12) (de_var 2)))))))) (fun _ _ _ _ _ o => (de_var 13)))) da_nil))) (dss_cons (ds_expr (de_methL PySem.F.slot_list_append PySem.F.type_list_append dm_append (de_var 9) (da_cons (de_frz (dl_lst (da_cons (de_item (de_item (de_var 5) (de_var 7)) (de_var 8)) da_nil))) da_nil))) (dss_fix 9 (dss_cons (ds_set 10 o.nd (de_methL PySem.F.slot_list_index PySem.F.type_list_index (dm_index o) (de_frz (dl_lc [("_law_one", 11)] o (di_seq (de_var 9)) (fun _ _ _ _ _ o => (dg_name 11 o.nd)) (fun _ _ _ _ _ o => dts_nil) (fun _ _ _ _ _ o => (de_cmp (do_ne o) (de_var 11) (de_frz (dl_lst da_nil)))))) (da_cons de_bl da_nil))) (dss_one (ds_ret (de_tup (da_cons (de_item (de_item (de_var 9) (de_var 10)) de_int) (da_cons (de_var 10) da_nil))))))))))))))
theorem ok_law_side_text {f : Addr} {fd : FuncData} (F0 : L2.Fun K "_law_side_text" "_law_side_text" s_law_side_text f fd) (m_isinstance : mg "isinstance" = none) (m_str : mg "str" = none) : FnD P w K mg base 1 f fd ["_law_side"] F_law_side_text :=
  dfn F0 sc_law_side_text (fun _ _ _ _ _ _ o => (dss_one (ds_ret (de_ife (dt_val (de_isi (T := "str") m_isinstance m_str (de_var 0))) (de_var 0) (de_bin do_add de_str (de_callTy dc_str m_str PyProof.Rows.boot_str (da_cons (de_var 0) da_nil)))))))
theorem ok_law_table_text {f : Addr} {fd : FuncData} (F0 : L2.Fun K "_law_table_text" "_law_table_text" s_law_table_text f fd) {f_law_side_text : Addr} {fd_law_side_text : FuncData} (G_law_side_text : FnD P w K mg base 1 f_law_side_text fd_law_side_text ["_law_side"] F_law_side_text) (A_law_side_text : At K mg "_law_side_text" f_law_side_text fd_law_side_text ["_law_side"]) (m_str : mg "str" = none) : FnD P w K mg base 2 f fd ["_law_table"] F_law_table_text :=
  dfn F0 sc_law_table_text (fun _ _ _ _ _ _ o => (dss_cons (ds_setLcM 1 [("_law_parting", 3)] o (di_seq (de_slice (de_var 0) dp_none (dp_some de_int))) (fun _ _ _ _ _ o => (dg_name 3 o.nd)) (fun _ _ _ _ _ o => dts_nil) (fun _ _ _ _ _ o => (de_methS PySem.F.slot_str_join PySem.F.type_str_join dm_join de_str (da_cons (de_frz (dl_lc [("_law_one", 4)] o (di_seq (de_var 3)) (fun _ _ _ _ _ o => (dg_name 4 o.nd)) (fun _ _ _ _ _ o => dts_nil) (fun _ _ _ _ _ o => (de_methS PySem.F.slot_str_join PySem.F.type_str_join dm_join de_str (da_cons (de_var 4) da_nil))))) da_nil)))) (dss_cons (ds_expr (de_methL PySem.F.slot_list_append PySem.F.type_list_append dm_append (de_var 1) (da_cons (de_methS PySem.F.slot_str_join PySem.F.type_str_join dm_join de_str (da_cons (de_frz (dl_lc [("_law_row", 5)] o (di_seq (de_item (de_var 0) de_int)) (fun _ _ _ _ _ o => (dg_name 5 o.nd)) (fun _ _ _ _ _ o => dts_nil) (fun _ _ _ _ _ o => (de_methS PySem.F.slot_str_join PySem.F.type_str_join dm_join de_str (da_cons (de_frz (dl_lc [("_law_gap", 6)] o (di_seq (de_var 5)) (fun _ _ _ _ _ o => (dg_name 6 o.nd)) (fun _ _ _ _ _ o => dts_nil) (fun _ _ _ _ _ o => (de_callTy dc_str m_str PyProof.Rows.boot_str (da_cons (de_var 6) da_nil))))) da_nil))))) da_nil)) da_nil))) (dss_cons (ds_setLcF 2 [("_law_one", 4), ("_law_other", 7), ("_law_gap", 6)] o (di_seq (de_item (de_var 0) de_int)) (fun _ _ _ _ _ o => (dg_tup o.calm (dgs_cons (dg_name 4 o.nd) (dgs_cons (dg_name 7 o.nd) (dgs_cons (dg_name 6 o.nd) dgs_nil))))) (fun _ _ _ _ _ o => dts_nil) (fun _ _ _ _ _ o => (de_bin do_add (de_bin do_add (de_bin do_add (de_call o G_law_side_text A_law_side_text (by decide) (da_cons (de_var 4) da_nil)) (de_call o G_law_side_text A_law_side_text (by decide) (da_cons (de_var 7) da_nil))) de_str) (de_callTy dc_str m_str PyProof.Rows.boot_str (da_cons (de_var 6) da_nil))))) (dss_fix 1 (dss_one (ds_ret (de_methS PySem.F.slot_str_join PySem.F.type_str_join dm_join de_str (da_cons (de_bin do_add (de_var 1) (de_frz (dl_lst (da_cons (de_orS (de_methS PySem.F.slot_str_join PySem.F.type_str_join dm_join de_str (da_cons (de_var 2) da_nil)) (de_one de_str)) da_nil)))) da_nil)))))))))
theorem ok_law_fine {f : Addr} {fd : FuncData} (F0 : L2.Fun K "_law_fine" "_law_fine" s_law_fine f fd) {f_law_take : Addr} {fd_law_take : FuncData} (G_law_take : FnD P w K mg base 1 f_law_take fd_law_take ["_law_box_here", "_law_many"] F_law_take) (A_law_take : At K mg "_law_take" f_law_take fd_law_take ["_law_box_here", "_law_many"]) {f_law_grouped : Addr} {fd_law_grouped : FuncData} (G_law_grouped : FnD P w K mg base 1 f_law_grouped fd_law_grouped ["_law_letters_here", "_law_marks"] F_law_grouped) (A_law_grouped : At K mg "_law_grouped" f_law_grouped fd_law_grouped ["_law_letters_here", "_law_marks"]) (m_range : mg "range" = none) (m_len : mg "len" = none) : FnD P w K mg base 2 f fd ["_law_box_here", "_law_letters_here"] F_law_fine :=
  dfn F0 sc_law_fine (fun _ _ _ _ _ _ o => (dss_cons (ds_set 2 o.nd (de_thw (dl_lst da_nil))) (dss_cons (ds_for (vs := [3]) o (di_rng1 m_range (de_callB dc_len m_len boot_len (da_cons (de_var 1) da_nil))) (dg_name 3 o.nd) (dss_one (ds_expr (de_methL PySem.F.slot_list_append PySem.F.type_list_append dm_append (de_var 2) (da_cons (de_item (de_frz (dl_lst (da_cons (de_var 3) (da_cons (de_call o G_law_take A_law_take (by decide) (da_cons (de_var 0) (da_cons (de_bin do_add (de_var 3) de_int) da_nil))) da_nil)))) (de_bin do_fdiv (de_call o G_law_take A_law_take (by decide) (da_cons (de_var 0) (da_cons de_int da_nil))) de_int)) da_nil))))) (dss_fix 2 (dss_one (ds_ret (de_call o G_law_grouped A_law_grouped (by decide) (da_cons (de_var 1) (da_cons (de_var 2) da_nil)))))))))
theorem ok_law_few {f : Addr} {fd : FuncData} (F0 : L2.Fun K "_law_few" "_law_few" s_law_few f fd) {f_law_take : Addr} {fd_law_take : FuncData} (G_law_take : FnD P w K mg base 1 f_law_take fd_law_take ["_law_box_here", "_law_many"] F_law_take) (A_law_take : At K mg "_law_take" f_law_take fd_law_take ["_law_box_here", "_law_many"]) (m_range : mg "range" = none) (m_list : mg "list" = none) (m_len : mg "len" = none) (m_tuple : mg "tuple" = none) : FnD P w K mg base 2 f fd ["_law_box_here", "_law_letters_here", "_law_sides"] F_law_few :=
  dfn F0 sc_law_few (fun _ _ _ _ _ _ o => (dss_cons (ds_set 3 o.nd (de_thw (dl_lst da_nil))) (dss_cons (ds_for (vs := [4]) o (di_rng1 m_range de_int) (dg_name 4 o.nd) (dss_cons (ds_set 5 o.nd (de_item (de_frz (dl_lst (da_cons (de_var 1) (da_cons (de_var 1) (da_cons (de_frz (dl_lrg1 o.calm m_list m_range (de_callB dc_len m_len boot_len (da_cons (de_item (de_var 2) de_int) da_nil)))) da_nil))))) (de_var 4))) (dss_cons (ds_set 6 o.nd (de_item (de_frz (dl_lst (da_cons (de_var 1) (da_cons (de_frz (dl_lrg1 o.calm m_list m_range (de_callB dc_len m_len boot_len (da_cons (de_item (de_var 2) de_int) da_nil)))) (da_cons (de_var 1) da_nil))))) (de_var 4))) (dss_one (ds_for (vs := [7]) o (di_seq (de_var 5)) (dg_name 7 o.nd) (dss_one (ds_for (vs := [8]) o (di_seq (de_var 6)) (dg_name 8 o.nd) (dss_cons (ds_set 9 o.nd (de_cmp (do_in o) (de_tup (da_cons (de_var 7) (da_cons (de_var 8) da_nil))) (de_frz (dl_lst (da_cons (de_tup (da_cons (de_bin do_sub (de_callB dc_len m_len boot_len (da_cons (de_item (de_var 2) de_int) da_nil)) de_int) (da_cons (de_item (de_var 1) de_int) da_nil))) (da_cons (de_tup (da_cons (de_item (de_var 1) (de_un du_neg de_int)) (da_cons (de_bin do_sub (de_callB dc_len m_len boot_len (da_cons (de_item (de_var 2) de_int) da_nil)) de_int) da_nil))) da_nil)))))) (dss_one (ds_if (dt_w (dw_or (dt_val (de_var 9)) (dw_or1 (dt_cmp (do_eq o) (de_call o G_law_take A_law_take (by decide) (da_cons (de_var 0) (da_cons de_int da_nil))) de_int)))) (dss_one (ds_expr (de_methL PySem.F.slot_list_append PySem.F.type_list_append dm_append (de_var 3) (da_cons (de_tup (da_cons (de_var 7) (da_cons (de_var 8) (da_cons (de_bin do_sub (de_call o G_law_take A_law_take (by decide) (da_cons (de_var 0) (da_cons de_int da_nil))) de_int) da_nil)))) da_nil)))) dss_nil)))))))))) (dss_one (ds_ret (de_callTy dc_tuple m_tuple PyProof.Rows.boot_tuple (da_cons (de_var 3) da_nil)))))))
theorem ok_law_gaps_right {f : Addr} {fd : FuncData} (F0 : L2.Fun K "_law_gaps_right" "_law_gaps_right" s_law_gaps_right f fd) {f_law_letters : Addr} {fd_law_letters : FuncData} (G_law_letters : FnD P w K mg base 1 f_law_letters fd_law_letters ["_law_face_here"] F_law_letters) (A_law_letters : At K mg "_law_letters" f_law_letters fd_law_letters ["_law_face_here"]) {f_law_told : Addr} {fd_law_told : FuncData} (G_law_told : FnD P w K mg base 2 f_law_told fd_law_told ["_law_table", "_law_left", "_law_right"] F_law_told) (A_law_told : At K mg "_law_told" f_law_told fd_law_told ["_law_table", "_law_left", "_law_right"]) {f_gap_by : Addr} {fd_gap_by : FuncData} (G_gap_by : FnD P w K mg base 7 f_gap_by fd_gap_by ["face", "table", "left", "right"] F_gap_by) (A_gap_by : At K mg "gap_by" f_gap_by fd_gap_by ["face", "table", "left", "right"]) {f_told_by : Addr} {fd_told_by : FuncData} (G_told_by : FnD P w K mg base 7 f_told_by fd_told_by ["face", "table", "left", "right"] F_told_by) (A_told_by : At K mg "told_by" f_told_by fd_told_by ["face", "table", "left", "right"]) (m_repr : mg "repr" = none) : FnD P w K mg base 8 f fd ["_law_face_here", "_law_table"] F_law_gaps_right :=
  dfn F0 sc_law_gaps_right (fun _ _ _ _ _ _ o => (dss_cons (ds_set 2 o.nd (de_call o G_law_letters A_law_letters (by decide) (da_cons (de_var 0) da_nil))) (dss_cons (ds_for (vs := [3]) o (di_seq (de_var 2)) (dg_name 3 o.nd) (dss_cons (ds_setLcF 4 [("_law_right", 5)] o (di_seq (de_var 2)) (fun _ _ _ _ _ o => (dg_name 5 o.nd)) (fun _ _ _ _ _ o => dts_nil) (fun _ _ _ _ _ o => (de_call o G_law_told A_law_told (by decide) (da_cons (de_var 1) (da_cons (de_var 3) (da_cons (de_var 5) da_nil)))))) (dss_cons (ds_if (dt_cmp (do_ne o) (de_callB (dc_repr o) m_repr PyProof.Rows.boot_repr (da_cons (de_frz (dl_lc [("_law_right", 5)] o (di_seq (de_var 2)) (fun _ _ _ _ _ o => (dg_name 5 o.nd)) (fun _ _ _ _ _ o => dts_nil) (fun _ _ _ _ _ o => (de_call o G_gap_by A_gap_by (by decide) (da_cons (de_var 0) (da_cons (de_var 1) (da_cons (de_var 3) (da_cons (de_var 5) da_nil)))))))) da_nil)) (de_callB (dc_repr o) m_repr PyProof.Rows.boot_repr (da_cons (de_frz (dl_lc [("_law_one", 6)] o (di_seq (de_var 4)) (fun _ _ _ _ _ o => (dg_name 6 o.nd)) (fun _ _ _ _ _ o => dts_nil) (fun _ _ _ _ _ o => (de_item (de_var 6) de_int)))) da_nil))) (dss_one (ds_ret de_bl)) dss_nil) (dss_one (ds_if (dt_cmp (do_ne o) (de_callB (dc_repr o) m_repr PyProof.Rows.boot_repr (da_cons (de_frz (dl_lc [("_law_right", 5)] o (di_seq (de_var 2)) (fun _ _ _ _ _ o => (dg_name 5 o.nd)) (fun _ _ _ _ _ o => dts_nil) (fun _ _ _ _ _ o => (de_call o G_told_by A_told_by (by decide) (da_cons (de_var 0) (da_cons (de_var 1) (da_cons (de_var 3) (da_cons (de_var 5) da_nil)))))))) da_nil)) (de_callB (dc_repr o) m_repr PyProof.Rows.boot_repr (da_cons (de_frz (dl_lc [("_law_one", 6)] o (di_seq (de_var 4)) (fun _ _ _ _ _ o => (dg_name 6 o.nd)) (fun _ _ _ _ _ o => dts_nil) (fun _ _ _ _ _ o => (de_item (de_var 6) de_int)))) da_nil))) (dss_one (ds_ret de_bl)) dss_nil))))) (dss_one (ds_ret de_bl)))))
theorem ok_law_list_right {f : Addr} {fd : FuncData} (F0 : L2.Fun K "_law_list_right" "_law_list_right" s_law_list_right f fd) {f_law_letters : Addr} {fd_law_letters : FuncData} (G_law_letters : FnD P w K mg base 1 f_law_letters fd_law_letters ["_law_face_here"] F_law_letters) (A_law_letters : At K mg "_law_letters" f_law_letters fd_law_letters ["_law_face_here"]) {f_law_told : Addr} {fd_law_told : FuncData} (G_law_told : FnD P w K mg base 2 f_law_told fd_law_told ["_law_table", "_law_left", "_law_right"] F_law_told) (A_law_told : At K mg "_law_told" f_law_told fd_law_told ["_law_table", "_law_left", "_law_right"]) {f_law_list : Addr} {fd_law_list : FuncData} (G_law_list : FnD P w K mg base 2 f_law_list fd_law_list ["_law_face_here", "_law_rows"] F_law_list_v1) (A_law_list : At K mg "_law_list" f_law_list fd_law_list ["_law_face_here", "_law_rows"]) {f_list_by : Addr} {fd_list_by : FuncData} (G_list_by : FnD P w K mg base 7 f_list_by fd_list_by ["face", "table"] F_list_by) (A_list_by : At K mg "list_by" f_list_by fd_list_by ["face", "table"]) {f_first_unlike : Addr} {fd_first_unlike : FuncData} (G_first_unlike : FnD P w K mg base 7 f_first_unlike fd_first_unlike ["face", "pairs", "table"] F_first_unlike) (A_first_unlike : At K mg "first_unlike" f_first_unlike fd_first_unlike ["face", "pairs", "table"]) {f_law_take : Addr} {fd_law_take : FuncData} (G_law_take : FnD P w K mg base 1 f_law_take fd_law_take ["_law_box_here", "_law_many"] F_law_take) (A_law_take : At K mg "_law_take" f_law_take fd_law_take ["_law_box_here", "_law_many"]) (m_repr : mg "repr" = none) (m_len : mg "len" = none) (m_int : mg "int" = none) : FnD P w K mg base 8 f fd ["_law_box_here", "_law_face_here", "_law_table"] F_law_list_right :=
  dfn F0 sc_law_list_right (fun _ _ _ _ _ _ o => (dss_cons (ds_set 3 o.nd (de_call o G_law_letters A_law_letters (by decide) (da_cons (de_var 1) da_nil))) (dss_cons (ds_setLcM 4 [("_law_left", 8)] o (di_seq (de_var 3)) (fun _ _ _ _ _ o => (dg_name 8 o.nd)) (fun _ _ _ _ _ o => dts_nil) (fun _ _ _ _ _ o => (de_thw (dl_lc [("_law_right", 9)] o (di_seq (de_var 3)) (fun _ _ _ _ _ o => (dg_name 9 o.nd)) (fun _ _ _ _ _ o => dts_nil) (fun _ _ _ _ _ o => (de_item (de_call o G_law_told A_law_told (by decide) (da_cons (de_var 2) (da_cons (de_var 8) (da_cons (de_var 9) da_nil)))) de_int)))))) (dss_cons (ds_set 5 o.nd (de_call o G_law_list A_law_list (by decide) (da_cons (de_var 1) (da_cons (de_var 4) da_nil)))) (dss_cons (ds_if (dt_w (dw_or (dt_cmp (do_ne o) (de_callB (dc_repr o) m_repr PyProof.Rows.boot_repr (da_cons (de_call o G_list_by A_list_by (by decide) (da_cons (de_var 1) (da_cons (de_var 2) da_nil))) da_nil)) (de_callB (dc_repr o) m_repr PyProof.Rows.boot_repr (da_cons (de_var 5) da_nil))) (dw_or1 (dt_cmp do_isnot (de_call o G_first_unlike A_first_unlike (by decide) (da_cons (de_var 1) (da_cons (de_var 5) (da_cons (de_var 2) da_nil)))) de_non)))) (dss_one (ds_ret de_bl)) dss_nil) (dss_cons (ds_par o.calm o.nd (da_cons (de_call o G_law_take A_law_take (by decide) (da_cons (de_var 0) (da_cons (de_callB dc_len m_len boot_len (da_cons (de_var 3) da_nil)) da_nil))) (da_cons (de_call o G_law_take A_law_take (by decide) (da_cons (de_var 0) (da_cons (de_callB dc_len m_len boot_len (da_cons (de_var 3) da_nil)) da_nil))) da_nil))) (dss_cons (ds_asg (vs := []) (de_bin do_add de_int (de_callTy dc_int m_int rfl (da_cons (de_cmp (do_eq o) (de_item (de_item (de_var 4) (de_var 6)) (de_var 7)) de_int) da_nil))) (dg_ix (de_item (de_var 4) (de_var 6)) (de_var 7))) (dss_one (ds_ret (de_cmp (do_eq o) (de_callB (dc_repr o) m_repr PyProof.Rows.boot_repr (da_cons (de_call o G_first_unlike A_first_unlike (by decide) (da_cons (de_var 1) (da_cons (de_call o G_law_list A_law_list (by decide) (da_cons (de_var 1) (da_cons (de_var 4) da_nil))) (da_cons (de_var 2) da_nil)))) da_nil)) (de_callB (dc_repr o) m_repr PyProof.Rows.boot_repr (da_cons (de_tup (da_cons (de_item (de_var 3) (de_var 6)) (da_cons (de_item (de_var 3) (de_var 7)) da_nil))) da_nil))))))))))))
theorem ok_law {f : Addr} {fd : FuncData} (F0 : L2.Fun K "law" "law" s_law f fd) {f_law_box : Addr} {fd_law_box : FuncData} (G_law_box : FnD P w K mg base 1 f_law_box fd_law_box ["_law_script", "_law_k"] F_law_box) (A_law_box : At K mg "_law_box" f_law_box fd_law_box ["_law_script", "_law_k"]) {f_law_face : Addr} {fd_law_face : FuncData} (G_law_face : FnD P w K mg base 2 f_law_face fd_law_face ["_law_box_here", "_law_least", "_law_most"] F_law_face) (A_law_face : At K mg "_law_face" f_law_face fd_law_face ["_law_box_here", "_law_least", "_law_most"]) {f_law_letters : Addr} {fd_law_letters : FuncData} (G_law_letters : FnD P w K mg base 1 f_law_letters fd_law_letters ["_law_face_here"] F_law_letters) (A_law_letters : At K mg "_law_letters" f_law_letters fd_law_letters ["_law_face_here"]) {f_law_fine : Addr} {fd_law_fine : FuncData} (G_law_fine : FnD P w K mg base 2 f_law_fine fd_law_fine ["_law_box_here", "_law_letters_here"] F_law_fine) (A_law_fine : At K mg "_law_fine" f_law_fine fd_law_fine ["_law_box_here", "_law_letters_here"]) {f_law_take : Addr} {fd_law_take : FuncData} (G_law_take : FnD P w K mg base 1 f_law_take fd_law_take ["_law_box_here", "_law_many"] F_law_take) (A_law_take : At K mg "_law_take" f_law_take fd_law_take ["_law_box_here", "_law_many"]) {f_law_few : Addr} {fd_law_few : FuncData} (G_law_few : FnD P w K mg base 2 f_law_few fd_law_few ["_law_box_here", "_law_letters_here", "_law_sides"] F_law_few) (A_law_few : At K mg "_law_few" f_law_few fd_law_few ["_law_box_here", "_law_letters_here", "_law_sides"]) {f_is_table : Addr} {fd_is_table : FuncData} (G_is_table : FnD P w K mg base 5 f_is_table fd_is_table ["face", "thing"] F_is_table) (A_is_table : At K mg "is_table" f_is_table fd_is_table ["face", "thing"]) {f_law_gaps_right : Addr} {fd_law_gaps_right : FuncData} (G_law_gaps_right : FnD P w K mg base 8 f_law_gaps_right fd_law_gaps_right ["_law_face_here", "_law_table"] F_law_gaps_right) (A_law_gaps_right : At K mg "_law_gaps_right" f_law_gaps_right fd_law_gaps_right ["_law_face_here", "_law_table"]) {f_law_list_right : Addr} {fd_law_list_right : FuncData} (G_law_list_right : FnD P w K mg base 8 f_law_list_right fd_law_list_right ["_law_box_here", "_law_face_here", "_law_table"] F_law_list_right) (A_law_list_right : At K mg "_law_list_right" f_law_list_right fd_law_list_right ["_law_box_here", "_law_face_here", "_law_table"]) {f_law_table_text : Addr} {fd_law_table_text : FuncData} (G_law_table_text : FnD P w K mg base 2 f_law_table_text fd_law_table_text ["_law_table"] F_law_table_text) (A_law_table_text : At K mg "_law_table_text" f_law_table_text fd_law_table_text ["_law_table"]) {f_table_text : Addr} {fd_table_text : FuncData} (G_table_text : FnD P w K mg base 7 f_table_text fd_table_text ["face", "table"] F_table_text) (A_table_text : At K mg "table_text" f_table_text fd_table_text ["face", "table"]) {f_table_read : Addr} {fd_table_read : FuncData} (G_table_read : FnD P w K mg base 6 f_table_read fd_table_read ["face", "text"] F_table_read) (A_table_read : At K mg "table_read" f_table_read fd_table_read ["face", "text"]) (m_range : mg "range" = none) (m_len : mg "len" = none) (m_min : mg "min" = none) (m_max : mg "max" = none) (m_tuple : mg "tuple" = none) (m_repr : mg "repr" = none) : FnD P w K mg base 9 f fd ["_law_script"] F_law :=
  dfn F0 sc_law (fun _ _ _ _ _ _ o => (dss_cons (ds_for (vs := [1]) o (di_rng1 m_range (de_callB (dc_max2 o) m_max PyProof.Rows.boot_max (da_cons de_int (da_cons (de_callB (dc_min2 o) m_min PyProof.Rows.boot_min (da_cons (de_callB dc_len m_len boot_len (da_cons (de_var 0) da_nil)) (da_cons de_int da_nil))) da_nil)))) (dg_name 1 o.nd) (dss_cons (ds_set 2 o.nd (de_call o G_law_box A_law_box (by decide) (da_cons (de_var 0) (da_cons (de_var 1) da_nil)))) (dss_cons (ds_set 3 o.nd (de_call o G_law_face A_law_face (by decide) (da_cons (de_var 2) (da_cons de_int (da_cons de_int da_nil))))) (dss_cons (ds_set 4 o.nd (de_call o G_law_letters A_law_letters (by decide) (da_cons (de_var 3) da_nil))) (dss_cons (ds_asg (vs := [5, 6]) (de_tup (da_cons (de_call o G_law_fine A_law_fine (by decide) (da_cons (de_var 2) (da_cons (de_var 4) da_nil))) (da_cons (de_call o G_law_fine A_law_fine (by decide) (da_cons (de_var 2) (da_cons (de_var 4) da_nil))) da_nil))) (dg_tup o.calm (dgs_cons (dg_name 5 o.nd) (dgs_cons (dg_name 6 o.nd) dgs_nil)))) (dss_cons (ds_set 7 o.nd (de_callTy dc_tuple m_tuple PyProof.Rows.boot_tuple (da_cons (de_frz (dl_lc [("_law_left", 11)] o (di_seq (de_var 5)) (fun _ _ _ _ _ o => (dg_name 11 o.nd)) (fun _ _ _ _ _ o => dts_nil) (fun _ _ _ _ _ o => (de_callTy dc_tuple m_tuple PyProof.Rows.boot_tuple (da_cons (de_frz (dl_lc [("_law_right", 12)] o (di_seq (de_var 6)) (fun _ _ _ _ _ o => (dg_name 12 o.nd)) (fun _ _ _ _ _ o => dts_nil) (fun _ _ _ _ _ o => (de_bin do_sub (de_call o G_law_take A_law_take (by decide) (da_cons (de_var 2) (da_cons de_int da_nil))) de_int)))) da_nil))))) da_nil))) (dss_cons (ds_set 8 o.nd (de_tup (da_cons (de_var 5) (da_cons (de_var 6) (da_cons (de_var 7) (da_cons (de_call o G_law_few A_law_few (by decide) (da_cons (de_var 2) (da_cons (de_var 4) (da_cons (de_tup (da_cons (de_var 5) (da_cons (de_var 6) da_nil))) da_nil)))) da_nil)))))) (dss_cons (ds_if (dt_cmp do_notB (de_call o G_is_table A_is_table (by decide) (da_cons (de_var 3) (da_cons (de_var 8) da_nil))) de_bl) (dss_one (ds_ret de_bl)) dss_nil) (dss_cons (ds_for (vs := [9]) o (di_seq (de_frz (dl_lst (da_cons (de_tup (da_cons (de_item (de_var 4) de_int) (da_cons (de_callB dc_len m_len boot_len (da_cons (de_var 6) da_nil)) (da_cons de_int da_nil)))) (da_cons (de_tup (da_cons (de_callB dc_len m_len boot_len (da_cons (de_var 5) da_nil)) (da_cons (de_item (de_var 4) de_int) (da_cons de_int da_nil)))) da_nil))))) (dg_name 9 o.nd) (dss_one (ds_if (dt_cmp do_notB (de_call o G_is_table A_is_table (by decide) (da_cons (de_var 3) (da_cons (de_bin do_add (de_slice (de_var 8) dp_none (dp_some de_int)) (de_tup (da_cons (de_tup (da_cons (de_var 9) da_nil)) da_nil))) da_nil))) de_bl) (dss_one (ds_ret de_bl)) dss_nil))) (dss_cons (ds_if (dt_w (dw_or (dt_not (dt_val (de_call o G_law_gaps_right A_law_gaps_right (by decide) (da_cons (de_var 3) (da_cons (de_var 8) da_nil))))) (dw_or1 (dt_not (dt_val (de_call o G_law_list_right A_law_list_right (by decide) (da_cons (de_var 2) (da_cons (de_var 3) (da_cons (de_var 8) da_nil))))))))) (dss_one (ds_ret de_bl)) dss_nil) (dss_cons (ds_set 10 o.nd (de_call o G_law_table_text A_law_table_text (by decide) (da_cons (de_var 8) da_nil))) (dss_cons (ds_if (dt_cmp (do_ne o) (de_callB (dc_repr o) m_repr PyProof.Rows.boot_repr (da_cons (de_call o G_table_text A_table_text (by decide) (da_cons (de_var 3) (da_cons (de_var 8) da_nil))) da_nil)) (de_callB (dc_repr o) m_repr PyProof.Rows.boot_repr (da_cons (de_var 10) da_nil))) (dss_one (ds_ret de_bl)) dss_nil) (dss_one (ds_if (dt_w (dw_and (dt_cmp (do_ltX o) (de_callB dc_len m_len boot_len (da_cons (de_var 10) da_nil)) de_int) (dw_and1 (dt_cmp (do_ne o) (de_callB (dc_repr o) m_repr PyProof.Rows.boot_repr (da_cons (de_call o G_table_read A_table_read (by decide) (da_cons (de_var 3) (da_cons (de_var 10) da_nil))) da_nil)) (de_callB (dc_repr o) m_repr PyProof.Rows.boot_repr (da_cons (de_var 8) da_nil)))))) (dss_one (ds_ret de_bl)) dss_nil)))))))))))))) (dss_one (ds_ret de_bl))))
end
theorem all_mk {l : PySem.W.OpenLaw} {w : World} {K : PySem.W.Frag} {h : Heap} {mg : Str → Option Value} {fa : Addr} (X : K.In h) (G : h.Ns mainGlobals mg) (hfa : mg "law" = some (.ref fa))
    {f0 : Addr} {od0 an0 : Option Addr} {sl0 : Array (Option Value)} {oc0 kV0 dc0 pm0 cd0 ct0 : Value}
    {f1 : Addr} {od1 an1 : Option Addr} {sl1 : Array (Option Value)} {oc1 kV1 dc1 pm1 cd1 ct1 : Value}
    {f2 : Addr} {od2 an2 : Option Addr} {sl2 : Array (Option Value)} {oc2 kV2 dc2 pm2 cd2 ct2 : Value}
    {f3 : Addr} {od3 an3 : Option Addr} {sl3 : Array (Option Value)} {oc3 kV3 dc3 pm3 cd3 ct3 : Value}
    {f4 : Addr} {od4 an4 : Option Addr} {sl4 : Array (Option Value)} {oc4 kV4 dc4 pm4 cd4 ct4 : Value}
    {f5 : Addr} {od5 an5 : Option Addr} {sl5 : Array (Option Value)} {oc5 kV5 dc5 pm5 cd5 ct5 : Value}
    {f6 : Addr} {od6 an6 : Option Addr} {sl6 : Array (Option Value)} {oc6 kV6 dc6 pm6 cd6 ct6 : Value}
    {f7 : Addr} {od7 an7 : Option Addr} {sl7 : Array (Option Value)} {oc7 kV7 dc7 pm7 cd7 ct7 : Value}
    {f8 : Addr} {od8 an8 : Option Addr} {sl8 : Array (Option Value)} {oc8 kV8 dc8 pm8 cd8 ct8 : Value}
    {f9 : Addr} {od9 an9 : Option Addr} {sl9 : Array (Option Value)} {oc9 kV9 dc9 pm9 cd9 ct9 : Value}
    {f10 : Addr} {od10 an10 : Option Addr} {sl10 : Array (Option Value)} {oc10 kV10 dc10 pm10 cd10 ct10 : Value}
    {f11 : Addr} {od11 an11 : Option Addr} {sl11 : Array (Option Value)} {oc11 kV11 dc11 pm11 cd11 ct11 : Value}
    {f12 : Addr} {od12 an12 : Option Addr} {sl12 : Array (Option Value)} {oc12 kV12 dc12 pm12 cd12 ct12 : Value}
    {f13 : Addr} {od13 an13 : Option Addr} {sl13 : Array (Option Value)} {oc13 kV13 dc13 pm13 cd13 ct13 : Value}
    {f14 : Addr} {od14 an14 : Option Addr} {sl14 : Array (Option Value)} {oc14 kV14 dc14 pm14 cd14 ct14 : Value}
    {f15 : Addr} {od15 an15 : Option Addr} {sl15 : Array (Option Value)} {oc15 kV15 dc15 pm15 cd15 ct15 : Value}
    {f16 : Addr} {od16 an16 : Option Addr} {sl16 : Array (Option Value)} {oc16 kV16 dc16 pm16 cd16 ct16 : Value}
    {f17 : Addr} {od17 an17 : Option Addr} {sl17 : Array (Option Value)} {oc17 kV17 dc17 pm17 cd17 ct17 : Value}
    {f18 : Addr} {od18 an18 : Option Addr} {sl18 : Array (Option Value)} {oc18 kV18 dc18 pm18 cd18 ct18 : Value}
    {f19 : Addr} {od19 an19 : Option Addr} {sl19 : Array (Option Value)} {oc19 kV19 dc19 pm19 cd19 ct19 : Value}
    {f20 : Addr} {od20 an20 : Option Addr} {sl20 : Array (Option Value)} {oc20 kV20 dc20 pm20 cd20 ct20 : Value}
    {f21 : Addr} {od21 an21 : Option Addr} {sl21 : Array (Option Value)} {oc21 kV21 dc21 pm21 cd21 ct21 : Value}
    {f22 : Addr} {od22 an22 : Option Addr} {sl22 : Array (Option Value)} {oc22 kV22 dc22 pm22 cd22 ct22 : Value}
    {f23 : Addr} {od23 an23 : Option Addr} {sl23 : Array (Option Value)} {oc23 kV23 dc23 pm23 cd23 ct23 : Value}
    {f24 : Addr} {od24 an24 : Option Addr} {sl24 : Array (Option Value)} {oc24 kV24 dc24 pm24 cd24 ct24 : Value}
    {f25 : Addr} {od25 an25 : Option Addr} {sl25 : Array (Option Value)} {oc25 kV25 dc25 pm25 cd25 ct25 : Value}
    {f26 : Addr} {od26 an26 : Option Addr} {sl26 : Array (Option Value)} {oc26 kV26 dc26 pm26 cd26 ct26 : Value}
    {f27 : Addr} {od27 an27 : Option Addr} {sl27 : Array (Option Value)} {oc27 kV27 dc27 pm27 cd27 ct27 : Value}
    {f28 : Addr} {od28 an28 : Option Addr} {sl28 : Array (Option Value)} {oc28 kV28 dc28 pm28 cd28 ct28 : Value}
    {f29 : Addr} {od29 an29 : Option Addr} {sl29 : Array (Option Value)} {oc29 kV29 dc29 pm29 cd29 ct29 : Value}
    {f30 : Addr} {od30 an30 : Option Addr} {sl30 : Array (Option Value)} {oc30 kV30 dc30 pm30 cd30 ct30 : Value}
    {f31 : Addr} {od31 an31 : Option Addr} {sl31 : Array (Option Value)} {oc31 kV31 dc31 pm31 cd31 ct31 : Value}
    {f32 : Addr} {od32 an32 : Option Addr} {sl32 : Array (Option Value)} {oc32 kV32 dc32 pm32 cd32 ct32 : Value}
    {f33 : Addr} {od33 an33 : Option Addr} {sl33 : Array (Option Value)} {oc33 kV33 dc33 pm33 cd33 ct33 : Value}
    {f34 : Addr} {od34 an34 : Option Addr} {sl34 : Array (Option Value)} {oc34 kV34 dc34 pm34 cd34 ct34 : Value}
    {f35 : Addr} {od35 an35 : Option Addr} {sl35 : Array (Option Value)} {oc35 kV35 dc35 pm35 cd35 ct35 : Value}
    {f36 : Addr} {od36 an36 : Option Addr} {sl36 : Array (Option Value)} {oc36 kV36 dc36 pm36 cd36 ct36 : Value}
    {f37 : Addr} {od37 an37 : Option Addr} {sl37 : Array (Option Value)} {oc37 kV37 dc37 pm37 cd37 ct37 : Value}
    {f38 : Addr} {od38 an38 : Option Addr} {sl38 : Array (Option Value)} {oc38 kV38 dc38 pm38 cd38 ct38 : Value}
    {f39 : Addr} {od39 an39 : Option Addr} {sl39 : Array (Option Value)} {oc39 kV39 dc39 pm39 cd39 ct39 : Value}
    {f40 : Addr} {od40 an40 : Option Addr} {sl40 : Array (Option Value)} {oc40 kV40 dc40 pm40 cd40 ct40 : Value}
    {f41 : Addr} {od41 an41 : Option Addr} {sl41 : Array (Option Value)} {oc41 kV41 dc41 pm41 cd41 ct41 : Value}
    {f42 : Addr} {od42 an42 : Option Addr} {sl42 : Array (Option Value)} {oc42 kV42 dc42 pm42 cd42 ct42 : Value}
    {f43 : Addr} {od43 an43 : Option Addr} {sl43 : Array (Option Value)} {oc43 kV43 dc43 pm43 cd43 ct43 : Value}
    {f44 : Addr} {od44 an44 : Option Addr} {sl44 : Array (Option Value)} {oc44 kV44 dc44 pm44 cd44 ct44 : Value}
    {f45 : Addr} {od45 an45 : Option Addr} {sl45 : Array (Option Value)} {oc45 kV45 dc45 pm45 cd45 ct45 : Value}
    {a_NoLetter b_NoLetter n_NoLetter m_NoLetter : Addr} {cd_NoLetter cb_NoLetter : ClassData} {d1_NoLetter d2_NoLetter d3_NoLetter d4_NoLetter : Option Addr} {sl_NoLetter sb_NoLetter sn_NoLetter sm_NoLetter : Array (Option Value)} {c3_NoLetter c4_NoLetter : Value} {es_NoLetter em_NoLetter : Array DictEntry} {ep_NoLetter eq_NoLetter : Nat} {s1_NoLetter s2_NoLetter s3_NoLetter s4_NoLetter s6_NoLetter : Option Value}
    {a_NoTable b_NoTable n_NoTable m_NoTable : Addr} {cd_NoTable cb_NoTable : ClassData} {d1_NoTable d2_NoTable d3_NoTable d4_NoTable : Option Addr} {sl_NoTable sb_NoTable sn_NoTable sm_NoTable : Array (Option Value)} {c3_NoTable c4_NoTable : Value} {es_NoTable em_NoTable : Array DictEntry} {ep_NoTable eq_NoTable : Nat} {s1_NoTable s2_NoTable s3_NoTable s4_NoTable s6_NoTable : Option Value}
    {a_NoText b_NoText n_NoText m_NoText : Addr} {cd_NoText cb_NoText : ClassData} {d1_NoText d2_NoText d3_NoText d4_NoText : Option Addr} {sl_NoText sb_NoText sn_NoText sm_NoText : Array (Option Value)} {c3_NoText c4_NoText : Value} {es_NoText em_NoText : Array DictEntry} {ep_NoText eq_NoText : Nat} {s1_NoText s2_NoText s3_NoText s4_NoText s6_NoText : Option Value}
    {t_FAR : Tok}
    {t_FIGURES : Tok}
    (a0 : PySem.W.nsIn K mainGlobals "is_from_to" = some (some (.ref f0))) (l0 : K.lookup f0 = some ⟨oc0, od0, .func (PySem.W.fnOf "is_from_to" "is_from_to" (defArgs s_is_from_to) (defBody s_is_from_to) (defScope s_is_from_to) .none kV0 dc0 pm0 an0 cd0 ct0), sl0⟩) (c0 : PySem.W.codeIn K cd0 "is_from_to" = true) (k0 : PySem.W.keepIn K (.ref f0) = true)
    (a1 : PySem.W.nsIn K mainGlobals "is_gap" = some (some (.ref f1))) (l1 : K.lookup f1 = some ⟨oc1, od1, .func (PySem.W.fnOf "is_gap" "is_gap" (defArgs s_is_gap) (defBody s_is_gap) (defScope s_is_gap) .none kV1 dc1 pm1 an1 cd1 ct1), sl1⟩) (c1 : PySem.W.codeIn K cd1 "is_gap" = true) (k1 : PySem.W.keepIn K (.ref f1) = true)
    (a2 : PySem.W.nsIn K mainGlobals "letters_of" = some (some (.ref f2))) (l2 : K.lookup f2 = some ⟨oc2, od2, .func (PySem.W.fnOf "letters_of" "letters_of" (defArgs s_letters_of) (defBody s_letters_of) (defScope s_letters_of) .none kV2 dc2 pm2 an2 cd2 ct2), sl2⟩) (c2 : PySem.W.codeIn K cd2 "letters_of" = true) (k2 : PySem.W.keepIn K (.ref f2) = true)
    (a3 : PySem.W.nsIn K mainGlobals "place_of" = some (some (.ref f3))) (l3 : K.lookup f3 = some ⟨oc3, od3, .func (PySem.W.fnOf "place_of" "place_of" (defArgs s_place_of) (defBody s_place_of) (defScope s_place_of) .none kV3 dc3 pm3 an3 cd3 ct3), sl3⟩) (c3 : PySem.W.codeIn K cd3 "place_of" = true) (k3 : PySem.W.keepIn K (.ref f3) = true)
    (a4 : PySem.W.nsIn K mainGlobals "need_letter" = some (some (.ref f4))) (l4 : K.lookup f4 = some ⟨oc4, od4, .func (PySem.W.fnOf "need_letter" "need_letter" (defArgs s_need_letter) (defBody s_need_letter) (defScope s_need_letter) .none kV4 dc4 pm4 an4 cd4 ct4), sl4⟩) (c4 : PySem.W.codeIn K cd4 "need_letter" = true) (k4 : PySem.W.keepIn K (.ref f4) = true)
    (a5 : PySem.W.nsIn K mainGlobals "gap_in" = some (some (.ref f5))) (l5 : K.lookup f5 = some ⟨oc5, od5, .func (PySem.W.fnOf "gap_in" "gap_in" (defArgs s_gap_in) (defBody s_gap_in) (defScope s_gap_in) .none kV5 dc5 pm5 an5 cd5 ct5), sl5⟩) (c5 : PySem.W.codeIn K cd5 "gap_in" = true) (k5 : PySem.W.keepIn K (.ref f5) = true)
    (a6 : PySem.W.nsIn K mainGlobals "from_rows" = some (some (.ref f6))) (l6 : K.lookup f6 = some ⟨oc6, od6, .func (PySem.W.fnOf "from_rows" "from_rows" (defArgs s_from_rows) (defBody s_from_rows) (defScope s_from_rows) .none kV6 dc6 pm6 an6 cd6 ct6), sl6⟩) (c6 : PySem.W.codeIn K cd6 "from_rows" = true) (k6 : PySem.W.keepIn K (.ref f6) = true)
    (a7 : PySem.W.nsIn K mainGlobals "all_pairs" = some (some (.ref f7))) (l7 : K.lookup f7 = some ⟨oc7, od7, .func (PySem.W.fnOf "all_pairs" "all_pairs" (defArgs s_all_pairs) (defBody s_all_pairs) (defScope s_all_pairs) .none kV7 dc7 pm7 an7 cd7 ct7), sl7⟩) (c7 : PySem.W.codeIn K cd7 "all_pairs" = true) (k7 : PySem.W.keepIn K (.ref f7) = true)
    (a8 : PySem.W.nsIn K mainGlobals "is_parting" = some (some (.ref f8))) (l8 : K.lookup f8 = some ⟨oc8, od8, .func (PySem.W.fnOf "is_parting" "is_parting" (defArgs s_is_parting) (defBody s_is_parting) (defScope s_is_parting) .none kV8 dc8 pm8 an8 cd8 ct8), sl8⟩) (c8 : PySem.W.codeIn K cd8 "is_parting" = true) (k8 : PySem.W.keepIn K (.ref f8) = true)
    (a9 : PySem.W.nsIn K mainGlobals "class_in" = some (some (.ref f9))) (l9 : K.lookup f9 = some ⟨oc9, od9, .func (PySem.W.fnOf "class_in" "class_in" (defArgs s_class_in) (defBody s_class_in) (defScope s_class_in) .none kV9 dc9 pm9 an9 cd9 ct9), sl9⟩) (c9 : PySem.W.codeIn K cd9 "class_in" = true) (k9 : PySem.W.keepIn K (.ref f9) = true)
    (a10 : PySem.W.nsIn K mainGlobals "is_gaps" = some (some (.ref f10))) (l10 : K.lookup f10 = some ⟨oc10, od10, .func (PySem.W.fnOf "is_gaps" "is_gaps" (defArgs s_is_gaps) (defBody s_is_gaps) (defScope s_is_gaps) .none kV10 dc10 pm10 an10 cd10 ct10), sl10⟩) (c10 : PySem.W.codeIn K cd10 "is_gaps" = true) (k10 : PySem.W.keepIn K (.ref f10) = true)
    (a11 : PySem.W.nsIn K mainGlobals "key_of" = some (some (.ref f11))) (l11 : K.lookup f11 = some ⟨oc11, od11, .func (PySem.W.fnOf "key_of" "key_of" (defArgs s_key_of) (defBody s_key_of) (defScope s_key_of) .none kV11 dc11 pm11 an11 cd11 ct11), sl11⟩) (c11 : PySem.W.codeIn K cd11 "key_of" = true) (k11 : PySem.W.keepIn K (.ref f11) = true)
    (a12 : PySem.W.nsIn K mainGlobals "are_exceptions" = some (some (.ref f12))) (l12 : K.lookup f12 = some ⟨oc12, od12, .func (PySem.W.fnOf "are_exceptions" "are_exceptions" (defArgs s_are_exceptions) (defBody s_are_exceptions) (defScope s_are_exceptions) .none kV12 dc12 pm12 an12 cd12 ct12), sl12⟩) (c12 : PySem.W.codeIn K cd12 "are_exceptions" = true) (k12 : PySem.W.keepIn K (.ref f12) = true)
    (a13 : PySem.W.nsIn K mainGlobals "is_table" = some (some (.ref f13))) (l13 : K.lookup f13 = some ⟨oc13, od13, .func (PySem.W.fnOf "is_table" "is_table" (defArgs s_is_table) (defBody s_is_table) (defScope s_is_table) .none kV13 dc13 pm13 an13 cd13 ct13), sl13⟩) (c13 : PySem.W.codeIn K cd13 "is_table" = true) (k13 : PySem.W.keepIn K (.ref f13) = true)
    (a14 : PySem.W.nsIn K mainGlobals "need_table" = some (some (.ref f14))) (l14 : K.lookup f14 = some ⟨oc14, od14, .func (PySem.W.fnOf "need_table" "need_table" (defArgs s_need_table) (defBody s_need_table) (defScope s_need_table) .none kV14 dc14 pm14 an14 cd14 ct14), sl14⟩) (c14 : PySem.W.codeIn K cd14 "need_table" = true) (k14 : PySem.W.keepIn K (.ref f14) = true)
    (a15 : PySem.W.nsIn K mainGlobals "told_in" = some (some (.ref f15))) (l15 : K.lookup f15 = some ⟨oc15, od15, .func (PySem.W.fnOf "told_in" "told_in" (defArgs s_told_in) (defBody s_told_in) (defScope s_told_in) .none kV15 dc15 pm15 an15 cd15 ct15), sl15⟩) (c15 : PySem.W.codeIn K cd15 "told_in" = true) (k15 : PySem.W.keepIn K (.ref f15) = true)
    (a16 : PySem.W.nsIn K mainGlobals "gap_by" = some (some (.ref f16))) (l16 : K.lookup f16 = some ⟨oc16, od16, .func (PySem.W.fnOf "gap_by" "gap_by" (defArgs s_gap_by) (defBody s_gap_by) (defScope s_gap_by) .none kV16 dc16 pm16 an16 cd16 ct16), sl16⟩) (c16 : PySem.W.codeIn K cd16 "gap_by" = true) (k16 : PySem.W.keepIn K (.ref f16) = true)
    (a17 : PySem.W.nsIn K mainGlobals "told_by" = some (some (.ref f17))) (l17 : K.lookup f17 = some ⟨oc17, od17, .func (PySem.W.fnOf "told_by" "told_by" (defArgs s_told_by) (defBody s_told_by) (defScope s_told_by) .none kV17 dc17 pm17 an17 cd17 ct17), sl17⟩) (c17 : PySem.W.codeIn K cd17 "told_by" = true) (k17 : PySem.W.keepIn K (.ref f17) = true)
    (a18 : PySem.W.nsIn K mainGlobals "listed" = some (some (.ref f18))) (l18 : K.lookup f18 = some ⟨oc18, od18, .func (PySem.W.fnOf "listed" "listed" (defArgs s_listed) (defBody s_listed) (defScope s_listed) .none kV18 dc18 pm18 an18 cd18 ct18), sl18⟩) (c18 : PySem.W.codeIn K cd18 "listed" = true) (k18 : PySem.W.keepIn K (.ref f18) = true)
    (a19 : PySem.W.nsIn K mainGlobals "list_by" = some (some (.ref f19))) (l19 : K.lookup f19 = some ⟨oc19, od19, .func (PySem.W.fnOf "list_by" "list_by" (defArgs s_list_by) (defBody s_list_by) (defScope s_list_by) .none kV19 dc19 pm19 an19 cd19 ct19), sl19⟩) (c19 : PySem.W.codeIn K cd19 "list_by" = true) (k19 : PySem.W.keepIn K (.ref f19) = true)
    (a20 : PySem.W.nsIn K mainGlobals "first_unlike" = some (some (.ref f20))) (l20 : K.lookup f20 = some ⟨oc20, od20, .func (PySem.W.fnOf "first_unlike" "first_unlike" (defArgs s_first_unlike) (defBody s_first_unlike) (defScope s_first_unlike) .none kV20 dc20 pm20 an20 cd20 ct20), sl20⟩) (c20 : PySem.W.codeIn K cd20 "first_unlike" = true) (k20 : PySem.W.keepIn K (.ref f20) = true)
    (a21 : PySem.W.nsIn K mainGlobals "number_in" = some (some (.ref f21))) (l21 : K.lookup f21 = some ⟨oc21, od21, .func (PySem.W.fnOf "number_in" "number_in" (defArgs s_number_in) (defBody s_number_in) (defScope s_number_in) .none kV21 dc21 pm21 an21 cd21 ct21), sl21⟩) (c21 : PySem.W.codeIn K cd21 "number_in" = true) (k21 : PySem.W.keepIn K (.ref f21) = true)
    (a22 : PySem.W.nsIn K mainGlobals "side_text" = some (some (.ref f22))) (l22 : K.lookup f22 = some ⟨oc22, od22, .func (PySem.W.fnOf "side_text" "side_text" (defArgs s_side_text) (defBody s_side_text) (defScope s_side_text) .none kV22 dc22 pm22 an22 cd22 ct22), sl22⟩) (c22 : PySem.W.codeIn K cd22 "side_text" = true) (k22 : PySem.W.keepIn K (.ref f22) = true)
    (a23 : PySem.W.nsIn K mainGlobals "parting_text" = some (some (.ref f23))) (l23 : K.lookup f23 = some ⟨oc23, od23, .func (PySem.W.fnOf "parting_text" "parting_text" (defArgs s_parting_text) (defBody s_parting_text) (defScope s_parting_text) .none kV23 dc23 pm23 an23 cd23 ct23), sl23⟩) (c23 : PySem.W.codeIn K cd23 "parting_text" = true) (k23 : PySem.W.keepIn K (.ref f23) = true)
    (a24 : PySem.W.nsIn K mainGlobals "exceptions_text" = some (some (.ref f24))) (l24 : K.lookup f24 = some ⟨oc24, od24, .func (PySem.W.fnOf "exceptions_text" "exceptions_text" (defArgs s_exceptions_text) (defBody s_exceptions_text) (defScope s_exceptions_text) .none kV24 dc24 pm24 an24 cd24 ct24), sl24⟩) (c24 : PySem.W.codeIn K cd24 "exceptions_text" = true) (k24 : PySem.W.keepIn K (.ref f24) = true)
    (a25 : PySem.W.nsIn K mainGlobals "text_of" = some (some (.ref f25))) (l25 : K.lookup f25 = some ⟨oc25, od25, .func (PySem.W.fnOf "text_of" "text_of" (defArgs s_text_of) (defBody s_text_of) (defScope s_text_of) .none kV25 dc25 pm25 an25 cd25 ct25), sl25⟩) (c25 : PySem.W.codeIn K cd25 "text_of" = true) (k25 : PySem.W.keepIn K (.ref f25) = true)
    (a26 : PySem.W.nsIn K mainGlobals "table_text" = some (some (.ref f26))) (l26 : K.lookup f26 = some ⟨oc26, od26, .func (PySem.W.fnOf "table_text" "table_text" (defArgs s_table_text) (defBody s_table_text) (defScope s_table_text) .none kV26 dc26 pm26 an26 cd26 ct26), sl26⟩) (c26 : PySem.W.codeIn K cd26 "table_text" = true) (k26 : PySem.W.keepIn K (.ref f26) = true)
    (a27 : PySem.W.nsIn K mainGlobals "sides_in" = some (some (.ref f27))) (l27 : K.lookup f27 = some ⟨oc27, od27, .func (PySem.W.fnOf "sides_in" "sides_in" (defArgs s_sides_in) (defBody s_sides_in) (defScope s_sides_in) .none kV27 dc27 pm27 an27 cd27 ct27), sl27⟩) (c27 : PySem.W.codeIn K cd27 "sides_in" = true) (k27 : PySem.W.keepIn K (.ref f27) = true)
    (a28 : PySem.W.nsIn K mainGlobals "exceptions_by" = some (some (.ref f28))) (l28 : K.lookup f28 = some ⟨oc28, od28, .func (PySem.W.fnOf "exceptions_by" "exceptions_by" (defArgs s_exceptions_by) (defBody s_exceptions_by) (defScope s_exceptions_by) .none kV28 dc28 pm28 an28 cd28 ct28), sl28⟩) (c28 : PySem.W.codeIn K cd28 "exceptions_by" = true) (k28 : PySem.W.keepIn K (.ref f28) = true)
    (a29 : PySem.W.nsIn K mainGlobals "parting_by" = some (some (.ref f29))) (l29 : K.lookup f29 = some ⟨oc29, od29, .func (PySem.W.fnOf "parting_by" "parting_by" (defArgs s_parting_by) (defBody s_parting_by) (defScope s_parting_by) .none kV29 dc29 pm29 an29 cd29 ct29), sl29⟩) (c29 : PySem.W.codeIn K cd29 "parting_by" = true) (k29 : PySem.W.keepIn K (.ref f29) = true)
    (a30 : PySem.W.nsIn K mainGlobals "table_read" = some (some (.ref f30))) (l30 : K.lookup f30 = some ⟨oc30, od30, .func (PySem.W.fnOf "table_read" "table_read" (defArgs s_table_read) (defBody s_table_read) (defScope s_table_read) .none kV30 dc30 pm30 an30 cd30 ct30), sl30⟩) (c30 : PySem.W.codeIn K cd30 "table_read" = true) (k30 : PySem.W.keepIn K (.ref f30) = true)
    (a31 : PySem.W.nsIn K mainGlobals "_law_box" = some (some (.ref f31))) (l31 : K.lookup f31 = some ⟨oc31, od31, .func (PySem.W.fnOf "_law_box" "_law_box" (defArgs s_law_box) (defBody s_law_box) (defScope s_law_box) .none kV31 dc31 pm31 an31 cd31 ct31), sl31⟩) (c31 : PySem.W.codeIn K cd31 "_law_box" = true) (k31 : PySem.W.keepIn K (.ref f31) = true)
    (a32 : PySem.W.nsIn K mainGlobals "_law_take" = some (some (.ref f32))) (l32 : K.lookup f32 = some ⟨oc32, od32, .func (PySem.W.fnOf "_law_take" "_law_take" (defArgs s_law_take) (defBody s_law_take) (defScope s_law_take) .none kV32 dc32 pm32 an32 cd32 ct32), sl32⟩) (c32 : PySem.W.codeIn K cd32 "_law_take" = true) (k32 : PySem.W.keepIn K (.ref f32) = true)
    (a33 : PySem.W.nsIn K mainGlobals "_law_face" = some (some (.ref f33))) (l33 : K.lookup f33 = some ⟨oc33, od33, .func (PySem.W.fnOf "_law_face" "_law_face" (defArgs s_law_face) (defBody s_law_face) (defScope s_law_face) .none kV33 dc33 pm33 an33 cd33 ct33), sl33⟩) (c33 : PySem.W.codeIn K cd33 "_law_face" = true) (k33 : PySem.W.keepIn K (.ref f33) = true)
    (a34 : PySem.W.nsIn K mainGlobals "_law_letters" = some (some (.ref f34))) (l34 : K.lookup f34 = some ⟨oc34, od34, .func (PySem.W.fnOf "_law_letters" "_law_letters" (defArgs s_law_letters) (defBody s_law_letters) (defScope s_law_letters) .none kV34 dc34 pm34 an34 cd34 ct34), sl34⟩) (c34 : PySem.W.codeIn K cd34 "_law_letters" = true) (k34 : PySem.W.keepIn K (.ref f34) = true)
    (a35 : PySem.W.nsIn K mainGlobals "_law_list" = some (some (.ref f35))) (l35 : K.lookup f35 = some ⟨oc35, od35, .func (PySem.W.fnOf "_law_list" "_law_list" (defArgs s_law_list) (defBody s_law_list) (defScope s_law_list) .none kV35 dc35 pm35 an35 cd35 ct35), sl35⟩) (c35 : PySem.W.codeIn K cd35 "_law_list" = true) (k35 : PySem.W.keepIn K (.ref f35) = true)
    (a36 : PySem.W.nsIn K mainGlobals "_law_grouped" = some (some (.ref f36))) (l36 : K.lookup f36 = some ⟨oc36, od36, .func (PySem.W.fnOf "_law_grouped" "_law_grouped" (defArgs s_law_grouped) (defBody s_law_grouped) (defScope s_law_grouped) .none kV36 dc36 pm36 an36 cd36 ct36), sl36⟩) (c36 : PySem.W.codeIn K cd36 "_law_grouped" = true) (k36 : PySem.W.keepIn K (.ref f36) = true)
    (a37 : PySem.W.nsIn K mainGlobals "_law_class" = some (some (.ref f37))) (l37 : K.lookup f37 = some ⟨oc37, od37, .func (PySem.W.fnOf "_law_class" "_law_class" (defArgs s_law_class) (defBody s_law_class) (defScope s_law_class) .none kV37 dc37 pm37 an37 cd37 ct37), sl37⟩) (c37 : PySem.W.codeIn K cd37 "_law_class" = true) (k37 : PySem.W.keepIn K (.ref f37) = true)
    (a38 : PySem.W.nsIn K mainGlobals "_law_told" = some (some (.ref f38))) (l38 : K.lookup f38 = some ⟨oc38, od38, .func (PySem.W.fnOf "_law_told" "_law_told" (defArgs s_law_told) (defBody s_law_told) (defScope s_law_told) .none kV38 dc38 pm38 an38 cd38 ct38), sl38⟩) (c38 : PySem.W.codeIn K cd38 "_law_told" = true) (k38 : PySem.W.keepIn K (.ref f38) = true)
    (a39 : PySem.W.nsIn K mainGlobals "_law_side_text" = some (some (.ref f39))) (l39 : K.lookup f39 = some ⟨oc39, od39, .func (PySem.W.fnOf "_law_side_text" "_law_side_text" (defArgs s_law_side_text) (defBody s_law_side_text) (defScope s_law_side_text) .none kV39 dc39 pm39 an39 cd39 ct39), sl39⟩) (c39 : PySem.W.codeIn K cd39 "_law_side_text" = true) (k39 : PySem.W.keepIn K (.ref f39) = true)
    (a40 : PySem.W.nsIn K mainGlobals "_law_table_text" = some (some (.ref f40))) (l40 : K.lookup f40 = some ⟨oc40, od40, .func (PySem.W.fnOf "_law_table_text" "_law_table_text" (defArgs s_law_table_text) (defBody s_law_table_text) (defScope s_law_table_text) .none kV40 dc40 pm40 an40 cd40 ct40), sl40⟩) (c40 : PySem.W.codeIn K cd40 "_law_table_text" = true) (k40 : PySem.W.keepIn K (.ref f40) = true)
    (a41 : PySem.W.nsIn K mainGlobals "_law_fine" = some (some (.ref f41))) (l41 : K.lookup f41 = some ⟨oc41, od41, .func (PySem.W.fnOf "_law_fine" "_law_fine" (defArgs s_law_fine) (defBody s_law_fine) (defScope s_law_fine) .none kV41 dc41 pm41 an41 cd41 ct41), sl41⟩) (c41 : PySem.W.codeIn K cd41 "_law_fine" = true) (k41 : PySem.W.keepIn K (.ref f41) = true)
    (a42 : PySem.W.nsIn K mainGlobals "_law_few" = some (some (.ref f42))) (l42 : K.lookup f42 = some ⟨oc42, od42, .func (PySem.W.fnOf "_law_few" "_law_few" (defArgs s_law_few) (defBody s_law_few) (defScope s_law_few) .none kV42 dc42 pm42 an42 cd42 ct42), sl42⟩) (c42 : PySem.W.codeIn K cd42 "_law_few" = true) (k42 : PySem.W.keepIn K (.ref f42) = true)
    (a43 : PySem.W.nsIn K mainGlobals "_law_gaps_right" = some (some (.ref f43))) (l43 : K.lookup f43 = some ⟨oc43, od43, .func (PySem.W.fnOf "_law_gaps_right" "_law_gaps_right" (defArgs s_law_gaps_right) (defBody s_law_gaps_right) (defScope s_law_gaps_right) .none kV43 dc43 pm43 an43 cd43 ct43), sl43⟩) (c43 : PySem.W.codeIn K cd43 "_law_gaps_right" = true) (k43 : PySem.W.keepIn K (.ref f43) = true)
    (a44 : PySem.W.nsIn K mainGlobals "_law_list_right" = some (some (.ref f44))) (l44 : K.lookup f44 = some ⟨oc44, od44, .func (PySem.W.fnOf "_law_list_right" "_law_list_right" (defArgs s_law_list_right) (defBody s_law_list_right) (defScope s_law_list_right) .none kV44 dc44 pm44 an44 cd44 ct44), sl44⟩) (c44 : PySem.W.codeIn K cd44 "_law_list_right" = true) (k44 : PySem.W.keepIn K (.ref f44) = true)
    (a45 : PySem.W.nsIn K mainGlobals "law" = some (some (.ref f45))) (l45 : K.lookup f45 = some ⟨oc45, od45, .func (PySem.W.fnOf "law" "law" (defArgs s_law) (defBody s_law) (defScope s_law) .none kV45 dc45 pm45 an45 cd45 ct45), sl45⟩) (c45 : PySem.W.codeIn K cd45 "law" = true) (k45 : PySem.W.keepIn K (.ref f45) = true)
    (xa_NoLetter : PySem.W.nsIn K mainGlobals "NoLetter" = some (some (.ref a_NoLetter))) (h1_NoLetter : K.lookup a_NoLetter = some ⟨.type "type", d1_NoLetter, .cls cd_NoLetter, sl_NoLetter⟩) (q1_NoLetter : cd_NoLetter.mro = .ref a_NoLetter :: .ref b_NoLetter :: veTail) (q2_NoLetter : sl_NoLetter.toList = [s1_NoLetter, s2_NoLetter, s3_NoLetter, s4_NoLetter, some (.builtin "ValueError.__new__"), s6_NoLetter]) (q3_NoLetter : cd_NoLetter.hasDel = false) (q4_NoLetter : cd_NoLetter.ns = n_NoLetter) (h2_NoLetter : K.lookup n_NoLetter = some ⟨c3_NoLetter, d3_NoLetter, .dict es_NoLetter ep_NoLetter, sn_NoLetter⟩) (q5_NoLetter : allStr es_NoLetter = true) (n1_NoLetter : PySem.W.nsIn K n_NoLetter "__init__" = some none) (h3_NoLetter : K.lookup b_NoLetter = some ⟨.type "type", d2_NoLetter, .cls cb_NoLetter, sb_NoLetter⟩) (q6_NoLetter : cb_NoLetter.ns = m_NoLetter) (h4_NoLetter : K.lookup m_NoLetter = some ⟨c4_NoLetter, d4_NoLetter, .dict em_NoLetter eq_NoLetter, sm_NoLetter⟩) (q7_NoLetter : allStr em_NoLetter = true) (n2_NoLetter : PySem.W.nsIn K m_NoLetter "__init__" = some none) (xk_NoLetter : PySem.W.keepIn K (.ref a_NoLetter) = true) (xb_NoLetter : PySem.W.subIn K (.ref a_NoLetter) (.type "BaseException") = some true) (xt_NoLetter : PySem.W.typeIn K (.ref a_NoLetter) = some (.type "type"))
    (xa_NoTable : PySem.W.nsIn K mainGlobals "NoTable" = some (some (.ref a_NoTable))) (h1_NoTable : K.lookup a_NoTable = some ⟨.type "type", d1_NoTable, .cls cd_NoTable, sl_NoTable⟩) (q1_NoTable : cd_NoTable.mro = .ref a_NoTable :: .ref b_NoTable :: veTail) (q2_NoTable : sl_NoTable.toList = [s1_NoTable, s2_NoTable, s3_NoTable, s4_NoTable, some (.builtin "ValueError.__new__"), s6_NoTable]) (q3_NoTable : cd_NoTable.hasDel = false) (q4_NoTable : cd_NoTable.ns = n_NoTable) (h2_NoTable : K.lookup n_NoTable = some ⟨c3_NoTable, d3_NoTable, .dict es_NoTable ep_NoTable, sn_NoTable⟩) (q5_NoTable : allStr es_NoTable = true) (n1_NoTable : PySem.W.nsIn K n_NoTable "__init__" = some none) (h3_NoTable : K.lookup b_NoTable = some ⟨.type "type", d2_NoTable, .cls cb_NoTable, sb_NoTable⟩) (q6_NoTable : cb_NoTable.ns = m_NoTable) (h4_NoTable : K.lookup m_NoTable = some ⟨c4_NoTable, d4_NoTable, .dict em_NoTable eq_NoTable, sm_NoTable⟩) (q7_NoTable : allStr em_NoTable = true) (n2_NoTable : PySem.W.nsIn K m_NoTable "__init__" = some none) (xk_NoTable : PySem.W.keepIn K (.ref a_NoTable) = true) (xb_NoTable : PySem.W.subIn K (.ref a_NoTable) (.type "BaseException") = some true) (xt_NoTable : PySem.W.typeIn K (.ref a_NoTable) = some (.type "type"))
    (xa_NoText : PySem.W.nsIn K mainGlobals "NoText" = some (some (.ref a_NoText))) (h1_NoText : K.lookup a_NoText = some ⟨.type "type", d1_NoText, .cls cd_NoText, sl_NoText⟩) (q1_NoText : cd_NoText.mro = .ref a_NoText :: .ref b_NoText :: veTail) (q2_NoText : sl_NoText.toList = [s1_NoText, s2_NoText, s3_NoText, s4_NoText, some (.builtin "ValueError.__new__"), s6_NoText]) (q3_NoText : cd_NoText.hasDel = false) (q4_NoText : cd_NoText.ns = n_NoText) (h2_NoText : K.lookup n_NoText = some ⟨c3_NoText, d3_NoText, .dict es_NoText ep_NoText, sn_NoText⟩) (q5_NoText : allStr es_NoText = true) (n1_NoText : PySem.W.nsIn K n_NoText "__init__" = some none) (h3_NoText : K.lookup b_NoText = some ⟨.type "type", d2_NoText, .cls cb_NoText, sb_NoText⟩) (q6_NoText : cb_NoText.ns = m_NoText) (h4_NoText : K.lookup m_NoText = some ⟨c4_NoText, d4_NoText, .dict em_NoText eq_NoText, sm_NoText⟩) (q7_NoText : allStr em_NoText = true) (n2_NoText : PySem.W.nsIn K m_NoText "__init__" = some none) (xk_NoText : PySem.W.keepIn K (.ref a_NoText) = true) (xb_NoText : PySem.W.subIn K (.ref a_NoText) (.type "BaseException") = some true) (xt_NoText : PySem.W.typeIn K (.ref a_NoText) = some (.type "type"))
    (zc_FAR : PySem.W.nsIn K mainGlobals "FAR" = some (some (.int 9 t_FAR)))
    (zc_FIGURES : PySem.W.nsIn K mainGlobals "FIGURES" = some (some (.str "0123456789" t_FIGURES)))
    (z_isinstance : PySem.W.nsIn K mainGlobals "isinstance" = some none)
    (z_int : PySem.W.nsIn K mainGlobals "int" = some none)
    (z_bool : PySem.W.nsIn K mainGlobals "bool" = some none)
    (z_tuple : PySem.W.nsIn K mainGlobals "tuple" = some none)
    (z_enumerate : PySem.W.nsIn K mainGlobals "enumerate" = some none)
    (z_zip : PySem.W.nsIn K mainGlobals "zip" = some none)
    (z_sorted : PySem.W.nsIn K mainGlobals "sorted" = some none)
    (z_sum : PySem.W.nsIn K mainGlobals "sum" = some none)
    (z_list : PySem.W.nsIn K mainGlobals "list" = some none)
    (z_range : PySem.W.nsIn K mainGlobals "range" = some none)
    (z_len : PySem.W.nsIn K mainGlobals "len" = some none)
    (z_all : PySem.W.nsIn K mainGlobals "all" = some none)
    (z_str : PySem.W.nsIn K mainGlobals "str" = some none)
    (z_abs : PySem.W.nsIn K mainGlobals "abs" = some none)
    (z_divmod : PySem.W.nsIn K mainGlobals "divmod" = some none)
    (z_repr : PySem.W.nsIn K mainGlobals "repr" = some none)
    (z_min : PySem.W.nsIn K mainGlobals "min" = some none)
    (z_max : PySem.W.nsIn K mainGlobals "max" = some none) :
    ∃ fd : FuncData, (∀ (s : Shared) (v : Value), BindsTo s fd ⟨[v], []⟩ [("_law_script", v)]) ∧ ∀ base : Heap, K.In base → base.Ns mainGlobals mg → FnD l.prog w K mg base 9 fa fd ["_law_script"] (F_law) := by
  have e := hfa.symm.trans (PySem.W.mg_of X G a45)
  cases e
  have F0 := fun_mk (st := s_is_from_to) l0 c0 k0
  have F1 := fun_mk (st := s_is_gap) l1 c1 k1
  have F2 := fun_mk (st := s_letters_of) l2 c2 k2
  have F3 := fun_mk (st := s_place_of) l3 c3 k3
  have F4 := fun_mk (st := s_need_letter) l4 c4 k4
  have F5 := fun_mk (st := s_gap_in) l5 c5 k5
  have F6 := fun_mk (st := s_from_rows) l6 c6 k6
  have F7 := fun_mk (st := s_all_pairs) l7 c7 k7
  have F8 := fun_mk (st := s_is_parting) l8 c8 k8
  have F9 := fun_mk (st := s_class_in) l9 c9 k9
  have F10 := fun_mk (st := s_is_gaps) l10 c10 k10
  have F11 := fun_mk (st := s_key_of) l11 c11 k11
  have F12 := fun_mk (st := s_are_exceptions) l12 c12 k12
  have F13 := fun_mk (st := s_is_table) l13 c13 k13
  have F14 := fun_mk (st := s_need_table) l14 c14 k14
  have F15 := fun_mk (st := s_told_in) l15 c15 k15
  have F16 := fun_mk (st := s_gap_by) l16 c16 k16
  have F17 := fun_mk (st := s_told_by) l17 c17 k17
  have F18 := fun_mk (st := s_listed) l18 c18 k18
  have F19 := fun_mk (st := s_list_by) l19 c19 k19
  have F20 := fun_mk (st := s_first_unlike) l20 c20 k20
  have F21 := fun_mk (st := s_number_in) l21 c21 k21
  have F22 := fun_mk (st := s_side_text) l22 c22 k22
  have F23 := fun_mk (st := s_parting_text) l23 c23 k23
  have F24 := fun_mk (st := s_exceptions_text) l24 c24 k24
  have F25 := fun_mk (st := s_text_of) l25 c25 k25
  have F26 := fun_mk (st := s_table_text) l26 c26 k26
  have F27 := fun_mk (st := s_sides_in) l27 c27 k27
  have F28 := fun_mk (st := s_exceptions_by) l28 c28 k28
  have F29 := fun_mk (st := s_parting_by) l29 c29 k29
  have F30 := fun_mk (st := s_table_read) l30 c30 k30
  have F31 := fun_mk (st := s_law_box) l31 c31 k31
  have F32 := fun_mk (st := s_law_take) l32 c32 k32
  have F33 := fun_mk (st := s_law_face) l33 c33 k33
  have F34 := fun_mk (st := s_law_letters) l34 c34 k34
  have F35 := fun_mk (st := s_law_list) l35 c35 k35
  have F36 := fun_mk (st := s_law_grouped) l36 c36 k36
  have F37 := fun_mk (st := s_law_class) l37 c37 k37
  have F38 := fun_mk (st := s_law_told) l38 c38 k38
  have F39 := fun_mk (st := s_law_side_text) l39 c39 k39
  have F40 := fun_mk (st := s_law_table_text) l40 c40 k40
  have F41 := fun_mk (st := s_law_fine) l41 c41 k41
  have F42 := fun_mk (st := s_law_few) l42 c42 k42
  have F43 := fun_mk (st := s_law_gaps_right) l43 c43 k43
  have F44 := fun_mk (st := s_law_list_right) l44 c44 k44
  have F45 := fun_mk (st := s_law) l45 c45 k45
  have b0 := F0.binds (ps := ["thing", "least", "most"]) fun _ _ _ _ _ _ us hl => match us, hl with | [_, _, _], _ => rfl
  have A_is_from_to : At K mg "is_from_to" _ _ _ := ⟨PySem.W.mg_of X G a0, k0, b0⟩
  have b1 := F1.binds (ps := ["thing"]) fun _ _ _ _ _ _ us hl => match us, hl with | [_], _ => rfl
  have A_is_gap : At K mg "is_gap" _ _ _ := ⟨PySem.W.mg_of X G a1, k1, b1⟩
  have b2 := F2.binds (ps := ["face"]) fun _ _ _ _ _ _ us hl => match us, hl with | [_], _ => rfl
  have A_letters_of : At K mg "letters_of" _ _ _ := ⟨PySem.W.mg_of X G a2, k2, b2⟩
  have b3 := F3.binds (ps := ["face", "thing"]) fun _ _ _ _ _ _ us hl => match us, hl with | [_, _], _ => rfl
  have A_place_of : At K mg "place_of" _ _ _ := ⟨PySem.W.mg_of X G a3, k3, b3⟩
  have b4 := F4.binds (ps := ["face", "thing"]) fun _ _ _ _ _ _ us hl => match us, hl with | [_, _], _ => rfl
  have A_need_letter : At K mg "need_letter" _ _ _ := ⟨PySem.W.mg_of X G a4, k4, b4⟩
  have b5 := F5.binds (ps := ["pairs", "left", "right"]) fun _ _ _ _ _ _ us hl => match us, hl with | [_, _, _], _ => rfl
  have A_gap_in : At K mg "gap_in" _ _ _ := ⟨PySem.W.mg_of X G a5, k5, b5⟩
  have b6 := F6.binds (ps := ["face", "rows"]) fun _ _ _ _ _ _ us hl => match us, hl with | [_, _], _ => rfl
  have A_from_rows : At K mg "from_rows" _ _ _ := ⟨PySem.W.mg_of X G a6, k6, b6⟩
  have b7 := F7.binds (ps := ["face"]) fun _ _ _ _ _ _ us hl => match us, hl with | [_], _ => rfl
  have A_all_pairs : At K mg "all_pairs" _ _ _ := ⟨PySem.W.mg_of X G a7, k7, b7⟩
  have b8 := F8.binds (ps := ["face", "thing"]) fun _ _ _ _ _ _ us hl => match us, hl with | [_, _], _ => rfl
  have A_is_parting : At K mg "is_parting" _ _ _ := ⟨PySem.W.mg_of X G a8, k8, b8⟩
  have b9 := F9.binds (ps := ["parting", "letter"]) fun _ _ _ _ _ _ us hl => match us, hl with | [_, _], _ => rfl
  have A_class_in : At K mg "class_in" _ _ _ := ⟨PySem.W.mg_of X G a9, k9, b9⟩
  have b10 := F10.binds (ps := ["lefts", "rights", "thing"]) fun _ _ _ _ _ _ us hl => match us, hl with | [_, _, _], _ => rfl
  have A_is_gaps : At K mg "is_gaps" _ _ _ := ⟨PySem.W.mg_of X G a10, k10, b10⟩
  have b11 := F11.binds (ps := ["face", "lefts", "rights", "one"]) fun _ _ _ _ _ _ us hl => match us, hl with | [_, _, _, _], _ => rfl
  have A_key_of : At K mg "key_of" _ _ _ := ⟨PySem.W.mg_of X G a11, k11, b11⟩
  have b12 := F12.binds (ps := ["face", "lefts", "rights", "thing"]) fun _ _ _ _ _ _ us hl => match us, hl with | [_, _, _, _], _ => rfl
  have A_are_exceptions : At K mg "are_exceptions" _ _ _ := ⟨PySem.W.mg_of X G a12, k12, b12⟩
  have b13 := F13.binds (ps := ["face", "thing"]) fun _ _ _ _ _ _ us hl => match us, hl with | [_, _], _ => rfl
  have A_is_table : At K mg "is_table" _ _ _ := ⟨PySem.W.mg_of X G a13, k13, b13⟩
  have b14 := F14.binds (ps := ["face", "thing"]) fun _ _ _ _ _ _ us hl => match us, hl with | [_, _], _ => rfl
  have A_need_table : At K mg "need_table" _ _ _ := ⟨PySem.W.mg_of X G a14, k14, b14⟩
  have b15 := F15.binds (ps := ["table", "left", "right"]) fun _ _ _ _ _ _ us hl => match us, hl with | [_, _, _], _ => rfl
  have A_told_in : At K mg "told_in" _ _ _ := ⟨PySem.W.mg_of X G a15, k15, b15⟩
  have b16 := F16.binds (ps := ["face", "table", "left", "right"]) fun _ _ _ _ _ _ us hl => match us, hl with | [_, _, _, _], _ => rfl
  have A_gap_by : At K mg "gap_by" _ _ _ := ⟨PySem.W.mg_of X G a16, k16, b16⟩
  have b17 := F17.binds (ps := ["face", "table", "left", "right"]) fun _ _ _ _ _ _ us hl => match us, hl with | [_, _, _, _], _ => rfl
  have A_told_by : At K mg "told_by" _ _ _ := ⟨PySem.W.mg_of X G a17, k17, b17⟩
  have b18 := F18.binds (ps := ["face", "table"]) fun _ _ _ _ _ _ us hl => match us, hl with | [_, _], _ => rfl
  have A_listed : At K mg "listed" _ _ _ := ⟨PySem.W.mg_of X G a18, k18, b18⟩
  have b19 := F19.binds (ps := ["face", "table"]) fun _ _ _ _ _ _ us hl => match us, hl with | [_, _], _ => rfl
  have A_list_by : At K mg "list_by" _ _ _ := ⟨PySem.W.mg_of X G a19, k19, b19⟩
  have b20 := F20.binds (ps := ["face", "pairs", "table"]) fun _ _ _ _ _ _ us hl => match us, hl with | [_, _, _], _ => rfl
  have A_first_unlike : At K mg "first_unlike" _ _ _ := ⟨PySem.W.mg_of X G a20, k20, b20⟩
  have b21 := F21.binds (ps := ["word"]) fun _ _ _ _ _ _ us hl => match us, hl with | [_], _ => rfl
  have A_number_in : At K mg "number_in" _ _ _ := ⟨PySem.W.mg_of X G a21, k21, b21⟩
  have b22 := F22.binds (ps := ["side"]) fun _ _ _ _ _ _ us hl => match us, hl with | [_], _ => rfl
  have A_side_text : At K mg "side_text" _ _ _ := ⟨PySem.W.mg_of X G a22, k22, b22⟩
  have b23 := F23.binds (ps := ["parting"]) fun _ _ _ _ _ _ us hl => match us, hl with | [_], _ => rfl
  have A_parting_text : At K mg "parting_text" _ _ _ := ⟨PySem.W.mg_of X G a23, k23, b23⟩
  have b24 := F24.binds (ps := ["exceptions"]) fun _ _ _ _ _ _ us hl => match us, hl with | [_], _ => rfl
  have A_exceptions_text : At K mg "exceptions_text" _ _ _ := ⟨PySem.W.mg_of X G a24, k24, b24⟩
  have b25 := F25.binds (ps := ["table"]) fun _ _ _ _ _ _ us hl => match us, hl with | [_], _ => rfl
  have A_text_of : At K mg "text_of" _ _ _ := ⟨PySem.W.mg_of X G a25, k25, b25⟩
  have b26 := F26.binds (ps := ["face", "table"]) fun _ _ _ _ _ _ us hl => match us, hl with | [_, _], _ => rfl
  have A_table_text : At K mg "table_text" _ _ _ := ⟨PySem.W.mg_of X G a26, k26, b26⟩
  have b27 := F27.binds (ps := ["word"]) fun _ _ _ _ _ _ us hl => match us, hl with | [_], _ => rfl
  have A_sides_in : At K mg "sides_in" _ _ _ := ⟨PySem.W.mg_of X G a27, k27, b27⟩
  have b28 := F28.binds (ps := ["text"]) fun _ _ _ _ _ _ us hl => match us, hl with | [_], _ => rfl
  have A_exceptions_by : At K mg "exceptions_by" _ _ _ := ⟨PySem.W.mg_of X G a28, k28, b28⟩
  have b29 := F29.binds (ps := ["text"]) fun _ _ _ _ _ _ us hl => match us, hl with | [_], _ => rfl
  have A_parting_by : At K mg "parting_by" _ _ _ := ⟨PySem.W.mg_of X G a29, k29, b29⟩
  have b30 := F30.binds (ps := ["face", "text"]) fun _ _ _ _ _ _ us hl => match us, hl with | [_, _], _ => rfl
  have A_table_read : At K mg "table_read" _ _ _ := ⟨PySem.W.mg_of X G a30, k30, b30⟩
  have b31 := F31.binds (ps := ["_law_script", "_law_k"]) fun _ _ _ _ _ _ us hl => match us, hl with | [_, _], _ => rfl
  have A_law_box : At K mg "_law_box" _ _ _ := ⟨PySem.W.mg_of X G a31, k31, b31⟩
  have b32 := F32.binds (ps := ["_law_box_here", "_law_many"]) fun _ _ _ _ _ _ us hl => match us, hl with | [_, _], _ => rfl
  have A_law_take : At K mg "_law_take" _ _ _ := ⟨PySem.W.mg_of X G a32, k32, b32⟩
  have b33 := F33.binds (ps := ["_law_box_here", "_law_least", "_law_most"]) fun _ _ _ _ _ _ us hl => match us, hl with | [_, _, _], _ => rfl
  have A_law_face : At K mg "_law_face" _ _ _ := ⟨PySem.W.mg_of X G a33, k33, b33⟩
  have b34 := F34.binds (ps := ["_law_face_here"]) fun _ _ _ _ _ _ us hl => match us, hl with | [_], _ => rfl
  have A_law_letters : At K mg "_law_letters" _ _ _ := ⟨PySem.W.mg_of X G a34, k34, b34⟩
  have b35 := F35.binds (ps := ["_law_face_here", "_law_rows"]) fun _ _ _ _ _ _ us hl => match us, hl with | [_, _], _ => rfl
  have A_law_list : At K mg "_law_list" _ _ _ := ⟨PySem.W.mg_of X G a35, k35, b35⟩
  have b36 := F36.binds (ps := ["_law_letters_here", "_law_marks"]) fun _ _ _ _ _ _ us hl => match us, hl with | [_, _], _ => rfl
  have A_law_grouped : At K mg "_law_grouped" _ _ _ := ⟨PySem.W.mg_of X G a36, k36, b36⟩
  have b37 := F37.binds (ps := ["_law_parting", "_law_letter"]) fun _ _ _ _ _ _ us hl => match us, hl with | [_, _], _ => rfl
  have A_law_class : At K mg "_law_class" _ _ _ := ⟨PySem.W.mg_of X G a37, k37, b37⟩
  have b38 := F38.binds (ps := ["_law_table", "_law_left", "_law_right"]) fun _ _ _ _ _ _ us hl => match us, hl with | [_, _, _], _ => rfl
  have A_law_told : At K mg "_law_told" _ _ _ := ⟨PySem.W.mg_of X G a38, k38, b38⟩
  have b39 := F39.binds (ps := ["_law_side"]) fun _ _ _ _ _ _ us hl => match us, hl with | [_], _ => rfl
  have A_law_side_text : At K mg "_law_side_text" _ _ _ := ⟨PySem.W.mg_of X G a39, k39, b39⟩
  have b40 := F40.binds (ps := ["_law_table"]) fun _ _ _ _ _ _ us hl => match us, hl with | [_], _ => rfl
  have A_law_table_text : At K mg "_law_table_text" _ _ _ := ⟨PySem.W.mg_of X G a40, k40, b40⟩
  have b41 := F41.binds (ps := ["_law_box_here", "_law_letters_here"]) fun _ _ _ _ _ _ us hl => match us, hl with | [_, _], _ => rfl
  have A_law_fine : At K mg "_law_fine" _ _ _ := ⟨PySem.W.mg_of X G a41, k41, b41⟩
  have b42 := F42.binds (ps := ["_law_box_here", "_law_letters_here", "_law_sides"]) fun _ _ _ _ _ _ us hl => match us, hl with | [_, _, _], _ => rfl
  have A_law_few : At K mg "_law_few" _ _ _ := ⟨PySem.W.mg_of X G a42, k42, b42⟩
  have b43 := F43.binds (ps := ["_law_face_here", "_law_table"]) fun _ _ _ _ _ _ us hl => match us, hl with | [_, _], _ => rfl
  have A_law_gaps_right : At K mg "_law_gaps_right" _ _ _ := ⟨PySem.W.mg_of X G a43, k43, b43⟩
  have b44 := F44.binds (ps := ["_law_box_here", "_law_face_here", "_law_table"]) fun _ _ _ _ _ _ us hl => match us, hl with | [_, _, _], _ => rfl
  have A_law_list_right : At K mg "_law_list_right" _ _ _ := ⟨PySem.W.mg_of X G a44, k44, b44⟩
  have b45 := F45.binds (ps := ["_law_script"]) fun _ _ _ _ _ _ us hl => match us, hl with | [_], _ => rfl
  have A_law : At K mg "law" _ _ _ := ⟨PySem.W.mg_of X G a45, k45, b45⟩
  have X_NoLetter : ExcAt K mg "NoLetter" a_NoLetter := ⟨PySem.W.mg_of X G xa_NoLetter, exc_two h1_NoLetter q1_NoLetter q2_NoLetter q3_NoLetter q4_NoLetter h2_NoLetter q5_NoLetter n1_NoLetter h3_NoLetter q6_NoLetter h4_NoLetter q7_NoLetter n2_NoLetter rfl, xk_NoLetter, xb_NoLetter, xt_NoLetter⟩
  have X_NoTable : ExcAt K mg "NoTable" a_NoTable := ⟨PySem.W.mg_of X G xa_NoTable, exc_two h1_NoTable q1_NoTable q2_NoTable q3_NoTable q4_NoTable h2_NoTable q5_NoTable n1_NoTable h3_NoTable q6_NoTable h4_NoTable q7_NoTable n2_NoTable rfl, xk_NoTable, xb_NoTable, xt_NoTable⟩
  have X_NoText : ExcAt K mg "NoText" a_NoText := ⟨PySem.W.mg_of X G xa_NoText, exc_two h1_NoText q1_NoText q2_NoText q3_NoText q4_NoText h2_NoText q5_NoText n1_NoText h3_NoText q6_NoText h4_NoText q7_NoText n2_NoText rfl, xk_NoText, xb_NoText, xt_NoText⟩
  have c_FAR := PySem.W.mg_of X G zc_FAR
  have c_FIGURES := PySem.W.mg_of X G zc_FIGURES
  have m_isinstance := PySem.W.mg_none_of X G z_isinstance
  have m_int := PySem.W.mg_none_of X G z_int
  have m_bool := PySem.W.mg_none_of X G z_bool
  have m_tuple := PySem.W.mg_none_of X G z_tuple
  have m_enumerate := PySem.W.mg_none_of X G z_enumerate
  have m_zip := PySem.W.mg_none_of X G z_zip
  have m_sorted := PySem.W.mg_none_of X G z_sorted
  have m_sum := PySem.W.mg_none_of X G z_sum
  have m_list := PySem.W.mg_none_of X G z_list
  have m_range := PySem.W.mg_none_of X G z_range
  have m_len := PySem.W.mg_none_of X G z_len
  have m_all := PySem.W.mg_none_of X G z_all
  have m_str := PySem.W.mg_none_of X G z_str
  have m_abs := PySem.W.mg_none_of X G z_abs
  have m_divmod := PySem.W.mg_none_of X G z_divmod
  have m_repr := PySem.W.mg_none_of X G z_repr
  have m_min := PySem.W.mg_none_of X G z_min
  have m_max := PySem.W.mg_none_of X G z_max
  refine ⟨PySem.W.fnOf "law" "law" (defArgs s_law) (defBody s_law) (defScope s_law) .none kV45 dc45 pm45 an45 cd45 ct45, fun s v => .of_eq rfl, fun base _ _ => ?_⟩
  have G_is_from_to := ok_is_from_to (P := l.prog) (w := w) (mg := mg) (base := base) F0 m_isinstance m_int m_bool
  have G_is_gap := ok_is_gap (P := l.prog) (w := w) (mg := mg) (base := base) F1 G_is_from_to A_is_from_to c_FAR
  have G_letters_of := ok_letters_of (P := l.prog) (w := w) (mg := mg) (base := base) F2 m_tuple
  have G_place_of := ok_place_of (P := l.prog) (w := w) (mg := mg) (base := base) F3 m_enumerate
  have G_need_letter := ok_need_letter (P := l.prog) (w := w) (mg := mg) (base := base) F4 G_place_of A_place_of X_NoLetter
  have G_gap_in := ok_gap_in (P := l.prog) (w := w) (mg := mg) (base := base) F5 
  have G_from_rows := ok_from_rows (P := l.prog) (w := w) (mg := mg) (base := base) F6 G_letters_of A_letters_of m_zip m_tuple
  have G_all_pairs := ok_all_pairs (P := l.prog) (w := w) (mg := mg) (base := base) F7 G_letters_of A_letters_of
  have G_is_parting := ok_is_parting (P := l.prog) (w := w) (mg := mg) (base := base) F8 G_place_of A_place_of m_isinstance m_tuple m_sorted m_sum m_list m_range m_len
  have G_class_in := ok_class_in (P := l.prog) (w := w) (mg := mg) (base := base) F9 
  have G_is_gaps := ok_is_gaps (P := l.prog) (w := w) (mg := mg) (base := base) F10 G_is_gap A_is_gap m_isinstance m_tuple m_len m_all
  have G_key_of := ok_key_of (P := l.prog) (w := w) (mg := mg) (base := base) F11 G_is_gap A_is_gap G_place_of A_place_of G_is_from_to A_is_from_to m_isinstance m_tuple m_len
  have G_are_exceptions := ok_are_exceptions (P := l.prog) (w := w) (mg := mg) (base := base) F12 G_key_of A_key_of m_isinstance m_tuple m_zip m_all
  have G_is_table := ok_is_table (P := l.prog) (w := w) (mg := mg) (base := base) F13 G_is_parting A_is_parting G_is_gaps A_is_gaps G_are_exceptions A_are_exceptions m_isinstance m_tuple m_len
  have G_need_table := ok_need_table (P := l.prog) (w := w) (mg := mg) (base := base) F14 G_is_table A_is_table X_NoTable
  have G_told_in := ok_told_in (P := l.prog) (w := w) (mg := mg) (base := base) F15 G_class_in A_class_in m_enumerate
  have G_gap_by := ok_gap_by (P := l.prog) (w := w) (mg := mg) (base := base) F16 G_need_table A_need_table G_need_letter A_need_letter G_told_in A_told_in
  have G_told_by := ok_told_by (P := l.prog) (w := w) (mg := mg) (base := base) F17 G_need_table A_need_table G_need_letter A_need_letter G_told_in A_told_in
  have G_listed := ok_listed (P := l.prog) (w := w) (mg := mg) (base := base) F18 G_letters_of A_letters_of G_from_rows A_from_rows G_told_in A_told_in
  have G_list_by := ok_list_by (P := l.prog) (w := w) (mg := mg) (base := base) F19 G_need_table A_need_table G_listed A_listed
  have G_first_unlike := ok_first_unlike (P := l.prog) (w := w) (mg := mg) (base := base) F20 G_need_table A_need_table G_all_pairs A_all_pairs G_gap_in A_gap_in G_told_in A_told_in
  have G_number_in := ok_number_in (P := l.prog) (w := w) (mg := mg) (base := base) F21 m_len m_all m_int m_str c_FIGURES
  have G_side_text := ok_side_text (P := l.prog) (w := w) (mg := mg) (base := base) F22 m_isinstance m_str
  have G_parting_text := ok_parting_text (P := l.prog) (w := w) (mg := mg) (base := base) F23 
  have G_exceptions_text := ok_exceptions_text (P := l.prog) (w := w) (mg := mg) (base := base) F24 G_side_text A_side_text m_str
  have G_text_of := ok_text_of (P := l.prog) (w := w) (mg := mg) (base := base) F25 G_exceptions_text A_exceptions_text G_parting_text A_parting_text m_str
  have G_table_text := ok_table_text (P := l.prog) (w := w) (mg := mg) (base := base) F26 G_need_table A_need_table G_text_of A_text_of
  have G_sides_in := ok_sides_in (P := l.prog) (w := w) (mg := mg) (base := base) F27 G_number_in A_number_in
  have G_exceptions_by := ok_exceptions_by (P := l.prog) (w := w) (mg := mg) (base := base) F28 G_sides_in A_sides_in G_number_in A_number_in m_tuple
  have G_parting_by := ok_parting_by (P := l.prog) (w := w) (mg := mg) (base := base) F29 m_list m_tuple
  have G_table_read := ok_table_read (P := l.prog) (w := w) (mg := mg) (base := base) F30 G_number_in A_number_in G_exceptions_by A_exceptions_by G_parting_by A_parting_by G_is_table A_is_table G_text_of A_text_of m_isinstance m_str m_len m_tuple X_NoText
  have G_law_box := ok_law_box (P := l.prog) (w := w) (mg := mg) (base := base) F31 m_len m_abs
  have G_law_take := ok_law_take (P := l.prog) (w := w) (mg := mg) (base := base) F32 m_divmod
  have G_law_face := ok_law_face (P := l.prog) (w := w) (mg := mg) (base := base) F33 G_law_take A_law_take m_list m_range m_len m_tuple
  have G_law_letters := ok_law_letters (P := l.prog) (w := w) (mg := mg) (base := base) F34 
  have G_law_list := ok_law_list (P := l.prog) (w := w) (mg := mg) (base := base) F35 G_law_letters A_law_letters m_zip m_tuple
  have G_law_grouped := ok_law_grouped (P := l.prog) (w := w) (mg := mg) (base := base) F36 m_enumerate m_zip m_tuple
  have G_law_class := ok_law_class (P := l.prog) (w := w) (mg := mg) (base := base) F37 m_enumerate
  have G_law_told := ok_law_told (P := l.prog) (w := w) (mg := mg) (base := base) F38 G_law_class A_law_class m_isinstance m_str
  have G_law_side_text := ok_law_side_text (P := l.prog) (w := w) (mg := mg) (base := base) F39 m_isinstance m_str
  have G_law_table_text := ok_law_table_text (P := l.prog) (w := w) (mg := mg) (base := base) F40 G_law_side_text A_law_side_text m_str
  have G_law_fine := ok_law_fine (P := l.prog) (w := w) (mg := mg) (base := base) F41 G_law_take A_law_take G_law_grouped A_law_grouped m_range m_len
  have G_law_few := ok_law_few (P := l.prog) (w := w) (mg := mg) (base := base) F42 G_law_take A_law_take m_range m_list m_len m_tuple
  have G_law_gaps_right := ok_law_gaps_right (P := l.prog) (w := w) (mg := mg) (base := base) F43 G_law_letters A_law_letters G_law_told A_law_told G_gap_by A_gap_by G_told_by A_told_by m_repr
  have G_law_list_right := ok_law_list_right (P := l.prog) (w := w) (mg := mg) (base := base) F44 G_law_letters A_law_letters G_law_told A_law_told G_law_list A_law_list G_list_by A_list_by G_first_unlike A_first_unlike G_law_take A_law_take m_repr m_len m_int
  have G_law := ok_law (P := l.prog) (w := w) (mg := mg) (base := base) F45 G_law_box A_law_box G_law_face A_law_face G_law_letters A_law_letters G_law_fine A_law_fine G_law_take A_law_take G_law_few A_law_few G_is_table A_is_table G_law_gaps_right A_law_gaps_right G_law_list_right A_law_list_right G_law_table_text A_law_table_text G_table_text A_table_text G_table_read A_table_read m_range m_len m_min m_max m_tuple m_repr
  exact G_law
end DV.k28

set_option maxHeartbeats 4000000
namespace DV
open PySem
/-! What a data-level program promises: plain rules. -/
def R.wp {α : Type} (r : R α) (P : α → Sto → Prop) (E : Str → Sto → Prop) : Prop :=
  match r with
  | .ok a S => P a S
  | .ex c S => E c S
  | .no => False
structure K where
  nx : En → Sto → Prop
  rt : D → Sto → Prop := fun _ _ => False
  bk : En → Sto → Prop := fun _ _ => False
  ct : En → Sto → Prop := fun _ _ => False
  ex : Str → Sto → Prop := fun _ _ => False
def F.wp (f : F) (N : K) : Prop :=
  match f with
  | .nx σ S => N.nx σ S
  | .rt d S => N.rt d S
  | .bk σ S => N.bk σ S
  | .ct σ S => N.ct σ S
  | .ex c S => N.ex c S
  | .no => False
abbrev noE : Str → Sto → Prop := fun _ _ => False
section
variable {α β : Type} {P : α → Sto → Prop} {E : Str → Sto → Prop} {N : K} {σ : En} {S : Sto}
@[simp ↓] theorem wp_ok (a : α) (S : Sto) : (R.ok a S).wp P E = P a S := id rfl
@[simp ↓] theorem wp_ex (c : Str) (S : Sto) : (R.ex c S : R α).wp P E = E c S := id rfl
@[simp ↓] theorem wp_no : (R.no : R α).wp P E = False := id rfl
@[simp ↓] theorem wp_nx : (F.nx σ S).wp N = N.nx σ S := id rfl
@[simp ↓] theorem wp_rt (d : D) : (F.rt d S).wp N = N.rt d S := id rfl
@[simp ↓] theorem wp_bk : (F.bk σ S).wp N = N.bk σ S := id rfl
@[simp ↓] theorem wp_ct : (F.ct σ S).wp N = N.ct σ S := id rfl
@[simp ↓] theorem wp_fex (c : Str) : (F.ex c S).wp N = N.ex c S := id rfl
@[simp ↓] theorem wp_fno : F.no.wp N = False := id rfl
@[simp ↓] theorem wp_bind (r : R β) (k : β → Sto → R α) : (r.bind k).wp P E = r.wp (fun a S => (k a S).wp P E) E := by cases r <;> rfl
@[simp ↓] theorem wp_run (r : R β) (k : β → Sto → F) : (r.run k).wp N = r.wp (fun a S => (k a S).wp N) N.ex := by cases r <;> rfl
theorem R.wp.mono {r : R α} {P' : α → Sto → Prop} {E' : Str → Sto → Prop} (h : r.wp P E) (hp : ∀ a S, P a S → P' a S) (he : ∀ c S, E c S → E' c S) : r.wp P' E' := by
  cases r with
  | ok a S => exact hp _ _ h
  | ex c S => exact he _ _ h
  | no => exact h
theorem R.wp.to {r : R α} {P' : α → Sto → Prop} (h : r.wp P noE) (hp : ∀ a S, P a S → P' a S) : r.wp P' E := h.mono hp fun _ _ h => h.elim
theorem R.wp.out {r : R α} (h : r.wp P noE) : ∃ a S, r = .ok a S ∧ P a S := by
  cases r with
  | ok a S => exact ⟨a, S, rfl, h⟩
  | ex c S => exact h.elim
  | no => exact h.elim
theorem F.wp.mono {f : F} {N' : K} (h : f.wp N) (h1 : ∀ σ S, N.nx σ S → N'.nx σ S) (h2 : ∀ d S, N.rt d S → N'.rt d S) (h3 : ∀ σ S, N.bk σ S → N'.bk σ S) (h4 : ∀ σ S, N.ct σ S → N'.ct σ S) (h5 : ∀ c S, N.ex c S → N'.ex c S) : f.wp N' := by
  cases f with
  | nx σ S => exact h1 _ _ h
  | rt d S => exact h2 _ _ h
  | bk σ S => exact h3 _ _ h
  | ct σ S => exact h4 _ _ h
  | ex c S => exact h5 _ _ h
  | no => exact h
/-! ### statements -/
@[simp ↓] theorem wp_seq (a b : Sx) : (seqS a b σ S).wp N = (a σ S).wp { N with nx := fun σ S => (b σ S).wp N } := by
  unfold seqS
  cases a σ S <;> rfl
@[simp ↓] theorem wp_pass : (passS σ S).wp N = N.nx σ S := id rfl
@[simp ↓] theorem wp_brk : (brkS σ S).wp N = N.bk σ S := id rfl
@[simp ↓] theorem wp_cnt : (cntS σ S).wp N = N.ct σ S := id rfl
@[simp ↓] theorem wp_asg (e : Ex) (g : Tg) : (asgS e g σ S).wp N = (e σ S).wp (fun d S1 => (g d σ S1).wp (fun σ2 S2 => N.nx σ2 S2) N.ex) N.ex := by
  unfold asgS
  rw [wp_run]
  congr 1
  funext d S1
  rw [wp_run]
  rfl
@[simp ↓] theorem wp_par (is : List Nat) (a : Ax) : (parS is a σ S).wp N = (a σ S).wp (fun ds S1 => N.nx (setAll is ds σ) S1) N.ex := by
  unfold parS
  rw [wp_run]
  rfl
@[simp ↓] theorem wp_expr (e : Ex) : (exprS e σ S).wp N = (e σ S).wp (fun _ S1 => N.nx σ S1) N.ex := by
  unfold exprS
  rw [wp_run]
  rfl
@[simp ↓] theorem wp_ret (e : Ex) : (retS e σ S).wp N = (e σ S).wp (fun d S1 => N.rt d S1) N.ex := by
  unfold retS
  rw [wp_run]
  rfl
@[simp ↓] theorem wp_if (c : Tx) (a b : Sx) : (ifS c a b σ S).wp N = (c σ S).wp (fun k S1 => (if k = true then a σ S1 else b σ S1).wp N) N.ex := by
  unfold ifS
  rw [wp_run]
theorem wp_ite {f g : F} {p : Prop} [Decidable p] : (if p then f else g).wp N = if p then f.wp N else g.wp N := by split <;> rfl
theorem wp_iteR {f g : R α} {p : Prop} [Decidable p] : (if p then f else g).wp P E = if p then f.wp P E else g.wp P E := by split <;> rfl
@[simp ↓] theorem wp_raise (c : Str) : (raiseS c σ S).wp N = N.ex c S := id rfl
@[simp ↓] theorem wp_for (it : It) (g : Tg) (b : Sx) : (forS it g b σ S).wp N = (it σ S).wp (fun xs S1 => (forL g b xs σ S1).wp N) N.ex := by
  unfold forS
  rw [wp_run]
/-- a walk: I of what has been walked -/
theorem wp_forL {g : Tg} {b : Sx} {xs : List D} (I : List D → En → Sto → Prop) (h0 : I [] σ S)
    (hs : ∀ pre x post σ S, xs = pre ++ x :: post → I pre σ S → (g x σ S).wp (fun σ1 S1 => (b σ1 S1).wp { N with nx := fun σ2 S2 => I (pre ++ [x]) σ2 S2, ct := fun σ2 S2 => I (pre ++ [x]) σ2 S2, bk := fun σ2 S2 => N.nx σ2 S2 }) N.ex)
    (he : ∀ σ S, I xs σ S → N.nx σ S) : (forL g b xs σ S).wp N := by
  have key : ∀ (post pre : List D) (σ : En) (S : Sto), xs = pre ++ post → I pre σ S → (forL g b post σ S).wp N := by
    intro post
    induction post with
    | nil =>
      intro pre σ S e h
      rw [List.append_nil] at e
      subst e
      exact he σ S h
    | cons x post ih =>
      intro pre σ S e h
      have z := hs pre x post σ S e h
      have e2 : xs = (pre ++ [x]) ++ post := by rw [e]; simp
      unfold forL
      cases hg : g x σ S with
      | ok σ1 S1 =>
        rw [hg] at z
        have z2 : (b σ1 S1).wp _ := z
        simp only
        cases hb : b σ1 S1 with
        | nx σ2 S2 => rw [hb] at z2; exact ih _ σ2 S2 e2 z2
        | ct σ2 S2 => rw [hb] at z2; exact ih _ σ2 S2 e2 z2
        | bk σ2 S2 => rw [hb] at z2; exact z2
        | rt d S2 => rw [hb] at z2; exact z2
        | ex c S2 => rw [hb] at z2; exact z2
        | no => rw [hb] at z2; exact z2
      | ex c S1 => rw [hg] at z; exact z
      | no => rw [hg] at z; exact z
  exact key xs [] σ S rfl h0
/-- a comprehension that may change the store: I of what has been walked and what has been made -/
theorem wp_lcL {g : Tg} {c : Tx} {e : Ex} {xs : List D} {P : List D → Sto → Prop} {E : Str → Sto → Prop} (I : List D → List D → Sto → Prop) (h0 : I [] [] S)
    (hs : ∀ pre x post acc S, xs = pre ++ x :: post → I pre acc S → (g x σ S).wp (fun σ1 S1 => (c σ1 S1).wp (fun k S2 => if k = true then (e σ1 S2).wp (fun d S3 => I (pre ++ [x]) (acc ++ [d]) S3) noE else I (pre ++ [x]) acc S2) noE) noE)
    (he : ∀ acc S, I xs acc S → P acc S) : (lcL g c e σ xs S).wp P E := by
  have key : ∀ (post pre acc : List D) (S : Sto), xs = pre ++ post → I pre acc S → (lcL g c e σ post S).wp (fun ds S' => I xs (acc ++ ds) S') E := by
    intro post
    induction post with
    | nil =>
      intro pre acc S e h
      rw [List.append_nil] at e
      subst e
      show I xs (acc ++ []) S
      rw [List.append_nil]
      exact h
    | cons x post ih =>
      intro pre acc S e1 h
      have z := hs pre x post acc S e1 h
      have e2 : xs = (pre ++ [x]) ++ post := by rw [e1]; simp
      unfold lcL
      cases hg : g x σ S with
      | ex c S1 => rw [hg] at z; exact z.elim
      | no => rw [hg] at z; exact z.elim
      | ok σ1 S1 =>
        rw [hg, wp_ok] at z
        simp only
        cases hc : c σ1 S1 with
        | ex c S1 => rw [hc] at z; exact z.elim
        | no => rw [hc] at z; exact z.elim
        | ok k S2 =>
          rw [hc, wp_ok] at z
          simp only
          cases k with
          | false =>
            simp only [Bool.false_eq_true, if_false] at z ⊢
            exact ih _ _ _ e2 z
          | true =>
            simp only [if_true] at z ⊢
            cases hd : e σ1 S2 with
            | ex c S1 => rw [hd] at z; exact z.elim
            | no => rw [hd] at z; exact z.elim
            | ok d S3 =>
              rw [hd, wp_ok] at z
              simp only
              rw [wp_bind]
              refine (ih _ _ _ e2 z).mono (fun ds S' h => ?_) fun _ _ h => h
              show I xs (acc ++ d :: ds) S'
              have : acc ++ d :: ds = acc ++ [d] ++ ds := by simp
              rw [this]
              exact h
  exact (key xs [] [] S rfl h0).mono (fun a S h => he _ _ h) fun _ _ h => h
/-! ### expressions -/
@[simp ↓] theorem wp_cons (e : Ex) (r : Ax) {P : List D → Sto → Prop} : (consA e r σ S).wp P E = (e σ S).wp (fun d S1 => (r σ S1).wp (fun ds S2 => P (d :: ds) S2) E) E := by
  unfold consA
  rw [wp_bind]
  congr 1
  funext d S1
  rw [wp_bind]
  rfl
@[simp ↓] theorem wp_nil {P : List D → Sto → Prop} : (nilA σ S).wp P E = P [] S := id rfl
@[simp ↓] theorem wp_c (d : PyData) {P : D → Sto → Prop} : (cE d σ S).wp P E = P (.py d) S := id rfl
@[simp ↓] theorem wp_op (g : D → D → Sto → R D) (a b : Ex) {P : D → Sto → Prop} : (opE g a b σ S).wp P E = (a σ S).wp (fun x S1 => (b σ S1).wp (fun y S2 => (g x y S2).wp P E) E) E := by
  unfold opE
  rw [wp_bind]
  congr 1
  funext d S1
  rw [wp_bind]
@[simp ↓] theorem wp_op1 (g : D → Sto → R D) (a : Ex) {P : D → Sto → Prop} : (op1 g a σ S).wp P E = (a σ S).wp (fun x S1 => (g x S1).wp P E) E := by
  unfold op1
  rw [wp_bind]
@[simp ↓] theorem wp_call (g : List D → Sto → R D) (a : Ax) {P : D → Sto → Prop} : (callE g a σ S).wp P E = (a σ S).wp (fun ds S1 => (g ds S1).wp P E) E := by
  unfold callE
  rw [wp_bind]
@[simp ↓] theorem wp_callL (g : List D → Sto → R (List D)) (a : Ax) {P : List D → Sto → Prop} : (callL g a σ S).wp P E = (a σ S).wp (fun ds S1 => (g ds S1).wp P E) E := by
  unfold callL
  rw [wp_bind]
@[simp ↓] theorem wp_methL (g : D → List D → Sto → R D) (o : Ex) (a : Ax) {P : D → Sto → Prop} : (methL g o a σ S).wp P E = (o σ S).wp (fun x S1 => if lsOk S1 x = true then (a σ S1).wp (fun ds S2 => (g x ds S2).wp P E) E else False) E := by
  unfold methL
  rw [wp_bind]
  congr 1
  funext d S1
  rw [wp_iteR, wp_bind]
  rfl
@[simp ↓] theorem wp_tup (a : Ax) {P : D → Sto → Prop} : (tupE a σ S).wp P E = (a σ S).wp (fun ds S1 => match pysOf ds with
  | some ps => P (.py (.tuple ps)) S1
  | none => False) E := by
  unfold tupE
  rw [wp_bind]
  congr 1
  funext d S1
  cases pysOf d <;> rfl
@[simp ↓] theorem wp_frz (a : Ax) {P : D → Sto → Prop} : (frzE a σ S).wp P E = (a σ S).wp (fun ds S1 => match pysOf ds with
  | some ps => P (.py (.list ps)) S1
  | none => False) E := by
  unfold frzE frz
  rw [wp_bind]
  congr 1
  funext d S1
  cases pysOf d <;> rfl
@[simp ↓] theorem wp_thw (a : Ax) {P : D → Sto → Prop} : (thwE a σ S).wp P E = (a σ S).wp (fun ds S1 => P (.obj S1.length) (S1 ++ [.lst ds])) E := by
  unfold thwE thw
  rw [wp_bind]
  rfl
@[simp ↓] theorem wp_lcX (it : It) (vs : List Nat) (g : Tg) (c : Tx) (e : Ex) {P : List D → Sto → Prop} : (lcX it vs g c e σ S).wp P E = (it σ S).wp (fun xs S1 => (lcL g c e (wipeD σ vs) xs S1).wp P E) E := by
  unfold lcX
  rw [wp_bind]
@[simp ↓] theorem wp_val (a : Ex) {P : Bool → Sto → Prop} : (valT a σ S).wp P E = (a σ S).wp (fun x S1 => ∃ k, x = .py (.bool k) ∧ P k S1) E := by
  unfold valT
  rw [wp_bind]
  congr 1
  funext d S1
  split
  · exact propext ⟨fun h => ⟨_, rfl, h⟩, fun ⟨k, e, h⟩ => by cases e; exact h⟩
  · rename_i hn
    exact propext ⟨fun h => h.elim, fun ⟨k, e, h⟩ => (hn k e).elim⟩
@[simp ↓] theorem wp_andT (a b : Tx) {P : Bool → Sto → Prop} : (andT a b σ S).wp P E = (a σ S).wp (fun k S1 => if k = true then (b σ S1).wp P E else P false S1) E := by
  unfold andT
  rw [wp_bind]
  congr 1
  funext d S1
  split <;> rfl
@[simp ↓] theorem wp_orT (a b : Tx) {P : Bool → Sto → Prop} : (orT a b σ S).wp P E = (a σ S).wp (fun k S1 => if k = true then P true S1 else (b σ S1).wp P E) E := by
  unfold orT
  rw [wp_bind]
  congr 1
  funext d S1
  split <;> rfl
@[simp ↓] theorem wp_notT (a : Tx) {P : Bool → Sto → Prop} : (notT a σ S).wp P E = (a σ S).wp (fun k S1 => P (!k) S1) E := by
  unfold notT
  rw [wp_bind]
  rfl
@[simp ↓] theorem wp_yes {P : Bool → Sto → Prop} : (yesT σ S).wp P E = P true S := id rfl
@[simp ↓] theorem wp_ifE (c : Tx) (a b : Ex) {P : D → Sto → Prop} : (ifE c a b σ S).wp P E = (c σ S).wp (fun k S1 => if k = true then (a σ S1).wp P E else (b σ S1).wp P E) E := by
  unfold ifE
  rw [wp_bind]
  congr 1
  funext d S1
  split <;> rfl
@[simp] theorem var_zero (d : D) (r : En) : varE 0 (some d :: r) S = .ok d S := id rfl
@[simp] theorem var_succ (i : Nat) (x : Option D) (r : En) : varE (i + 1) (x :: r) S = varE i r S := id rfl
@[simp ↓] theorem wp_nm (i : Nat) (d : D) {P : En → Sto → Prop} : (nmG i d σ S).wp P E = P (σ.set i (some d)) S := id rfl
@[simp ↓] theorem wp_tupG (n : Nat) (r : List D → En → Sto → R En) (ps : List PyData) {P : En → Sto → Prop} : (tupG n r (.py (.tuple ps)) σ S).wp P E = if ps.length = n then (r (ps.map .py) σ S).wp P E else False := by
  unfold tupG
  rw [wp_iteR]
  rfl
@[simp ↓] theorem wp_consG (g : Tg) (r : List D → En → Sto → R En) (d : D) (ds : List D) {P : En → Sto → Prop} : (consG g r (d :: ds) σ S).wp P E = (g d σ S).wp (fun σ1 S1 => (r ds σ1 S1).wp P E) E := by
  unfold consG
  rw [wp_bind]
@[simp ↓] theorem wp_nilG {P : En → Sto → Prop} : (nilG [] σ S).wp P E = P σ S := id rfl
def seqD : D → Option (List PyData)
  | .py (.list ds) => some ds
  | .py (.tuple ds) => some ds
  | _ => none
@[simp] theorem seqD_list (ds : List PyData) : seqD (.py (.list ds)) = some ds := id rfl
@[simp] theorem seqD_tuple (ds : List PyData) : seqD (.py (.tuple ds)) = some ds := id rfl
@[simp ↓] theorem wp_seqI (e : Ex) {P : List D → Sto → Prop} : (seqI e σ S).wp P E = (e σ S).wp (fun d S1 => ∃ ds, seqD d = some ds ∧ P (ds.map .py) S1) E := by
  unfold seqI
  rw [wp_bind]
  congr 1
  funext d S1
  rcases d with d | n | n
  · cases d
    case list ds => exact propext ⟨fun h => ⟨ds, rfl, h⟩, fun ⟨_, e, h⟩ => by cases e; exact h⟩
    case tuple ds => exact propext ⟨fun h => ⟨ds, rfl, h⟩, fun ⟨_, e, h⟩ => by cases e; exact h⟩
    all_goals exact propext ⟨fun h => h.elim, fun ⟨_, e, _⟩ => by cases e⟩
  · exact propext ⟨fun h => h.elim, fun ⟨_, e, _⟩ => by cases e⟩
  · exact propext ⟨fun h => h.elim, fun ⟨_, e, _⟩ => by cases e⟩
@[simp ↓] theorem wp_rng1 (e : Ex) {P : List D → Sto → Prop} : (rng1I e σ S).wp P E = (e σ S).wp (fun d S1 => ∃ j, d = .py (.int j) ∧ (-(2 ^ 62) ≤ j ∧ j ≤ 16777216) ∧ P (rngV 0 j.toNat) S1) E := by
  unfold rng1I
  rw [wp_bind]
  congr 1
  funext d S1
  split
  · rw [wp_iteR]
    split
    · rename_i h
      exact propext ⟨fun p => ⟨_, rfl, h, p⟩, fun ⟨j, e, _, p⟩ => by cases e; exact p⟩
    · rename_i h
      exact propext ⟨fun p => p.elim, fun ⟨j, e, h', p⟩ => by cases e; exact h h'⟩
  · rename_i hn
    exact propext ⟨fun h => h.elim, fun ⟨k, e, _, h⟩ => (hn k e).elim⟩
@[simp ↓] theorem wp_zip (a b : Ex) {P : List D → Sto → Prop} : (zipI a b σ S).wp P E = (a σ S).wp (fun x S1 => (b σ S1).wp (fun y S2 => ∃ xs ys, pyWalk S2 x = some xs ∧ pyWalk S2 y = some ys ∧ P ((xs.zip ys).map fun p => D.py (.tuple [p.1, p.2])) S2) E) E := by
  unfold zipI
  rw [wp_bind]
  congr 1
  funext d S1
  rw [wp_bind]
  congr 1
  funext d2 S2
  split
  · rename_i h1 h2
    exact propext ⟨fun p => ⟨_, _, h1, h2, p⟩, fun ⟨_, _, e1, e2, p⟩ => by rw [h1] at e1; rw [h2] at e2; cases e1; cases e2; exact p⟩
  · rename_i hn
    exact propext ⟨fun h => h.elim, fun ⟨_, _, e1, e2, _⟩ => (hn _ _ e1 e2).elim⟩
/-! ### operators upon known values -/
section
variable {i j : Int} {S : Sto}
@[simp] theorem addD_int : addD (.py (.int i)) (.py (.int j)) S = .ok (.py (.int (i + j))) S := id rfl
@[simp] theorem subD_int : subD (.py (.int i)) (.py (.int j)) S = .ok (.py (.int (i - j))) S := id rfl
@[simp] theorem mulD_l (h : -(2 ^ 64) < i ∧ i < 2 ^ 64) : mulD (.py (.int i)) (.py (.int j)) S = .ok (.py (.int (i * j))) S := if_pos (.inl h)
@[simp] theorem mulD_r (h : -(2 ^ 64) < j ∧ j < 2 ^ 64) : mulD (.py (.int i)) (.py (.int j)) S = .ok (.py (.int (i * j))) S := if_pos (.inr h)
@[simp] theorem fdivD_int (h : 0 < j ∧ j < 1073741824) : fdivD (.py (.int i)) (.py (.int j)) S = .ok (.py (.int (i / j))) S := if_pos h
@[simp] theorem modD_int (h : 0 < j) : modD (.py (.int i)) (.py (.int j)) S = .ok (.py (.int (i % j))) S := if_pos h
@[simp] theorem divmodD_int (h : 0 < j ∧ j < 1073741824) : divmodD [.py (.int i), .py (.int j)] S = .ok (.py (.tuple [.int (i / j), .int (i % j)])) S := if_pos h
@[simp] theorem negD_int : negD (.py (.int i)) S = .ok (.py (.int (-i))) S := id rfl
@[simp] theorem eqD_int : eqD (.py (.int i)) (.py (.int j)) S = .ok (.py (.bool (decide (i = j)))) S := id rfl
@[simp] theorem neD_int : neD (.py (.int i)) (.py (.int j)) S = .ok (.py (.bool (!decide (i = j)))) S := id rfl
@[simp] theorem eqD_str {x y : Str} : eqD (.py (.str x)) (.py (.str y)) S = .ok (.py (.bool (decide (x = y)))) S := id rfl
@[simp] theorem neD_str {x y : Str} : neD (.py (.str x)) (.py (.str y)) S = .ok (.py (.bool (!decide (x = y)))) S := id rfl
@[simp] theorem ltD_int : ltD (.py (.int i)) (.py (.int j)) S = .ok (.py (.bool (decide (i < j)))) S := id rfl
@[simp] theorem cmpI_int {p : Int → Int → Bool} : cmpI p (.py (.int i)) (.py (.int j)) S = .ok (.py (.bool (p i j))) S := id rfl
@[simp] theorem lenD_list {ds : List PyData} : lenD [.py (.list ds)] S = .ok (.py (.int (ds.length : Nat))) S := by simp [lenD, seqOf]
@[simp] theorem lenD_tuple {ds : List PyData} : lenD [.py (.tuple ds)] S = .ok (.py (.int (ds.length : Nat))) S := by simp [lenD, seqOf]
theorem lenD_obj {n : Nat} {ds : List D} (h : S[n]? = some (.lst ds)) : lenD [.obj n] S = .ok (.py (.int (ds.length : Nat))) S := by simp [lenD, seqOf, h]
@[simp] theorem tupleD_list {ds : List PyData} : tupleD [.py (.list ds)] S = .ok (.py (.tuple ds)) S := by simp [tupleD, seqOf]
theorem tupleD_obj {n : Nat} {ds : List PyData} (h : S[n]? = some (.lst (ds.map .py))) : tupleD [.obj n] S = .ok (.py (.tuple ds)) S := by simp [tupleD, seqOf, h]
@[simp] theorem listD_list {ds : List PyData} : listD [.py (.list ds)] S = .ok (ds.map .py) S := by simp [listD, seqOf]
@[simp] theorem max2D_int : max2D [.py (.int i), .py (.int j)] S = .ok (.py (.int (if j > i then j else i))) S := id rfl
@[simp] theorem min2D_int : min2D [.py (.int i), .py (.int j)] S = .ok (.py (.int (if j < i then j else i))) S := id rfl
@[simp] theorem absD_int : absD [.py (.int i)] S = .ok (.py (.int (if i < 0 then -i else i))) S := id rfl
theorem atI_nat {α : Type} {xs : List α} (k : Nat) (x : α) (h : xs[k]? = some x) : L2.atI xs (k : Int) = some x := L2.atI_nat h
theorem itemD_list {ds : List PyData} (k : Nat) {d : PyData} (h : ds[k]? = some d) : itemD (.py (.list ds)) (.py (.int k)) S = .ok (.py d) S := by
  simp [itemD, seqOf, atI_nat k (D.py d) (xs := ds.map .py) (by simp [h])]
theorem itemD_tuple {ds : List PyData} (k : Nat) {d : PyData} (h : ds[k]? = some d) : itemD (.py (.tuple ds)) (.py (.int k)) S = .ok (.py d) S := by
  simp [itemD, seqOf, atI_nat k (D.py d) (xs := ds.map .py) (by simp [h])]
theorem itemD_obj {n : Nat} {ds : List D} (hn : S[n]? = some (.lst ds)) (k : Nat) {d : D} (h : ds[k]? = some d) : itemD (.obj n) (.py (.int k)) S = .ok d S := by
  simp [itemD, seqOf, hn, atI_nat k d h]
@[simp] theorem itemD_l0 {a : PyData} {r : List PyData} : itemD (.py (.list (a :: r))) (.py (.int 0)) S = .ok (.py a) S := itemD_list 0 rfl
@[simp] theorem itemD_l1 {a b : PyData} {r : List PyData} : itemD (.py (.list (a :: b :: r))) (.py (.int 1)) S = .ok (.py b) S := itemD_list 1 rfl
@[simp] theorem itemD_t0 {a : PyData} {r : List PyData} : itemD (.py (.tuple (a :: r))) (.py (.int 0)) S = .ok (.py a) S := itemD_tuple 0 rfl
@[simp] theorem itemD_t1 {a b : PyData} {r : List PyData} : itemD (.py (.tuple (a :: b :: r))) (.py (.int 1)) S = .ok (.py b) S := itemD_tuple 1 rfl
@[simp] theorem itemD_t2 {a b c : PyData} {r : List PyData} : itemD (.py (.tuple (a :: b :: c :: r))) (.py (.int 2)) S = .ok (.py c) S := itemD_tuple 2 rfl
theorem appendD_obj {n : Nat} {ds : List D} {d : D} (h : S[n]? = some (.lst ds)) (hl : ds.length < sizeLine) : appendD (.obj n) [d] S = .ok (.py .none) (S.set n (.lst (ds ++ [d]))) := by simp [appendD, h, hl]
@[simp] theorem lsOk_list {ds : List PyData} : lsOk S (.py (.list ds)) = true := id rfl
theorem lsOk_obj {n : Nat} {ds : List D} (h : S[n]? = some (.lst ds)) : lsOk S (.obj n) = true := by simp [lsOk, h]
@[simp] theorem pw_list {ds : List PyData} : pyWalk S (.py (.list ds)) = some ds := id rfl
@[simp] theorem pw_tuple {ds : List PyData} : pyWalk S (.py (.tuple ds)) = some ds := id rfl
end
@[simp] theorem pysOf_comp {α : Type} (f : α → PyData) (l : List α) : pysOf (l.map (D.py ∘ f)) = some (l.map f) := by
  rw [← List.map_map, pysOf_map]
@[simp] theorem pysOf_fun {α : Type} (f : α → PyData) (l : List α) : pysOf (l.map fun x => D.py (f x)) = some (l.map f) := pysOf_comp f l
theorem listD_str {x : Str} {S : Sto} (h : x.length ≤ sizeLine) : listD [.py (.str x)] S = .ok (x.cps.toList.map fun c => D.py (.str ⟨#[c]⟩)) S := if_pos h
@[simp] theorem setAll_nil (ds : List D) (σ : En) : setAll [] ds σ = σ := id rfl
@[simp] theorem setAll_cons (i : Nat) (is : List Nat) (d : D) (ds : List D) (σ : En) : setAll (i :: is) (d :: ds) σ = setAll is ds (σ.set i (some d)) := id rfl
@[simp] theorem wipe_nil (σ : En) : wipeD σ [] = σ := id rfl
@[simp] theorem wipe_cons (σ : En) (v : Nat) (vs : List Nat) : wipeD σ (v :: vs) = (wipeD σ vs).set v none := id rfl
theorem popD_at {n : Nat} {ds : List D} {i : Int} {d : D} {S : Sto} (h : S[n]? = some (.lst ds)) (hi : 0 ≤ i ∧ i < 2 ^ 62) (hd : ds[i.toNat]? = some d) : popD (.obj n) [.py (.int i)] S = .ok d (S.set n (.lst (ds.eraseIdx i.toNat))) := by
  simp only [popD, h, hd]
  rw [if_pos hi]
theorem wp_eq {α : Type} {r : R α} {v : α} {S : Sto} (h : r.wp (fun a T => a = v ∧ T = S) noE) : r = .ok v S := by
  obtain ⟨a, T, e, rfl, rfl⟩ := h.out
  exact e
theorem wp_of {α : Type} {r : R α} {v : α} {S : Sto} {P : α → Sto → Prop} {E : Str → Sto → Prop} (h : r = .ok v S) (q : P v S) : r.wp P E := by rw [h]; exact q
theorem slot_any {σ l : En} {i : Nat} (h : σ.set i none = l) : ∃ y, σ = l.set i y := by
  subst h
  by_cases hi : i < σ.length
  · refine ⟨σ[i], ?_⟩
    rw [List.set_set, List.set_getElem_self]
  · exact ⟨none, by rw [List.set_set, List.set_eq_of_length_le (by omega)]⟩
theorem itemD_listI {ds : List PyData} {i : Int} {d : PyData} {S : Sto} (h0 : 0 ≤ i) (h : ds[i.toNat]? = some d) : itemD (.py (.list ds)) (.py (.int i)) S = .ok (.py d) S := by
  obtain ⟨k, rfl⟩ : ∃ k : Nat, i = k := ⟨i.toNat, by omega⟩
  exact itemD_list k h
theorem itemD_tupleI {ds : List PyData} {i : Int} {d : PyData} {S : Sto} (h0 : 0 ≤ i) (h : ds[i.toNat]? = some d) : itemD (.py (.tuple ds)) (.py (.int i)) S = .ok (.py d) S := by
  obtain ⟨k, rfl⟩ : ∃ k : Nat, i = k := ⟨i.toNat, by omega⟩
  exact itemD_tuple k h
/-! ### an item is set -/
def ixP (x k d : D) (σ : En) (S2 : Sto) : R En := match x, k with
  | .obj n, .py (.int k) => (match S2[n]? with
    | some (.lst ds) => (match L2.ixN ds.length k with
      | some j => .ok σ (S2.set n (.lst (ds.set j d)))
      | none => .no)
    | _ => .no)
  | _, _ => .no
@[simp ↓] theorem wp_ix (o i : Ex) (d : D) {σ : En} {S : Sto} {P : En → Sto → Prop} {E : Str → Sto → Prop} : (ixG o i d σ S).wp P E = (o σ S).wp (fun x S1 => (i σ S1).wp (fun k S2 => (ixP x k d σ S2).wp P E) E) E := by
  unfold ixG
  rw [wp_bind]
  congr 1
  funext x S1
  rw [wp_bind]
  rfl
theorem ixP_obj {n k : Nat} {ds : List D} {d : D} {σ : En} {S : Sto} (h : S[n]? = some (.lst ds)) (hk : k < ds.length) : ixP (.obj n) (.py (.int k)) d σ S = .ok σ (S.set n (.lst (ds.set k d))) := by
  have : L2.ixN ds.length (k : Int) = some k := by simp [L2.ixN]; omega
  simp [ixP, h, this]
theorem ixP_0 {n : Nat} {a : D} {ds : List D} {d : D} {σ : En} {S : Sto} (h : S[n]? = some (.lst (a :: ds))) : ixP (.obj n) (.py (.int 0)) d σ S = .ok σ (S.set n (.lst (d :: ds))) := ixP_obj (k := 0) h (by simp)
theorem ixP_1 {n : Nat} {a b : D} {ds : List D} {d : D} {σ : En} {S : Sto} (h : S[n]? = some (.lst (a :: b :: ds))) : ixP (.obj n) (.py (.int 1)) d σ S = .ok σ (S.set n (.lst (a :: d :: ds))) := ixP_obj (k := 1) h (by simp)
theorem wp_mid {f : Sx} {σ : En} {S : Sto} {N : K} (Mid : En → En → Sto → Prop) (h : (f σ S).wp { N with nx := Mid σ }) (q : ∀ σ' S', Mid σ σ' S' → N.nx σ' S') : (f σ S).wp N :=
  F.wp.mono h q (fun _ _ h => h) (fun _ _ h => h) (fun _ _ h => h) fun _ _ h => h
@[simp] theorem exists_bool {P : Bool → Prop} {d : Bool} : (∃ k, D.py (.bool d) = D.py (.bool k) ∧ P k) = P d := propext ⟨fun ⟨k, e, h⟩ => by cases e; exact h, fun h => ⟨d, rfl, h⟩⟩
@[simp ↓] theorem wp_zip3 (a b c : Ex) {σ : En} {S : Sto} {P : List D → Sto → Prop} {E : Str → Sto → Prop} : (zip3I a b c σ S).wp P E = (a σ S).wp (fun x S1 => (b σ S1).wp (fun y S2 => (c σ S2).wp (fun z S3 => ∃ xs ys zs, pyWalk S3 x = some xs ∧ pyWalk S3 y = some ys ∧ pyWalk S3 z = some zs ∧ P ((xs.zip (ys.zip zs)).map fun p => D.py (.tuple [p.1, p.2.1, p.2.2])) S3) E) E) E := by
  unfold zip3I
  rw [wp_bind]
  congr 1
  funext d S1
  rw [wp_bind]
  congr 1
  funext d2 S2
  rw [wp_bind]
  congr 1
  funext d3 S3
  split
  · rename_i h1 h2 h3
    exact propext ⟨fun p => ⟨_, _, _, h1, h2, h3, p⟩, fun ⟨_, _, _, e1, e2, e3, p⟩ => by rw [h1] at e1; rw [h2] at e2; rw [h3] at e3; cases e1; cases e2; cases e3; exact p⟩
  · rename_i hn
    exact propext ⟨fun h => h.elim, fun ⟨_, _, _, e1, e2, e3, _⟩ => (hn _ _ _ e1 e2 e3).elim⟩
@[simp] theorem zip3_mmm {α β γ : Type} (f : α → PyData) (g : β → PyData) (h : γ → PyData) (xs : List α) (ys : List β) (zs : List γ) : ((xs.map f).zip ((ys.map g).zip (zs.map h))).map (fun p => D.py (.tuple [p.1, p.2.1, p.2.2])) = (xs.zip (ys.zip zs)).map fun p => D.py (.tuple [f p.1, g p.2.1, h p.2.2]) := by
  rw [List.zip_map, List.zip_map, List.map_map]
  rfl
@[simp ↓] theorem wp_forL_nil {g : Tg} {b : Sx} {σ : En} {S : Sto} {N : K} : (forL g b [] σ S).wp N = N.nx σ S := id rfl
@[simp ↓] theorem wp_forL_cons {g : Tg} {b : Sx} {σ : En} {S : Sto} {N : K} {x : D} {xs : List D} : (forL g b (x :: xs) σ S).wp N =
    (g x σ S).wp (fun σ1 S1 => (b σ1 S1).wp { N with nx := fun σ2 S2 => (forL g b xs σ2 S2).wp N, ct := fun σ2 S2 => (forL g b xs σ2 S2).wp N, bk := fun σ2 S2 => N.nx σ2 S2 }) N.ex := by
  rw [forL]
  cases g x σ S with
  | ok σ1 S1 =>
    simp only [wp_ok]
    cases b σ1 S1 <;> rfl
  | ex c S1 => rfl
  | no => rfl
@[simp ↓] theorem wp_enum (a : Ex) {σ : En} {S : Sto} {P : List D → Sto → Prop} {E : Str → Sto → Prop} : (enumI a σ S).wp P E = (a σ S).wp (fun x S1 => ∃ xs, pyWalk S1 x = some xs ∧ P (xs.zipIdx.map fun p => D.py (.tuple [.int (p.2 : Nat), p.1])) S1) E := by
  unfold enumI
  rw [wp_bind]
  congr 1
  funext d S1
  split
  · rename_i h1
    exact propext ⟨fun p => ⟨_, h1, p⟩, fun ⟨_, e1, p⟩ => by rw [h1] at e1; cases e1; exact p⟩
  · rename_i hn
    exact propext ⟨fun h => h.elim, fun ⟨_, e1, _⟩ => by rw [hn] at e1; cases e1⟩
@[simp] theorem enum_m {α : Type} (f : α → PyData) (xs : List α) : ((xs.map f).zipIdx).map (fun p => D.py (.tuple [.int (p.2 : Nat), p.1])) = xs.zipIdx.map fun p => D.py (.tuple [.int (p.2 : Nat), f p.1]) := by
  rw [List.zipIdx_map, List.map_map]
  rfl
section
variable {a b c : Ex} {σ : En} {S : Sto} {P : D → Sto → Prop} {E : Str → Sto → Prop}
@[simp ↓] theorem wp_andE : (andE a b σ S).wp P E = (a σ S).wp (fun x S1 => ∃ k, x = .py (.bool k) ∧ if k = true then (b σ S1).wp P E else P (.py (.bool false)) S1) E := by
  unfold andE
  rw [wp_bind]
  congr 1
  funext x S1
  rcases x with d | n | n
  · cases d
    case bool k => cases k <;> exact propext ⟨fun h => ⟨_, rfl, by simpa using h⟩, fun ⟨k, e, h⟩ => by cases e; simpa using h⟩
    all_goals exact propext ⟨fun h => h.elim, fun ⟨k, e, _⟩ => by cases e⟩
  · exact propext ⟨fun h => h.elim, fun ⟨k, e, _⟩ => by cases e⟩
  · exact propext ⟨fun h => h.elim, fun ⟨k, e, _⟩ => by cases e⟩
@[simp ↓] theorem wp_orE : (orE a b σ S).wp P E = (a σ S).wp (fun x S1 => ∃ k, x = .py (.bool k) ∧ if k = true then P (.py (.bool true)) S1 else (b σ S1).wp P E) E := by
  unfold orE
  rw [wp_bind]
  congr 1
  funext x S1
  rcases x with d | n | n
  · cases d
    case bool k => cases k <;> exact propext ⟨fun h => ⟨_, rfl, by simpa using h⟩, fun ⟨k, e, h⟩ => by cases e; simpa using h⟩
    all_goals exact propext ⟨fun h => h.elim, fun ⟨k, e, _⟩ => by cases e⟩
  · exact propext ⟨fun h => h.elim, fun ⟨k, e, _⟩ => by cases e⟩
  · exact propext ⟨fun h => h.elim, fun ⟨k, e, _⟩ => by cases e⟩
@[simp ↓] theorem wp_notE : (notE a σ S).wp P E = (a σ S).wp (fun x S1 => ∃ k, x = .py (.bool k) ∧ P (.py (.bool (!k))) S1) E := by
  unfold notE
  rw [wp_bind]
  congr 1
  funext x S1
  split
  · exact propext ⟨fun h => ⟨_, rfl, h⟩, fun ⟨k, e, h⟩ => by cases e; exact h⟩
  · rename_i hn
    exact propext ⟨fun h => h.elim, fun ⟨k, e, _⟩ => (hn k e).elim⟩
@[simp ↓] theorem wp_chain {g g' : D → D → Sto → R D} : (chainE g g' a b c σ S).wp P E = (a σ S).wp (fun x S1 => (b σ S1).wp (fun y S2 => (g x y S2).wp (fun z S3 => ∃ k, z = .py (.bool k) ∧ if k = true then (c σ S3).wp (fun w S4 => (g' y w S4).wp P E) E else P (.py (.bool false)) S3) E) E) E := by
  unfold chainE
  rw [wp_bind]
  congr 1
  funext x S1
  rw [wp_bind]
  congr 1
  funext y S2
  rw [wp_bind]
  congr 1
  funext z S3
  rcases z with d | n | n
  · cases d
    case bool k => cases k <;> exact propext ⟨fun h => ⟨_, rfl, by simpa [wp_bind] using h⟩, fun ⟨k, e, h⟩ => by cases e; simpa [wp_bind] using h⟩
    all_goals exact propext ⟨fun h => h.elim, fun ⟨k, e, _⟩ => by cases e⟩
  · exact propext ⟨fun h => h.elim, fun ⟨k, e, _⟩ => by cases e⟩
  · exact propext ⟨fun h => h.elim, fun ⟨k, e, _⟩ => by cases e⟩
@[simp] theorem isiD_none {T : String} : isiD T (.py .none) S = .ok (.py (.bool (isB "NoneType" T))) S := id rfl
@[simp] theorem isiD_bool {T : String} {k : Bool} : isiD T (.py (.bool k)) S = .ok (.py (.bool (isB "bool" T))) S := id rfl
@[simp] theorem isiD_int {T : String} {i : Int} : isiD T (.py (.int i)) S = .ok (.py (.bool (isB "int" T))) S := id rfl
@[simp] theorem isiD_str {T : String} {x : Str} : isiD T (.py (.str x)) S = .ok (.py (.bool (isB "str" T))) S := id rfl
@[simp] theorem isiD_list {T : String} {x : List PyData} : isiD T (.py (.list x)) S = .ok (.py (.bool (isB "list" T))) S := id rfl
@[simp] theorem isiD_tuple {T : String} {x : List PyData} : isiD T (.py (.tuple x)) S = .ok (.py (.bool (isB "tuple" T))) S := id rfl
@[simp] theorem isNon_int {i : Int} : isNon (.int i) = false := id rfl
@[simp] theorem isNon_none : isNon .none = true := id rfl
@[simp] theorem isND_py {d : PyData} : isND (.py d) (.py .none) S = .ok (.py (.bool (isNon d))) S := id rfl
@[simp] theorem notND_py {d : PyData} : notND (.py d) (.py .none) S = .ok (.py (.bool (!isNon d))) S := id rfl
theorem boolsOf_map : ∀ bs : List Bool, boolsOf (bs.map .bool) = some bs
  | [] => rfl
  | b :: bs => by
    show (boolsOf (bs.map .bool)).map (b :: ·) = _
    rw [boolsOf_map bs]
    rfl
theorem intsOf_map : ∀ bs : List Int, intsOf (bs.map .int) = some bs
  | [] => rfl
  | b :: bs => by
    show (intsOf (bs.map .int)).map (b :: ·) = _
    rw [intsOf_map bs]
    rfl
@[simp] theorem allD_bools {bs : List Bool} : allD [.py (.list (bs.map .bool))] S = .ok (.py (.bool (bs.all id))) S := by simp only [allD, boolsOf_map]
@[simp] theorem anyD_bools {bs : List Bool} : anyD [.py (.list (bs.map .bool))] S = .ok (.py (.bool (bs.any id))) S := by simp only [anyD, boolsOf_map]
@[simp] theorem sumD_ints {bs : List Int} : sumD [.py (.list (bs.map .int))] S = .ok (.py (.int bs.sum)) S := by simp only [sumD, intsOf_map]
end
/-! ### the last list of the store -/
section
variable {S : Sto} {o o' : O} {ds : List D} {d : D} {σ : En}
@[simp] theorem last_get : (S ++ [o])[S.length]? = some o := by simp
@[simp] theorem last_set : (S ++ [o]).set S.length o' = S ++ [o'] := by simp [List.set_append_right]
theorem appendD_last (h : ds.length < sizeLine) : appendD (.obj S.length) [d] (S ++ [.lst ds]) = .ok (.py .none) (S ++ [.lst (ds ++ [d])]) := by
  rw [appendD_obj last_get h, last_set]
@[simp] theorem lsOk_last : lsOk (S ++ [.lst ds]) (.obj S.length) = true := lsOk_obj last_get
theorem tupleD_last {ps : List PyData} : tupleD [.obj S.length] (S ++ [.lst (ps.map .py)]) = .ok (.py (.tuple ps)) (S ++ [.lst (ps.map .py)]) := tupleD_obj last_get
theorem fix_last {i : Nat} {ps : List PyData} {N : K} (hi : σ[i]? = some (some (.obj S.length))) (q : N.nx (σ.set i (some (.py (.list ps)))) (S ++ [.gone])) : (fixS i σ (S ++ [.lst (ps.map .py)])).wp N := by
  unfold fixS
  simp only [hi, last_get, pysOf_map, last_set]
  exact q
/-- S and one list more -/
def stL (S : Sto) (ds : List PyData) : Sto := S ++ [.lst (ds.map .py)]
theorem stL_nil : S ++ [.lst []] = stL S [] := rfl
@[simp] theorem stL_get {ds : List PyData} : (stL S ds)[S.length]? = some (.lst (ds.map .py)) := last_get
@[simp] theorem stL_lsOk {ds : List PyData} : lsOk (stL S ds) (.obj S.length) = true := lsOk_last
theorem stL_app {ds : List PyData} {d : PyData} (h : ds.length < sizeLine) : appendD (.obj S.length) [.py d] (stL S ds) = .ok (.py .none) (stL S (ds ++ [d])) := by
  unfold stL
  rw [appendD_last (by simpa using h)]
  simp
@[simp] theorem stL_tuple {ds : List PyData} : tupleD [.obj S.length] (stL S ds) = .ok (.py (.tuple ds)) (stL S ds) := tupleD_last
@[simp] theorem stL_len {ds : List PyData} : lenD [.obj S.length] (stL S ds) = .ok (.py (.int (ds.length : Nat))) (stL S ds) := by rw [lenD_obj stL_get, List.length_map]
theorem stL_fix {i : Nat} {ps : List PyData} {N : K} (hi : σ[i]? = some (some (.obj S.length))) (q : N.nx (σ.set i (some (.py (.list ps)))) (S ++ [.gone])) : (fixS i σ (stL S ps)).wp N := fix_last hi q
theorem stL_set {ds es : List PyData} : (stL S ds).set S.length (.lst (es.map .py)) = stL S es := last_set
@[simp] theorem stL_length {ds : List PyData} : (stL S ds).length = S.length + 1 := by simp [stL]
def lstAt (S : Sto) (n : Nat) : Option (List D) := match S[n]? with
  | some (.lst ds) => some ds
  | _ => none
theorem lstAt_of {n : Nat} (h : S[n]? = some (.lst ds)) : lstAt S n = some ds := by simp [lstAt, h]
theorem lstAt_get {n : Nat} (h : lstAt S n = some ds) : S[n]? = some (.lst ds) := by
  unfold lstAt at h
  split at h
  · rename_i ds' e
    cases h
    exact e
  · cases h
@[simp] theorem stL_lstAt {es : List PyData} : lstAt (stL S es) S.length = some (es.map .py) := lstAt_of stL_get
@[simp ↓] theorem wp_ext (e : Ex) (a : Ax) {P : D → Sto → Prop} {E : Str → Sto → Prop} : (extE e a σ S).wp P E = (e σ S).wp (fun x S1 => ∃ n es, x = .obj n ∧ lstAt S1 n = some es ∧ (a σ S1).wp (fun ds S2 => ∃ es2, lstAt S2 n = some es2 ∧ es2.length + ds.length ≤ sizeLine ∧ P (.py .none) (S2.set n (.lst (es2 ++ ds)))) E) E := by
  unfold extE
  rw [wp_bind]
  congr 1
  funext x S1
  rcases x with x | n | n
  · exact propext ⟨fun h => h.elim, fun ⟨_, _, e, _⟩ => by cases e⟩
  · cases h1 : S1[n]? with
    | none => exact propext ⟨fun h => by simp only [h1] at h; exact h.elim, fun ⟨_, _, e, h2, _⟩ => by cases e; rw [lstAt_get h2] at h1; cases h1⟩
    | some o =>
      cases o with
      | gone => exact propext ⟨fun h => by simp only [h1] at h; exact h.elim, fun ⟨_, _, e, h2, _⟩ => by cases e; rw [lstAt_get h2] at h1; cases h1⟩
      | tab _ _ => exact propext ⟨fun h => by simp only [h1] at h; exact h.elim, fun ⟨_, _, e, h2, _⟩ => by cases e; rw [lstAt_get h2] at h1; cases h1⟩
      | dt _ => exact propext ⟨fun h => by simp only [h1] at h; exact h.elim, fun ⟨_, _, e, h2, _⟩ => by cases e; rw [lstAt_get h2] at h1; cases h1⟩
      | dk _ => exact propext ⟨fun h => by simp only [h1] at h; exact h.elim, fun ⟨_, _, e, h2, _⟩ => by cases e; rw [lstAt_get h2] at h1; cases h1⟩
      | ins _ _ => exact propext ⟨fun h => by simp only [h1] at h; exact h.elim, fun ⟨_, _, e, h2, _⟩ => by cases e; rw [lstAt_get h2] at h1; cases h1⟩
      | tpl _ => exact propext ⟨fun h => by simp only [h1] at h; exact h.elim, fun ⟨_, _, e, h2, _⟩ => by cases e; rw [lstAt_get h2] at h1; cases h1⟩
      | lst es =>
        simp only [h1, wp_bind]
        refine propext ⟨fun h => ⟨n, es, rfl, lstAt_of h1, h.mono (fun ds S2 h => ?_) fun _ _ h => h⟩, fun ⟨m, es', e, h2, h⟩ => ?_⟩
        · cases h3 : S2[n]? with
          | none => simp only [h3] at h; exact h.elim
          | some o =>
            cases o with
            | gone => simp only [h3] at h; exact h.elim
            | tab _ _ => simp only [h3] at h; exact h.elim
            | dt _ => simp only [h3] at h; exact h.elim
            | dk _ => simp only [h3] at h; exact h.elim
            | ins _ _ => simp only [h3] at h; exact h.elim
            | tpl _ => simp only [h3] at h; exact h.elim
            | lst es2 =>
              simp only [h3] at h
              by_cases hl : es2.length + ds.length ≤ sizeLine
              · rw [if_pos hl] at h
                exact ⟨es2, lstAt_of h3, hl, h⟩
              · rw [if_neg hl] at h
                exact h.elim
        · cases e
          refine h.mono (fun ds S2 ⟨es2, h3, hl, h⟩ => ?_) fun _ _ h => h
          simp only [lstAt_get h3]
          rw [if_pos hl]
          exact h
  · exact propext ⟨fun h => h.elim, fun ⟨_, _, e, _⟩ => by cases e⟩
end
@[simp] theorem zip_mm {α β : Type} (f : α → PyData) (g : β → PyData) (xs : List α) (ys : List β) : ((xs.map f).zip (ys.map g)).map (fun p => D.py (.tuple [p.1, p.2])) = (xs.zip ys).map fun p => D.py (.tuple [f p.1, g p.2]) := by
  rw [List.zip_map, List.map_map]
  rfl
/-! ### defs -/
/-- what is left of the store when a def is done -/
structure Cut (S S' T : Sto) : Prop where
  le : S.length ≤ S'.length
  cut : T = S'.take S.length
  sub : ∀ (i : Nat) (o : O), i < S.length → S'[i]? = some o → S[i]? = some o ∨ o.pure = true
theorem Cut.self {S : Sto} : Cut S S S := ⟨Nat.le_refl _, (List.take_length).symm, fun i o _ h => .inl h⟩
theorem Cut.app {S T : Sto} : Cut S (S ++ T) S := ⟨by simp, by simp, fun i o hi h => .inl (by rwa [List.getElem?_append_left hi] at h)⟩
theorem Cut.stL {S : Sto} {ds : List PyData} : Cut S (stL S ds) S := Cut.app
theorem gc_cut {γ : Type} {p : Prop} {S S' T : Sto} {k : Sto → γ} (hp : p) (h : Cut S S' T) : gc p S S' k = k T := by
  unfold gc
  rw [if_pos ⟨hp, h.le, h.sub⟩, h.cut]
theorem wp_fn {n : Nat} {b : Sx} {ds : List D} {S : Sto} {Q : D → Sto → Prop} {E : Str → Sto → Prop}
    (h : (b (init n ds) S).wp { nx := fun _ S' => ∃ T, Cut S S' T ∧ Q (.py .none) T, rt := fun d S' => ∃ T, Cut S S' T ∧ d.pure = true ∧ Q d T, ex := fun c S' => ∃ T, Cut S S' T ∧ E c T }) : (fnF n b ds S).wp Q E := by
  unfold fnF fnR
  cases hb : b (init n ds) S with
  | nx σ S' =>
    rw [hb] at h
    obtain ⟨T, c, q⟩ := h
    simp only [gc_cut (p := True) trivial c]
    exact q
  | rt d S' =>
    rw [hb] at h
    obtain ⟨T, c, p, q⟩ := h
    simp only [gc_cut p c]
    exact q
  | ex c S' =>
    rw [hb] at h
    obtain ⟨T, c, q⟩ := h
    simp only [gc_cut (p := True) trivial c]
    exact q
  | bk σ S' => rw [hb] at h; exact h.elim
  | ct σ S' => rw [hb] at h; exact h.elim
  | no => rw [hb] at h; exact h.elim
/-- a def whose answer may be a list that is changed -/
theorem wp_fnM {n : Nat} {b : Sx} {ds : List D} {S : Sto} {Q : D → Sto → Prop} {E : Str → Sto → Prop}
    (h : (b (init n ds) S).wp { nx := fun _ _ => False, rt := fun d S' => d.pure = false ∧ Q d S' }) : (fnF n b ds S).wp Q E := by
  unfold fnF fnR
  cases hb : b (init n ds) S with
  | rt d S' =>
    rw [hb] at h
    obtain ⟨p, q⟩ := h
    show (gc (d.pure = true) S S' fun T => R.ok d T).wp Q E
    unfold gc
    rw [if_neg (by rw [p]; simp)]
    exact q
  | nx σ S' => rw [hb] at h; exact h.elim
  | ex c S' => rw [hb] at h; exact h.elim
  | bk σ S' => rw [hb] at h; exact h.elim
  | ct σ S' => rw [hb] at h; exact h.elim
  | no => rw [hb] at h; exact h.elim
/-- a def that makes nothing but its answer -/
theorem fn_eq {n : Nat} {b : Sx} {ds : List D} {S : Sto} {d : D} (h : (fnF n b ds S).wp (fun x T => x = d ∧ T = S) noE) : fnF n b ds S = .ok d S := by
  obtain ⟨a, T, e, rfl, rfl⟩ := h.out
  exact e
end
end DV

set_option maxHeartbeats 4000000
namespace DV
open PySem
/-! The box of the law's random numbers, and what is drawn from it. -/
/-- at n stands a box -/
def BoxAt (S : Sto) (n : Nat) : Prop := ∃ a b : Int, S[n]? = some (.lst [.py (.int a), .py (.int b)])
/-- but for n nothing of S has changed -/
structure Ch (n : Nat) (S S' : Sto) : Prop where
  le : S.length ≤ S'.length
  same : ∀ i, i < S.length → i ≠ n → S'[i]? = S[i]?
  box : BoxAt S' n
theorem BoxAt.lt {S : Sto} {n : Nat} (h : BoxAt S n) : n < S.length := by
  obtain ⟨a, b, e⟩ := h
  exact (List.getElem?_eq_some_iff.mp e).1
theorem Ch.refl {S : Sto} {n : Nat} (h : BoxAt S n) : Ch n S S := ⟨Nat.le_refl _, fun _ _ _ => rfl, h⟩
theorem Ch.trans {S S1 S2 : Sto} {n : Nat} (h : Ch n S S1) (h2 : Ch n S1 S2) : Ch n S S2 :=
  ⟨Nat.le_trans h.le h2.le, fun i hi ne => (h2.same i (Nat.lt_of_lt_of_le hi h.le) ne).trans (h.same i hi ne), h2.box⟩
theorem Ch.at_ {S S' : Sto} {n m : Nat} {o : O} (h : Ch n S S') (e : S[m]? = some o) (ne : m ≠ n) : S'[m]? = some o :=
  (h.same m (List.getElem?_eq_some_iff.mp e).1 ne).trans e
theorem Ch.set {S : Sto} {n : Nat} {a b : Int} (h : n < S.length) : Ch n S (S.set n (.lst [.py (.int a), .py (.int b)])) :=
  ⟨by simp, fun i hi ne => by rw [List.getElem?_set_ne (Ne.symm ne)], a, b, by simp [h]⟩
theorem Ch.app {S T : Sto} {n : Nat} (h : BoxAt S n) : Ch n S (S ++ T) :=
  ⟨by simp, fun i hi _ => by rw [List.getElem?_append_left hi], by
    obtain ⟨a, b, e⟩ := h
    exact ⟨a, b, by rw [List.getElem?_append_left (List.getElem?_eq_some_iff.mp e).1]; exact e⟩⟩
/-- a list of one's own is changed -/
theorem Ch.own {S S' : Sto} {n m : Nat} {o : O} (h : Ch n S S') (hm : S.length ≤ m) (hn : n < S.length) : Ch n S (S'.set m o) :=
  ⟨by rw [List.length_set]; exact h.le, fun i hi ne => by rw [List.getElem?_set_ne (by omega)]; exact h.same i hi ne, by
    obtain ⟨a, b, e⟩ := h.box
    exact ⟨a, b, by rw [List.getElem?_set_ne (by omega)]; exact e⟩⟩
theorem Ch.cut {S S' : Sto} {n : Nat} (h : Ch n S S') (hn : n < S.length) : ∃ T, Cut S S' T ∧ Ch n S T ∧ T.length = S.length := by
  refine ⟨S'.take S.length, ⟨h.le, rfl, fun i o hi e => ?_⟩, ⟨by rw [List.length_take]; have := h.le; omega, fun i hi ne => ?_, ?_⟩, by rw [List.length_take]; have := h.le; omega⟩
  · by_cases q : i = n
    · subst q
      obtain ⟨a, b, e2⟩ := h.box
      rw [e] at e2
      cases e2
      exact .inr rfl
    · exact .inl ((h.same i hi q).symm.trans e)
  · rw [List.getElem?_take_of_lt hi]
    exact h.same i hi ne
  · obtain ⟨a, b, e⟩ := h.box
    exact ⟨a, b, by rw [List.getElem?_take_of_lt hn]; exact e⟩
/-- a law's draw -/
theorem take_ok {S : Sto} {n : Nat} {many : Int} (h : BoxAt S n) (h0 : 0 < many) (h1 : many < 1073741824) :
    (F_law_take [.obj n, .py (.int many)] S).wp (fun d S' => ∃ r, d = .py (.int r) ∧ 0 ≤ r ∧ r < many ∧ Ch n S S' ∧ S'.length = S.length) noE := by
  have hn := h.lt
  obtain ⟨a, b, e⟩ := h
  have fin : ∀ (r x y : Int), 0 ≤ r → r < many → ∃ T, Cut S (S.set n (.lst [.py (.int x), .py (.int y)])) T ∧ (D.py (.int r)).pure = true ∧ ∃ r', D.py (.int r) = .py (.int r') ∧ 0 ≤ r' ∧ r' < many ∧ Ch n S T ∧ T.length = S.length := fun r x y h1 h2 => by
    obtain ⟨T, c, q, l⟩ := (Ch.set (a := x) (b := y) hn).cut hn
    exact ⟨T, c, rfl, r, rfl, h1, h2, q, l⟩
  unfold F_law_take b_law_take
  refine wp_fn ?_
  have i0 : itemD (.obj n) (.py (.int 0)) S = .ok (.py (.int a)) S := itemD_obj e 0 rfl
  have i1 : itemD (.obj n) (.py (.int 1)) S = .ok (.py (.int b)) S := itemD_obj e 1 rfl
  by_cases ha : 0 < a
  · simp [init, i0, ha, h0, h1, ixP_0 e]
    have := fin (a % many) (a / many) b (Int.emod_nonneg _ (by omega)) (Int.emod_lt_of_pos _ h0)
    simpa using this
  · simp [init, i0, i1, ha, ixP_1 e]
    have b0 : 0 ≤ (b * 48271 + 11) % 2147483647 := Int.emod_nonneg _ (by decide)
    have b1 : (b * 48271 + 11) % 2147483647 < 2147483647 := Int.emod_lt_of_pos _ (by decide)
    generalize (b * 48271 + 11) % 2147483647 = c at *
    have j1 : itemD (.obj n) (.py (.int 1)) (S.set n (.lst [.py (.int a), .py (.int c)])) = .ok (.py (.int c)) _ := itemD_obj (ds := [.py (.int a), .py (.int c)]) (by simp [hn]) 1 rfl
    have d0 : 0 ≤ c / 1009 := Int.ediv_nonneg b0 (by decide)
    have d1 : c / 1009 ≤ 2147483647 := by omega
    have q1 : -(2 ^ 64) < c / 1009 + 1 ∧ c / 1009 + 1 < 2 ^ 64 := by omega
    have q2 : ∀ x S, mulD (.py (.int x)) (.py (.int (c / 1009 + 1))) S = .ok (.py (.int (x * (c / 1009 + 1)))) S := fun x S => mulD_r q1
    simp [j1, q2, h0]
    have z := fin ((c / 1009 + 1) * (c / 1009 + 1) * (c / 1009 + 1) % 2147483629 / 61 % many) a c (Int.emod_nonneg _ (by omega)) (Int.emod_lt_of_pos _ h0)
    simpa using z
/-- the box of a script's number -/
theorem box_ok {S : Sto} {ns : List Int} {k : Nat} (hk : k < 1000000) :
    (F_law_box [.py (.list (ns.map .int)), .py (.int k)] S).wp (fun d S' => d = .obj S.length ∧ ∃ a b : Int, S' = S ++ [.lst [.py (.int a), .py (.int b)]]) noE := by
  unfold F_law_box b_law_box
  refine wp_fnM ?_
  have hk1 : -(2 ^ 64) < (k : Int) ∧ (k : Int) < 2 ^ 64 := by omega
  have m1 : ∀ x S, mulD (.py (.int x)) (.py (.int k)) S = .ok (.py (.int (x * k))) S := fun x S => mulD_r hk1
  by_cases hl : k < ns.length
  · have it : itemD (.py (.list (ns.map .int))) (.py (.int k)) S = .ok (.py (.int ns[k])) S := itemD_list k (by simp [hl])
    simp [init, m1, hl, it, wp_ite, D.pure]
    omega
  · simp [init, m1, hl, wp_ite, D.pure]
    try omega
end DV

set_option maxHeartbeats 4000000
namespace DV
open PySem
/-! Faces drawn from the box. -/
abbrev lt (c : Nat) : PyData := .str ⟨#[c]⟩
abbrev encL (p : Nat × Int) : PyData := .tuple [lt p.1, .int p.2]
structure Face where
  w : Int
  ls : List (Nat × Int)
abbrev Face.py (f : Face) : PyData := .tuple [.int f.w, .tuple (f.ls.map encL)]
structure Face.Good (f : Face) (lo hi : Int) : Prop where
  w0 : 1 ≤ f.w
  w1 : f.w ≤ 99
  lo : lo ≤ (f.ls.length : Int)
  hi : (f.ls.length : Int) ≤ hi
  nd : (f.ls.map (·.1)).Nodup
  ok : ∀ p ∈ f.ls, 97 ≤ p.1 ∧ p.1 ≤ 122 ∧ 10 ≤ p.2 ∧ p.2 ≤ 99
theorem alphabet : ("abcdefghijklmnopqrstuvwxyz" : Str).cps.toList = (List.range 26).map (97 + ·) := by decide +kernel
theorem list_alphabet (S : Sto) : listD [.py (.str "abcdefghijklmnopqrstuvwxyz")] S = .ok (((List.range 26).map (97 + ·)).map fun c => D.py (lt c)) S := by
  rw [listD_str (by decide +kernel), alphabet, List.map_map]
theorem nodup_pop : ∀ {l : List Nat} {r c : Nat}, l.Nodup → l[r]? = some c → c ∉ l.eraseIdx r ∧ (l.eraseIdx r).Nodup
  | [], r, c, _, hc => by simp at hc
  | a :: l, 0, c, h, hc => by
    simp at hc
    subst hc
    exact List.nodup_cons.mp h
  | a :: l, r + 1, c, h, hc => by
    rw [List.nodup_cons] at h
    have hc : l[r]? = some c := by simpa using hc
    have ih := nodup_pop h.2 hc
    have mc := List.mem_of_getElem? hc
    show c ∉ a :: l.eraseIdx r ∧ (a :: l.eraseIdx r).Nodup
    rw [List.nodup_cons, List.mem_cons, not_or]
    exact ⟨⟨fun e => h.1 (e ▸ mc), ih.1⟩, fun m => h.1 (List.mem_of_mem_eraseIdx m), ih.2⟩
def PoolI (n : Nat) (S T : Sto) (acc : List D) (k : Nat) : Prop :=
  Ch n S T ∧ ∃ (ls : List (Nat × Int)) (pl : List Nat), acc = ls.map (fun p => D.py (encL p)) ∧ T[S.length]? = some (.lst (pl.map fun c => D.py (lt c))) ∧ ls.length = k ∧ pl.length + k = 26 ∧ pl.Nodup ∧ (ls.map (·.1)).Nodup ∧
    (∀ p ∈ ls, p.1 ∉ pl ∧ 97 ≤ p.1 ∧ p.1 ≤ 122 ∧ 10 ≤ p.2 ∧ p.2 ≤ 99) ∧ ∀ c ∈ pl, 97 ≤ c ∧ c ≤ 122
theorem eraseIdx_map {α β : Type} (f : α → β) : ∀ (l : List α) (r : Nat), (l.map f).eraseIdx r = (l.eraseIdx r).map f
  | [], _ => rfl
  | _ :: _, 0 => rfl
  | a :: l, r + 1 => congrArg (f a :: ·) (eraseIdx_map f l r)
theorem face_ok {S : Sto} {n : Nat} {lo hi : Int} (h : BoxAt S n) (h0 : 0 ≤ lo) (h1 : lo ≤ hi) (h2 : hi ≤ 26) :
    (F_law_face [.obj n, .py (.int lo), .py (.int hi)] S).wp (fun d S' => ∃ f : Face, d = .py f.py ∧ f.Good lo hi ∧ Ch n S S' ∧ S'.length = S.length) noE := by
  have hn := h.lt
  unfold F_law_face b_law_face
  refine wp_fn ?_
  simp [init, list_alphabet]
  refine (take_ok (n := n) (many := hi - lo + 1) (Ch.app h).box (by omega) (by omega)).to ?_
  rintro d S1 ⟨m, rfl, m0, m1, c1, l1⟩
  have hp : S1[S.length]? = some (.lst (((List.range 26).map (97 + ·)).map fun c => D.py (lt c))) := c1.at_ (by simp) (by omega)
  have c1 := (Ch.app (T := [.lst (List.map ((fun c => D.py (lt c)) ∘ fun x => 97 + x) (List.range 26))]) h).trans c1
  simp at l1 ⊢
  refine ⟨by omega, ?_⟩
  refine wp_lcL (fun pre acc T => PoolI n S T acc pre.length) ?_ ?_ ?_
  · refine ⟨c1, [], (List.range 26).map (97 + ·), rfl, hp, rfl, by decide, by decide, by decide, by simp, by decide⟩
  · rintro pre x post acc T hxs ⟨cT, ls, pl, rfl, hpl, hl, hlen, ndp, ndl, hls, hcs⟩
    have hlp : pre.length + post.length + 1 = (lo + m).toNat := by
      have := congrArg List.length hxs
      simp [rngV] at this
      omega
    have pos : 0 < (pl.length : Int) := by omega
    have cnt : lenD [.obj S.length] T = _ := lenD_obj hpl
    simp [cnt, lsOk_obj hpl]
    refine (take_ok (n := n) (many := pl.length) cT.box pos (by omega)).to ?_
    rintro d T1 ⟨r, rfl, r0, r1, cT1, _⟩
    have hr : r.toNat < pl.length := by omega
    have hpl1 := cT1.at_ hpl (by omega)
    have hpop := popD_at (i := r) (d := D.py (lt pl[r.toNat])) hpl1 ⟨r0, by omega⟩ (by simp [hr])
    simp [hpop]
    refine (take_ok (n := n) (many := 90) ((cT.trans cT1).own (o := .lst ((pl.map fun c => D.py (lt c)).eraseIdx r.toNat)) (Nat.le_refl _) hn).box (by decide) (by decide)).to ?_
    rintro d T2 ⟨q, rfl, q0, q1, cT2, _⟩
    have np := nodup_pop ndp (List.getElem?_eq_getElem hr)
    have hT2 := cT2.at_ (m := S.length) (o := .lst ((pl.map fun c => D.py (lt c)).eraseIdx r.toNat)) (by rw [List.getElem?_set_self]; have := cT1.le; have := cT.le; have := (List.getElem?_eq_some_iff.mp hpl1).1; omega) (by omega)
    simp
    refine ⟨((cT.trans cT1).own (Nat.le_refl _) hn).trans cT2, ls ++ [(pl[r.toNat], 10 + q)], pl.eraseIdx r.toNat, by simp, ?_, by simp [hl], ?_, np.2, ?_, ?_, fun c hc => hcs c (List.mem_of_mem_eraseIdx hc)⟩
    · rw [hT2]
      rw [eraseIdx_map]
    · rw [List.length_eraseIdx_of_lt hr]
      omega
    · rw [List.map_append, List.nodup_append]
      refine ⟨ndl, by simp, fun a ha b hb => ?_⟩
      simp at hb
      subst hb
      obtain ⟨p, hp1, rfl⟩ := List.mem_map.mp ha
      intro e
      exact (hls p hp1).1 (e ▸ List.getElem_mem hr)
    · intro p hp1
      rw [List.mem_append] at hp1
      rcases hp1 with hp1 | hp1
      · obtain ⟨z1, z2⟩ := hls p hp1
        exact ⟨fun h => z1 (List.mem_of_mem_eraseIdx h), z2⟩
      · simp at hp1
        subst hp1
        obtain ⟨y1, y2⟩ := hcs _ (List.getElem_mem hr)
        exact ⟨np.1, y1, y2, by omega, by omega⟩
  · rintro acc T ⟨cT, ls, pl, rfl, hpl, hl, hlen, ndp, ndl, hls, hcs⟩
    have e : ls.map (fun p => D.py (encL p)) = (ls.map encL).map .py := by simp
    rw [e]
    simp
    refine (take_ok (n := n) (many := 99) cT.box (by decide) (by decide)).to ?_
    rintro d T1 ⟨q, rfl, q0, q1, cT1, _⟩
    obtain ⟨T2, k1, k2, k3⟩ := (cT.trans cT1).cut hn
    simp
    refine ⟨T2, k1, rfl, ⟨1 + q, ls⟩, ⟨rfl, rfl⟩, ⟨by simp; omega, by simp; omega, ?_, ?_, ndl, fun p hp1 => (hls p hp1).2⟩, k2, k3⟩
    · simp [hl, rngV]
      omega
    · simp [hl, rngV]
      omega
end DV

set_option maxHeartbeats 4000000
namespace DV
open PySem
/-! Draws by a comprehension; rows of lists that are changed. -/
abbrev pyi (i : Int) : D := .py (.int i)
theorem draws {α : Type} {n i : Nat} {S : Sto} {σ : En} {e : Ex} {xs : List D} {E : Str → Sto → Prop} (f : α → PyData) (p : α → Prop) (hb : BoxAt S n)
    (h : ∀ x S', x ∈ xs → Ch n S S' → (e (σ.set i (some x)) S').wp (fun d S2 => ∃ r, d = .py (f r) ∧ p r ∧ Ch n S' S2) noE) :
    (lcL (nmG i) yesT e σ xs S).wp (fun ds S' => ∃ rs : List α, ds = rs.map (fun r => .py (f r)) ∧ rs.length = xs.length ∧ (∀ r ∈ rs, p r) ∧ Ch n S S') E := by
  refine wp_lcL (fun pre acc T => ∃ rs : List α, acc = rs.map (fun r => .py (f r)) ∧ rs.length = pre.length ∧ (∀ r ∈ rs, p r) ∧ Ch n S T) ⟨[], rfl, rfl, by simp, .refl hb⟩ ?_ fun _ _ h => h
  rintro pre x post acc T hxs ⟨rs, rfl, hl, hp, c⟩
  rw [wp_nm, wp_yes, if_pos rfl]
  refine (h x T (by rw [hxs]; simp) c).to ?_
  rintro d S2 ⟨r, rfl, pr, c2⟩
  refine ⟨rs ++ [r], by simp, by simp [hl], fun y hy => ?_, c.trans c2⟩
  rw [List.mem_append] at hy
  rcases hy with hy | hy
  · exact hp y hy
  · rw [List.mem_singleton] at hy
    rw [hy]
    exact pr
theorem nodup_get {α : Type} {l : List α} (h : l.Nodup) {i j : Nat} {x : α} (h1 : l[i]? = some x) (h2 : l[j]? = some x) : i = j := by
  obtain ⟨p, e1⟩ := List.getElem?_eq_some_iff.mp h1
  obtain ⟨q, e2⟩ := List.getElem?_eq_some_iff.mp h2
  rcases Nat.lt_trichotomy i j with z | z | z
  · exact (List.pairwise_iff_getElem.mp h i j p q z (e1.trans e2.symm)).elim
  · exact z
  · exact (List.pairwise_iff_getElem.mp h j i q p z (e2.trans e1.symm)).elim
/-- rows that are changed -/
structure Grid (S : Sto) (lo m : Nat) (ids : List Nat) (rows : List (List Int)) : Prop where
  top : S[m]? = some (.lst (ids.map .obj))
  nd : ids.Nodup
  len : ids.length = rows.length
  own : ∀ i ∈ ids, lo ≤ i ∧ i ≠ m
  row : ∀ (j id : Nat) (r : List Int), ids[j]? = some id → rows[j]? = some r → S[id]? = some (.lst (r.map pyi))
  lo : lo ≤ m
theorem lcL_rowsM {α : Type} {i : Nat} {σ : En} {a : Ax} {ls : List α} {S : Sto} (enc : α → D) (f : α → List Int) (h : ∀ x ∈ ls, ∀ S', a (σ.set i (some (enc x))) S' = .ok ((f x).map pyi) S') :
    lcL (nmG i) yesT (thwE a) σ (ls.map enc) S = .ok ((List.range' S.length (ls.map f).length).map .obj) (S ++ (ls.map f).map fun r => .lst (r.map pyi)) := by
  induction ls generalizing S with
  | nil => simp [lcL]
  | cons x xs ih =>
    have e := h x (List.mem_cons_self ..) S
    rw [List.map_cons]
    unfold lcL
    simp only [nmG, yesT, if_true, thwE, thw, e, bind_ok]
    have ih := ih (S := S ++ [.lst ((f x).map pyi)]) fun y hy => h y (List.mem_cons_of_mem _ hy)
    rw [ih]
    simp [List.range'_succ]
theorem Grid.new {S : Sto} {lo : Nat} {rows : List (List Int)} (hlo : lo ≤ S.length) :
    Grid (S ++ (rows.map fun r => O.lst (r.map pyi)) ++ [.lst ((List.range' S.length rows.length).map .obj)]) lo (S.length + rows.length) (List.range' S.length rows.length) rows := by
  refine ⟨?_, List.nodup_range', by simp, fun i hi => ?_, fun j id r h1 h2 => ?_, by omega⟩
  · rw [List.getElem?_append_right (by simp)]
    simp
  · rw [List.mem_range'_1] at hi
    omega
  · have hj := (List.getElem?_eq_some_iff.mp h2).1
    rw [List.getElem?_range' hj] at h1
    have h1 : S.length + j = id := by simpa using h1
    subst h1
    rw [List.append_assoc, List.getElem?_append_right (by omega), List.getElem?_append_left (by simp; omega)]
    simp [h2]
theorem Grid.ch {S S' : Sto} {n lo m : Nat} {ids : List Nat} {rows : List (List Int)} (h : Grid S lo m ids rows) (c : Ch n S S') (hn : n < lo) : Grid S' lo m ids rows := by
  have hlo := h.lo
  refine ⟨c.at_ h.top (by omega), h.nd, h.len, h.own, fun j id r e1 e2 => c.at_ (h.row j id r e1 e2) ?_, hlo⟩
  have := (h.own id (List.mem_of_getElem? e1)).1
  omega
/-- the list at m, whose rows are objects -/
theorem Grid.get {S : Sto} {lo m a : Nat} {ids : List Nat} {rows : List (List Int)} (h : Grid S lo m ids rows) (ha : a < rows.length) : itemD (.obj m) (.py (.int a)) S = .ok (.obj (ids[a]'(h.len ▸ ha))) S :=
  itemD_obj h.top a (by simp [h.len, ha])
theorem Grid.at_ {S : Sto} {lo m a : Nat} {ids : List Nat} {rows : List (List Int)} (h : Grid S lo m ids rows) (ha : a < rows.length) : S[ids[a]'(h.len ▸ ha)]? = some (.lst (rows[a].map pyi)) :=
  h.row a _ _ (List.getElem?_eq_getElem _) (List.getElem?_eq_getElem ha)
theorem Grid.set {S : Sto} {lo m a : Nat} {ids : List Nat} {rows : List (List Int)} (h : Grid S lo m ids rows) (ha : a < rows.length) (r : List Int) : Grid (S.set (ids[a]'(h.len ▸ ha)) (.lst (r.map pyi))) lo m ids (rows.set a r) := by
  have ha' : a < ids.length := h.len ▸ ha
  have e1 : ids[a]? = some ids[a] := List.getElem?_eq_getElem ha'
  have m1 := h.own _ (List.getElem_mem ha')
  refine ⟨by rw [List.getElem?_set_ne m1.2]; exact h.top, h.nd, by simp [h.len], h.own, fun j id q e2 e3 => ?_, h.lo⟩
  by_cases hj : a = j
  · subst hj
    rw [e1] at e2
    cases e2
    rw [List.getElem?_set_self ha] at e3
    cases e3
    rw [List.getElem?_set_self]
    exact (List.getElem?_eq_some_iff.mp (h.at_ ha)).1
  · rw [List.getElem?_set_ne hj] at e3
    have ne : ids[a] ≠ id := by
      intro e
      exact hj (nodup_get h.nd e1 (e ▸ e2))
    rw [List.getElem?_set_ne ne]
    exact h.row j id q e2 e3
/-- an item of a row is set -/
theorem Grid.put {S : Sto} {lo m a b : Nat} {ids : List Nat} {rows : List (List Int)} {v : Int} {σ : En} (h : Grid S lo m ids rows) (ha : a < rows.length) (hb : b < rows[a].length) :
    ixP (.obj (ids[a]'(h.len ▸ ha))) (.py (.int b)) (.py (.int v)) σ S = .ok σ (S.set (ids[a]'(h.len ▸ ha)) (.lst ((rows[a].set b v).map pyi))) := by
  rw [ixP_obj (h.at_ ha) (by simpa using hb), List.map_set]
theorem fixL_ok : ∀ {ids : List Nat} {rows : List (List Int)} {S : Sto}, ids.Nodup → ids.length = rows.length → (∀ (j id : Nat) (r : List Int), ids[j]? = some id → rows[j]? = some r → S[id]? = some (.lst (r.map pyi))) →
    ∃ S', fixL S (ids.map .obj) = some (rows.map fun r => .list (r.map .int), S') ∧ S'.length = S.length ∧ ∀ i, i ∉ ids → S'[i]? = S[i]?
  | [], [], S, _, _, _ => ⟨S, rfl, rfl, fun _ _ => rfl⟩
  | id :: ids, r :: rows, S, hn, hl, h => by
    have e := h 0 id r rfl rfl
    have hn := List.nodup_cons.mp hn
    obtain ⟨S', e1, e2, e3⟩ := fixL_ok (ids := ids) (rows := rows) (S := S.set id .gone) hn.2 (by simpa using hl) fun j id2 r2 h1 h2 => by
      rw [List.getElem?_set_ne (fun (e : id = id2) => hn.1 (e ▸ List.mem_of_getElem? h1))]
      exact h (j + 1) id2 r2 h1 h2
    refine ⟨S', ?_, by rw [e2]; simp, fun i hi => ?_⟩
    · have pe : pysOf (r.map pyi) = some (r.map PyData.int) := pysOf_fun PyData.int r
      simp only [List.map, fixL, e, pe, e1, Option.map]
    · rw [List.mem_cons, not_or] at hi
      rw [e3 i hi.2, List.getElem?_set_ne (Ne.symm hi.1)]
abbrev encR (rows : List (List Int)) : PyData := .list (rows.map fun r => .list (r.map .int))
@[simp] theorem seqD_encR (R : List (List Int)) : seqD (.py (encR R)) = some (R.map fun r => .list (r.map .int)) := id rfl
@[simp] theorem walk_encR (R : List (List Int)) (S : Sto) : pyWalk S (.py (encR R)) = some (R.map fun r => .list (r.map .int)) := id rfl
theorem Grid.fix {S : Sto} {lo m i : Nat} {ids : List Nat} {rows : List (List Int)} {σ : En} {N : K} (h : Grid S lo m ids rows) (hi : σ[i]? = some (some (.obj m))) (q : ∀ S', S'.length = S.length → (∀ j, j < lo → S'[j]? = S[j]?) → N.nx (σ.set i (some (.py (encR rows)))) S') : (fix2S i σ S).wp N := by
  have hlo := h.lo
  obtain ⟨S', e1, e2, e3⟩ := fixL_ok (S := S.set m .gone) h.nd h.len fun j id r a b => by
    rw [List.getElem?_set_ne (Ne.symm (h.own id (List.mem_of_getElem? a)).2)]
    exact h.row j id r a b
  unfold fix2S
  simp only [hi, h.top, e1]
  refine q S' (by rw [e2]; simp) fun j hj => ?_
  rw [e3 j (fun z => by have := (h.own j z).1; omega), List.getElem?_set_ne (by omega)]
structure Rows (rows : List (List Int)) (many : Nat) : Prop where
  len : rows.length = many
  row : ∀ r ∈ rows, r.length = many
  bnd : ∀ r ∈ rows, ∀ x ∈ r, -9 ≤ x ∧ x ≤ 9
theorem Rows.set {rows : List (List Int)} {many a b : Nat} {v : Int} (h : Rows rows many) (ha : a < rows.length) (h1 : -9 ≤ v) (h2 : v ≤ 9) : Rows (rows.set a (rows[a].set b v)) many := by
  have hm : rows[a] ∈ rows := List.getElem_mem ha
  refine ⟨by rw [List.length_set]; exact h.len, fun r hr => ?_, fun r hr x hx => ?_⟩
  · rcases List.mem_or_eq_of_mem_set hr with q | rfl
    · exact h.row r q
    · rw [List.length_set]
      exact h.row _ hm
  · rcases List.mem_or_eq_of_mem_set hr with q | rfl
    · exact h.bnd r q x hx
    · rcases List.mem_or_eq_of_mem_set hx with q | rfl
      · exact h.bnd _ hm x q
      · exact ⟨h1, h2⟩
/-- what lies below is as it was -/
theorem Ch.low {n : Nat} {S T T' : Sto} (c : Ch n S T) (hn : n < S.length) (hl : T'.length = T.length) (h : ∀ j, j < S.length → T'[j]? = T[j]?) : Ch n S T' :=
  ⟨by rw [hl]; exact c.le, fun i hi ne => (h i hi).trans (c.same i hi ne), by
    obtain ⟨a, b, e⟩ := c.box
    exact ⟨a, b, (h n hn).trans e⟩⟩
end DV

set_option maxHeartbeats 4000000
namespace DV
open PySem
end DV

set_option maxHeartbeats 4000000
namespace DV
open PySem
/-! Lists of gaps, known letters. -/
section
variable {α : Type} {g : Tg} {b : Sx} {σ : En} {S : Sto} {N : K}
theorem wp_forM (f : α → D) {ls : List α} (I : List α → En → Sto → Prop) (h0 : I [] σ S)
    (hs : ∀ pre x post σ S, ls = pre ++ x :: post → I pre σ S → (g (f x) σ S).wp (fun σ1 S1 => (b σ1 S1).wp { N with nx := fun σ2 S2 => I (pre ++ [x]) σ2 S2, ct := fun σ2 S2 => I (pre ++ [x]) σ2 S2, bk := fun σ2 S2 => N.nx σ2 S2 }) N.ex)
    (he : ∀ σ S, I ls σ S → N.nx σ S) : (forL g b (ls.map f) σ S).wp N := by
  refine wp_forL (fun pre σ S => ∃ p : List α, pre = p.map f ∧ p.length ≤ ls.length ∧ p = ls.take p.length ∧ I p σ S) ⟨[], rfl, Nat.zero_le _, by simp, h0⟩ ?_ ?_
  · rintro pre x post σ S e ⟨p, rfl, hl, ht, hI⟩
    obtain ⟨l1, l2, e1, e2, e3⟩ := List.map_eq_append_iff.mp e
    obtain ⟨y, l3, e4, e5, e6⟩ := List.map_eq_cons_iff.mp e3
    have lp : l1.length = p.length := by have := congrArg List.length e2; simpa using this
    have ep : p = l1 := by rw [ht, e1, ← lp, List.take_left]
    subst ep
    subst e5
    have e9 : ls = (p ++ [y]) ++ l3 := by rw [e1, e4]; simp
    refine (hs p y l3 σ S (by rw [e1, e4]) hI).mono (fun σ1 S1 h => h.mono (fun σ2 S2 h => ?_) (fun _ _ h => h) (fun _ _ h => h) (fun σ2 S2 h => ?_) fun _ _ h => h) fun _ _ h => h
    · exact ⟨p ++ [y], by simp, by rw [e9]; simp, by rw [e9, List.take_left], h⟩
    · exact ⟨p ++ [y], by simp, by rw [e9]; simp, by rw [e9, List.take_left], h⟩
  · rintro σ S ⟨p, e, hl, ht, hI⟩
    have lp : p.length = ls.length := by have := congrArg List.length e; simpa using this.symm
    rw [lp, List.take_length] at ht
    exact he σ S (ht ▸ hI)
theorem wp_pureM {c : Tx} {e : Ex} {P : List D → Sto → Prop} {E : Str → Sto → Prop} {ls : List α} (f : α → D) (p : α → Bool) (h : α → D)
    (hs : ∀ x ∈ ls, (g (f x) σ S).wp (fun σ1 S1 => (c σ1 S1).wp (fun k S2 => k = p x ∧ S2 = S ∧ (k = true → (e σ1 S).wp (fun d S3 => d = h x ∧ S3 = S) noE)) noE) noE) (q : P ((ls.filter p).map h) S) : (lcL g c e σ (ls.map f) S).wp P E := by
  refine wp_of ?_ q
  clear q
  induction ls with
  | nil => rfl
  | cons x xs ih =>
    obtain ⟨σ1, S1, h1, hs1⟩ := (hs x (List.mem_cons_self ..)).out
    obtain ⟨k, S2, h2, rfl, rfl, hs2⟩ := hs1.out
    have ih := ih fun y hy => hs y (List.mem_cons_of_mem _ hy)
    rw [List.map_cons]
    unfold lcL
    rw [h1]
    simp only [h2]
    cases hp : p x with
    | false => simp [ih, hp]
    | true =>
      obtain ⟨d, S3, h3, rfl, rfl⟩ := (hs2 hp).out
      simp [h3, ih, hp]
/-- one name, no test -/
theorem wp_pureM1 {i : Nat} {e : Ex} {P : List D → Sto → Prop} {E : Str → Sto → Prop} {ls : List α} (f : α → D) (h : α → D)
    (hs : ∀ x ∈ ls, e (σ.set i (some (f x))) S = .ok (h x) S) (q : P (ls.map h) S) : (lcL (nmG i) yesT e σ (ls.map f) S).wp P E :=
  wp_pureM f (fun _ => true) h (fun x hx => ⟨rfl, rfl, fun _ => wp_of (hs x hx) ⟨rfl, rfl⟩⟩) (by rw [List.filter_eq_self.mpr fun _ _ => rfl]; exact q)
end
abbrev Pair := Nat × Nat × Int
abbrev encT (p : Pair) : PyData := .tuple [lt p.1, lt p.2.1, .int p.2.2]
abbrev encP (ps : List Pair) : PyData := .tuple (ps.map encT)
@[simp] theorem seqD_encP (ps : List Pair) : seqD (.py (encP ps)) = some (ps.map encT) := id rfl
@[simp] theorem walk_encP (ps : List Pair) (S : Sto) : pyWalk S (.py (encP ps)) = some (ps.map encT) := id rfl
def Face.lets (f : Face) : List Nat := f.ls.map (·.1)
@[simp] theorem lets_length (f : Face) : f.lets.length = f.ls.length := by simp [Face.lets]
theorem letters_of_eq (f : Face) (S : Sto) : F_letters_of [.py f.py] S = .ok (.py (.tuple (f.lets.map lt))) S := by
  unfold F_letters_of b_letters_of
  refine fn_eq (wp_fn ?_)
  simp [init]
  refine wp_pureM1 (D.py ∘ encL) (fun p => .py (lt p.1)) (fun x _ => wp_eq (by simp)) ?_
  simp
  exact ⟨S, .self, rfl, by simp [Face.lets], rfl⟩
theorem law_letters_eq (f : Face) (S : Sto) : F_law_letters [.py f.py] S = .ok (.py (.list (f.lets.map lt))) S := by
  unfold F_law_letters b_law_letters
  refine fn_eq (wp_fn ?_)
  simp [init]
  refine wp_pureM1 (D.py ∘ encL) (fun p => .py (lt p.1)) (fun x _ => wp_eq (by simp)) ?_
  simp
  exact ⟨S, .self, rfl, by simp [Face.lets], rfl⟩
def gapIn (ps : List Pair) (l r : Nat) : Int := match ps.find? (fun p => p.1 = l ∧ p.2.1 = r) with
  | some p => p.2.2
  | none => 0
theorem slot2 {σ l : En} {i j : Nat} (h : (σ.set j none).set i none = l) : ∃ x y, σ = (l.set i x).set j y := by
  obtain ⟨x, h⟩ := slot_any h
  obtain ⟨y, h⟩ := slot_any h
  exact ⟨x, y, h⟩
theorem slot3 {σ l : En} {i j k : Nat} (h : ((σ.set k none).set j none).set i none = l) : ∃ x y z, σ = ((l.set i x).set j y).set k z := by
  obtain ⟨x, h⟩ := slot_any h
  obtain ⟨y, z, h⟩ := slot2 h
  exact ⟨x, y, z, h⟩
theorem slot4 {σ l : En} {i j k m : Nat} (h : (((σ.set m none).set k none).set j none).set i none = l) : ∃ x y z w, σ = (((l.set i x).set j y).set k z).set m w := by
  obtain ⟨x, h⟩ := slot_any h
  obtain ⟨y, z, w, h⟩ := slot3 h
  exact ⟨x, y, z, w, h⟩
theorem slot5 {σ l : En} {i j k m p : Nat} (h : ((((σ.set p none).set m none).set k none).set j none).set i none = l) : ∃ x y z w v, σ = ((((l.set i x).set j y).set k z).set m w).set p v := by
  obtain ⟨x, h⟩ := slot_any h
  obtain ⟨y, z, w, v, h⟩ := slot4 h
  exact ⟨x, y, z, w, v, h⟩
theorem slot6 {σ l : En} {i j k m p q : Nat} (h : (((((σ.set q none).set p none).set m none).set k none).set j none).set i none = l) : ∃ x y z w v u, σ = (((((l.set i x).set j y).set k z).set m w).set p v).set q u := by
  obtain ⟨x, h⟩ := slot_any h
  obtain ⟨y, z, w, v, u, h⟩ := slot5 h
  exact ⟨x, y, z, w, v, u, h⟩
def NoHit (l r : Nat) (ps : List Pair) : Prop := ∀ p ∈ ps, ¬ (p.1 = l ∧ p.2.1 = r)
theorem gapIn_hit {pre post : List Pair} {l r : Nat} {x : Pair} (h : NoHit l r pre) (h1 : x.1 = l) (h2 : x.2.1 = r) : gapIn (pre ++ x :: post) l r = x.2.2 := by
  unfold gapIn
  have e : (pre ++ x :: post).find? (fun p => decide (p.1 = l ∧ p.2.1 = r)) = some x := by
    rw [List.find?_append, List.find?_eq_none.mpr (fun p hp => by simpa using h p hp)]
    simp [h1, h2]
  rw [e]
theorem gapIn_none {ps : List Pair} {l r : Nat} (h : NoHit l r ps) : gapIn ps l r = 0 := by
  unfold gapIn
  rw [List.find?_eq_none.mpr (fun p hp => by simpa using h p hp)]
theorem NoHit.snoc {pre : List Pair} {l r : Nat} {x : Pair} (h : NoHit l r pre) (hx : ¬ (x.1 = l ∧ x.2.1 = r)) : NoHit l r (pre ++ [x]) := fun p hp => by
  rw [List.mem_append, List.mem_singleton] at hp
  rcases hp with hp | rfl
  · exact h p hp
  · exact hx
theorem gap_in_eq (ps : List Pair) (l r : Nat) (S : Sto) : F_gap_in [.py (encP ps), .py (lt l), .py (lt r)] S = .ok (.py (.int (gapIn ps l r))) S := by
  unfold F_gap_in b_gap_in
  refine fn_eq (wp_fn ?_)
  simp [init]
  refine wp_forM (D.py ∘ encT) (fun pre σ T => T = S ∧ ((σ.set 3 none).set 4 none).set 5 none = _ ∧ NoHit l r pre) ⟨rfl, rfl, fun p hp => by cases hp⟩ ?_ ?_
  · rintro pre x post σ T e ⟨rfl, hσ, hp⟩
    obtain ⟨_, _, _, rfl⟩ := slot3 hσ
    clear hσ
    simp
    by_cases h1 : x.1 = l
    · by_cases h2 : x.2.1 = r
      · exact .inr ⟨h1, .inr ⟨h2, T, .self, rfl, by rw [e, gapIn_hit hp h1 h2], rfl⟩⟩
      · exact .inr ⟨h1, .inl ⟨h2, hp.snoc fun h => h2 h.2⟩⟩
    · exact .inl ⟨h1, hp.snoc fun h => h1 h.1⟩
  · rintro σ T ⟨rfl, hσ, hp⟩
    simp
    exact ⟨T, .self, rfl, (gapIn_none hp).symm, rfl⟩
/-! ### the list of rows -/
def rowA (l : Nat) (ps : List (Nat × Int)) : List Pair := (ps.filter fun p => p.2 ≠ 0).map fun p => (l, p.1, p.2)
theorem rowA_no {l : Nat} {ps : List (Nat × Int)} {y : Nat × Int} (h : y.2 = 0) : rowA l (ps ++ [y]) = rowA l ps := by simp [rowA, h]
theorem rowA_yes {l : Nat} {ps : List (Nat × Int)} {y : Nat × Int} (h : y.2 ≠ 0) : rowA l (ps ++ [y]) = rowA l ps ++ [(l, y.1, y.2)] := by simp [rowA, h]
theorem rowA_len (l : Nat) (ps : List (Nat × Int)) : (rowA l ps).length ≤ ps.length := by
  unfold rowA
  rw [List.length_map]
  exact List.length_filter_le _ _
def rowP (l : Nat) (L : List Nat) (row : List Int) : List Pair := rowA l (L.zip row)
def mlist (L : List Nat) (rows : List (List Int)) : List Pair := (L.zip rows).flatMap fun p => rowP p.1 L p.2
theorem rowP_len (l : Nat) (L : List Nat) (row : List Int) : (rowP l L row).length ≤ L.length := by
  refine Nat.le_trans (rowA_len _ _) ?_
  rw [List.length_zip]
  exact Nat.min_le_left _ _
theorem flat_len {α β : Type} (f : α → List β) (n : Nat) : ∀ (xs : List α), (∀ x ∈ xs, (f x).length ≤ n) → (xs.flatMap f).length ≤ xs.length * n
  | [], _ => by simp
  | x :: xs, h => by
    have h1 := h x (List.mem_cons_self ..)
    have h2 := flat_len f n xs fun y hy => h y (List.mem_cons_of_mem _ hy)
    rw [List.flatMap_cons, List.length_append, List.length_cons, Nat.add_mul]
    omega
def flatP (L : List Nat) (xs : List (Nat × List Int)) : List Pair := xs.flatMap fun p => rowP p.1 L p.2
theorem flatP_len {L : List Nat} {pre post : List (Nat × List Int)} {x : Nat × List Int} {rows : List (List Int)} (e : L.zip rows = pre ++ x :: post) (hL : L.length ≤ 200) : (flatP L pre).length + L.length ≤ 40000 := by
  have h1 := flat_len (fun p : Nat × List Int => rowP p.1 L p.2) L.length pre fun p _ => rowP_len _ _ _
  have h2 : pre.length < L.length := by
    have := congrArg List.length e
    rw [List.length_zip, List.length_append, List.length_cons] at this
    omega
  have h3 : pre.length * L.length ≤ pre.length * 200 := Nat.mul_le_mul_left _ hL
  unfold flatP
  omega
theorem flatP_snoc (L : List Nat) (pre : List (Nat × List Int)) (x : Nat × List Int) : flatP L (pre ++ [x]) = flatP L pre ++ rowP x.1 L x.2 := by simp [flatP]
theorem from_rows_eq (f : Face) (rows : List (List Int)) (S : Sto) (h1 : f.ls.length ≤ 200) : F_from_rows [.py f.py, .py (encR rows)] S = .ok (.py (encP (mlist f.lets rows))) S := by
  unfold F_from_rows b_from_rows
  refine fn_eq (wp_fn ?_)
  have hL : f.lets.length ≤ 200 := by simpa [Face.lets] using h1
  simp [init, letters_of_eq]
  rw [stL_nil]
  refine wp_forM _ (fun pre σ T => wipeD σ [4, 5] = _ ∧ T = stL S ((flatP f.lets pre).map encT)) ⟨rfl, rfl⟩ ?_ ?_
  · rintro pre x post σ T e ⟨hσ, rfl⟩
    obtain ⟨_, _, rfl⟩ := slot2 hσ
    clear hσ
    have hlen := flatP_len e hL
    simp
    refine wp_pureM _ (fun p : Nat × Int => !decide (p.2 = 0)) (fun p => D.py (encT (x.1, p.1, p.2))) (fun y hy => by simp; exact Decidable.em _) ?_
    simp
    have l2 := rowP_len x.1 f.lets x.2
    refine ⟨?_, ?_⟩
    · unfold rowP rowA at l2
      simp at l2
      rw [show sizeLine = 16777216 from rfl]
      omega
    · have e3 : List.map (D.py ∘ encT) (flatP f.lets pre) ++ List.map (fun p => D.py (encT (x.1, p.1, p.2))) (List.filter (fun p => !decide (p.2 = 0)) (f.lets.zip x.2)) = ((flatP f.lets (pre ++ [x])).map encT).map .py := by
        rw [flatP_snoc]
        simp [rowP, rowA]
      rw [e3, stL_set]
  · rintro σ T ⟨hσ, rfl⟩
    obtain ⟨_, _, rfl⟩ := slot2 hσ
    clear hσ
    simp
    exact ⟨S, .stL, rfl, rfl, rfl⟩
end DV

set_option maxHeartbeats 4000000
namespace DV
open PySem
/-! Data that may be shown and compared. -/
structure Fit (d : PyData) (k w : Nat) : Prop where
  sh : d.showable = true
  hd : d.hasDict = false
  dp : d.depth ≤ k
  ls : PyData.leavesShort 13 d = true
  bk : d.bulk ≤ w
  ly : d.canLay0 = true
structure FitL (ds : List PyData) (k w : Nat) : Prop where
  sh : PyData.showableAll ds = true
  hd : PyData.hasDictAll ds = false
  dp : PyData.depthAll ds ≤ k
  ls : PyData.leavesShortAll 13 ds = true
  bk : PyData.bulkAll ds ≤ w
  ly : PyData.canLayAll0 ds = true
theorem Fit.int {i : Int} (h1 : -999999999999 ≤ i) (h2 : i ≤ 999999999999) : Fit (.int i) 0 0 := by
  refine ⟨?_, PyData.hasDict.eq_3 i, by rw [PyData.depth.eq_6]; exact Nat.le_refl _, ?_, by rw [PyData.bulk.eq_7]; exact Nat.le_refl _, PyData.canLay0.eq_3 i⟩
  · rw [PyData.showable.eq_4, decide_eq_true_eq]
    by_cases h : i.natAbs = 0
    · rw [h]
      decide
    · rw [Nat.log2_lt h]
      exact Nat.lt_of_lt_of_le (show i.natAbs < 2 ^ 40 by omega) (Nat.pow_le_pow_right (by decide) (by decide))
  · rw [PyData.leavesShort.eq_3, decide_eq_true_eq]
    exact PyData.shown_int_le2 h1 h2
theorem Fit.bool (b : Bool) : Fit (.bool b) 0 0 :=
  ⟨PyData.showable.eq_2 b, PyData.hasDict.eq_2 b, by rw [PyData.depth.eq_5]; exact Nat.le_refl _, PyData.leavesShort.eq_2 13 b, by rw [PyData.bulk.eq_6]; exact Nat.le_refl _, PyData.canLay0.eq_2 b⟩
theorem Fit.none : Fit .none 0 0 :=
  ⟨PyData.showable.eq_1, PyData.hasDict.eq_1, by rw [PyData.depth.eq_4]; exact Nat.le_refl _, PyData.leavesShort.eq_1 13, by rw [PyData.bulk.eq_5]; exact Nat.le_refl _, PyData.canLay0.eq_1⟩
theorem Fit.str {x : Str} {n : Nat} (h : ∀ c ∈ x.cps.toList, c < 1114112) (hn : x.cps.size ≤ n) : Fit (.str x) 0 n := by
  refine ⟨PyData.showable.eq_3 x, PyData.hasDict.eq_4 x, ?_, ?_, by rw [PyData.bulk.eq_1]; exact hn, ?_⟩
  · rw [PyData.depth.eq_7]
    exact Nat.le_refl _
  · rw [PyData.leavesShort.eq_4, List.all_eq_true]
    intro c hc
    have := h c hc
    exact decide_eq_true (by omega)
  · rw [PyData.canLay0.eq_4]
    unfold PyData.strOk
    rw [← Array.all_toList, List.all_eq_true]
    intro c hc
    exact decide_eq_true (h c hc)
theorem Fit.lt {c : Nat} (h : c < 1114112) : Fit (DV.lt c) 0 1 := Fit.str (by simpa using h) (by simp)
theorem FitL.nil {k w : Nat} : FitL [] k w := ⟨PyData.showableAll.eq_1, PyData.hasDictAll.eq_1, by rw [PyData.depthAll.eq_1]; exact Nat.zero_le _, PyData.leavesShortAll.eq_1 13, by rw [PyData.bulkAll.eq_1]; exact Nat.zero_le _, PyData.canLayAll0.eq_1⟩
theorem FitL.cons {d : PyData} {ds : List PyData} {k w w' : Nat} (h : Fit d k w) (hs : FitL ds k w') : FitL (d :: ds) k (w + 1 + w') := by
  refine ⟨?_, ?_, ?_, ?_, ?_, ?_⟩
  · rw [PyData.showableAll.eq_2, h.sh, hs.sh]
    rfl
  · rw [PyData.hasDictAll.eq_2, h.hd, hs.hd]
    rfl
  · rw [PyData.depthAll.eq_2]
    exact Nat.max_le.mpr ⟨h.dp, hs.dp⟩
  · rw [PyData.leavesShortAll.eq_2, h.ls, hs.ls]
    rfl
  · rw [PyData.bulkAll.eq_2]
    have := h.bk
    have := hs.bk
    omega
  · rw [PyData.canLayAll0.eq_2, h.ly, hs.ly]
    rfl
theorem Fit.mono {d : PyData} {k k' w w' : Nat} (h : Fit d k w) (hk : k ≤ k') (hw : w ≤ w') : Fit d k' w' := ⟨h.sh, h.hd, Nat.le_trans h.dp hk, h.ls, Nat.le_trans h.bk hw, h.ly⟩
theorem FitL.mono {d : List PyData} {k k' w w' : Nat} (h : FitL d k w) (hk : k ≤ k') (hw : w ≤ w') : FitL d k' w' := ⟨h.sh, h.hd, Nat.le_trans h.dp hk, h.ls, Nat.le_trans h.bk hw, h.ly⟩
theorem FitL.all {k w : Nat} : ∀ {ds : List PyData}, (∀ d ∈ ds, Fit d k w) → FitL ds k (ds.length * (w + 1))
  | [], _ => .nil
  | d :: ds, h => by
    have := FitL.cons (h d (List.mem_cons_self ..)) (FitL.all fun e he => h e (List.mem_cons_of_mem _ he))
    refine this.mono (Nat.le_refl _) ?_
    rw [List.length_cons, Nat.add_mul]
    omega
theorem Fit.list {ds : List PyData} {k w : Nat} (h : FitL ds k w) : Fit (.list ds) (k + 1) w := by
  refine ⟨by rw [PyData.showable.eq_5]; exact h.sh, by rw [PyData.hasDict.eq_5]; exact h.hd, by rw [PyData.depth.eq_1]; exact Nat.succ_le_succ h.dp, by rw [PyData.leavesShort.eq_5]; exact h.ls, by rw [PyData.bulk.eq_2]; exact h.bk, by rw [PyData.canLay0.eq_5]; exact h.ly⟩
theorem Fit.tuple {ds : List PyData} {k w : Nat} (h : FitL ds k w) : Fit (.tuple ds) (k + 1) w := by
  refine ⟨by rw [PyData.showable.eq_6]; exact h.sh, by rw [PyData.hasDict.eq_6]; exact h.hd, by rw [PyData.depth.eq_2]; exact Nat.succ_le_succ h.dp, by rw [PyData.leavesShort.eq_6]; exact h.ls, by rw [PyData.bulk.eq_3]; exact h.bk, by rw [PyData.canLay0.eq_6]; exact h.ly⟩
theorem Fit.listN {ds : List PyData} {k w m : Nat} (h : ∀ d ∈ ds, Fit d k w) (hm : ds.length ≤ m) : Fit (.list ds) (k + 1) (m * (w + 1)) := (Fit.list (FitL.all h)).mono (Nat.le_refl _) (Nat.mul_le_mul_right _ hm)
theorem Fit.tupleN {ds : List PyData} {k w m : Nat} (h : ∀ d ∈ ds, Fit d k w) (hm : ds.length ≤ m) : Fit (.tuple ds) (k + 1) (m * (w + 1)) := (Fit.tuple (FitL.all h)).mono (Nat.le_refl _) (Nat.mul_le_mul_right _ hm)
theorem Fit.shaped {d : PyData} {k w : Nat} (h : Fit d k w) (hk : k ≤ 64) : SeqAt.shaped d = true := by
  unfold SeqAt.shaped
  rw [h.ly, Bool.true_and, decide_eq_true_eq]
  exact Nat.le_trans h.dp hk
theorem Fit.repr {d : PyData} {k w : Nat} (h : Fit d k w) (hk : k ≤ 60) (hw : w ≤ 2 ^ 20) (S : Sto) : reprD [.py d] S = .ok (.py (.str d.shown)) S := by
  have e : deep S 8 (.py d) = some d := rfl
  unfold reprD
  simp only [e]
  rw [if_pos ⟨h.sh, h.hd, Nat.le_trans h.dp hk, PyData.shown_fits_bulk (by decide) (by decide) h.ls (Nat.le_trans h.bk hw)⟩]
/-- letters, pairs, rows -/
theorem fit_encT {p : Pair} (h1 : p.1 < 1114112) (h2 : p.2.1 < 1114112) (h3 : -999999999999 ≤ p.2.2) (h4 : p.2.2 ≤ 999999999999) : Fit (encT p) 1 5 :=
  (Fit.tuple (.cons (Fit.lt h1) (.cons (Fit.lt h2) (.cons (Fit.int h3 h4) (FitL.nil (w := 0)))))).mono (by decide) (by decide)
end DV

set_option maxHeartbeats 4000000
namespace DV
open PySem
/-! All pairs, gaps told by their list. -/
theorem zip_at {α β : Type} {xs : List α} {ys : List β} {i : Nat} {x : α} {y : β} (h1 : xs[i]? = some x) (h2 : ys[i]? = some y) : (xs.zip ys)[i]? = some (x, y) := by
  rw [List.getElem?_zip_eq_some]
  exact ⟨h1, h2⟩
theorem mem_zip_at {α β : Type} {xs : List α} {ys : List β} {p : α × β} (h : p ∈ xs.zip ys) : ∃ i : Nat, xs[i]? = some p.1 ∧ ys[i]? = some p.2 := by
  obtain ⟨i, hi⟩ := List.getElem?_of_mem h
  exact ⟨i, List.getElem?_zip_eq_some.mp hi⟩
theorem gapIn_of {ps : List Pair} {l r : Nat} {g : Int} (h : ∀ p ∈ ps, p.1 = l → p.2.1 = r → p.2.2 = g) (h0 : g ≠ 0 → ∃ p ∈ ps, p.1 = l ∧ p.2.1 = r) : gapIn ps l r = g := by
  unfold gapIn
  cases e : ps.find? (fun p => decide (p.1 = l ∧ p.2.1 = r)) with
  | some p =>
    have h1 := List.find?_some e
    have h2 := List.mem_of_find?_eq_some e
    simp at h1
    exact h p h2 h1.1 h1.2
  | none =>
    rw [List.find?_eq_none] at e
    by_cases hg : g = 0
    · exact hg.symm
    · obtain ⟨p, hp, h1, h2⟩ := h0 hg
      exact (e p hp (by simp [h1, h2])).elim
theorem mem_mlist {L : List Nat} {rows : List (List Int)} {p : Pair} (h : p ∈ mlist L rows) : ∃ (i j : Nat) (row : List Int), L[i]? = some p.1 ∧ rows[i]? = some row ∧ L[j]? = some p.2.1 ∧ row[j]? = some p.2.2 ∧ p.2.2 ≠ 0 := by
  unfold mlist rowP rowA at h
  rw [List.mem_flatMap] at h
  obtain ⟨x, hx, hp⟩ := h
  rw [List.mem_map] at hp
  obtain ⟨y, hy, rfl⟩ := hp
  rw [List.mem_filter] at hy
  obtain ⟨i, h1, h2⟩ := mem_zip_at hx
  obtain ⟨j, h3, h4⟩ := mem_zip_at hy.1
  exact ⟨i, j, x.2, h1, h2, h3, h4, by simpa using hy.2⟩
theorem mlist_has {L : List Nat} {rows : List (List Int)} {i j l r : Nat} {row : List Int} {g : Int} (h1 : L[i]? = some l) (h2 : rows[i]? = some row) (h3 : L[j]? = some r) (h4 : row[j]? = some g) (hg : g ≠ 0) : (l, r, g) ∈ mlist L rows := by
  unfold mlist rowP rowA
  rw [List.mem_flatMap]
  refine ⟨(l, row), List.mem_of_getElem? (zip_at h1 h2), ?_⟩
  rw [List.mem_map]
  refine ⟨(r, g), ?_, rfl⟩
  rw [List.mem_filter]
  exact ⟨List.mem_of_getElem? (zip_at h3 h4), by simpa using hg⟩
theorem gap_mlist {L : List Nat} {rows : List (List Int)} {i j l r : Nat} {row : List Int} {g : Int} (hn : L.Nodup) (h1 : L[i]? = some l) (h2 : rows[i]? = some row) (h3 : L[j]? = some r) (h4 : row[j]? = some g) : gapIn (mlist L rows) l r = g := by
  refine gapIn_of (fun p hp e1 e2 => ?_) fun hg => ⟨(l, r, g), mlist_has h1 h2 h3 h4 hg, rfl, rfl⟩
  obtain ⟨i', j', row', k1, k2, k3, k4, _⟩ := mem_mlist hp
  rw [e1] at k1
  rw [e2] at k3
  have := nodup_get hn h1 k1
  subst this
  have := nodup_get hn h3 k3
  subst this
  rw [h2] at k2
  cases k2
  rw [h4] at k4
  exact (Option.some.inj k4).symm
/-! the data of lists -/
theorem Face.Good.mem {f : Face} {lo hi : Int} (h : f.Good lo hi) {c : Nat} (hc : c ∈ f.lets) : 97 ≤ c ∧ c ≤ 122 := by
  obtain ⟨p, hp, rfl⟩ := List.mem_map.mp hc
  exact ⟨(h.ok p hp).1, (h.ok p hp).2.1⟩
/-! ### all pairs -/
abbrev encLL (p : Nat × Nat) : PyData := .tuple [lt p.1, lt p.2]
def allP (L M : List Nat) : List (Nat × Nat) := L.flatMap fun l => M.map fun r => (l, r)
theorem all_pairs_eq (f : Face) (S : Sto) (h1 : f.ls.length ≤ 200) : F_all_pairs [.py f.py] S = .ok (.py (.list ((allP f.lets f.lets).map encLL))) S := by
  unfold F_all_pairs b_all_pairs
  refine fn_eq (wp_fn ?_)
  have hL : f.lets.length ≤ 200 := by simpa [Face.lets] using h1
  simp [init, letters_of_eq]
  rw [stL_nil]
  refine wp_forM (D.py ∘ lt) (fun pre σ T => wipeD σ [2] = _ ∧ T = stL S ((allP pre f.lets).map encLL)) ⟨rfl, rfl⟩ ?_ ?_
  · rintro pre x post σ T e ⟨hσ, rfl⟩
    obtain ⟨_, rfl⟩ := slot_any hσ
    clear hσ
    simp [letters_of_eq]
    refine wp_pureM1 (D.py ∘ lt) (fun r => D.py (encLL (x, r))) (fun y _ => wp_eq (by simp)) ?_
    have hlen := flat_len (fun l => f.lets.map fun r => (l, r)) 200 pre fun _ _ => by simpa using hL
    have hp : pre.length ≤ 200 := by
      have := congrArg List.length e
      rw [List.length_append, List.length_cons] at this
      omega
    simp
    refine ⟨?_, ?_⟩
    · rw [show sizeLine = 16777216 from rfl]
      unfold allP
      omega
    · have e3 : List.map (D.py ∘ encLL) (allP pre f.lets) ++ List.map (fun r => D.py (encLL (x, r))) f.lets = ((allP (pre ++ [x]) f.lets).map encLL).map .py := by
        simp [allP]
      rw [e3, stL_set]
  · rintro σ T ⟨hσ, rfl⟩
    obtain ⟨_, rfl⟩ := slot_any hσ
    clear hσ
    simp
    refine stL_fix rfl ?_
    simp
    exact ⟨.app, rfl⟩
/-! ### what has changed, row by row -/
theorem map_fst_zip {α β : Type} : ∀ {xs : List α} {ys : List β}, xs.length ≤ ys.length → (xs.zip ys).map Prod.fst = xs
  | [], _, _ => by simp
  | _ :: _, [], h => by simp at h
  | x :: xs, y :: ys, h => by
    have := map_fst_zip (xs := xs) (ys := ys) (by simpa using h)
    simp [this]
/-- rows turned about -/
def turnR (n : Nat) (R : List (List Int)) : List (List Int) := (List.range n).map fun j => R.map fun row => row.getD j 0
theorem Rows.turn {R : List (List Int)} {n : Nat} (h : Rows R n) : Rows (turnR n R) n := by
  refine ⟨by simp [turnR], fun r hr => ?_, fun r hr x hx => ?_⟩
  · obtain ⟨j, _, rfl⟩ := List.mem_map.mp hr
    simpa using h.len
  · obtain ⟨j, hj, rfl⟩ := List.mem_map.mp hr
    obtain ⟨row, hrow, rfl⟩ := List.mem_map.mp hx
    have hl := h.row _ hrow
    rw [List.mem_range] at hj
    have : j < row.length := by omega
    simp [this]
    exact h.bnd _ hrow _ (List.getElem_mem this)
end DV

set_option maxHeartbeats 4000000
namespace DV
open PySem
/-! The law's own loop over its script. -/
def Keep0 (sc : D) (n : Nat) (σ : En) : Prop := ∃ ys : En, σ = some sc :: ys ∧ ys.length = n
theorem Keep0.mk {sc : D} {n : Nat} {ys : En} (h : ys.length = n) : Keep0 sc n (some sc :: ys) := ⟨ys, rfl, h⟩
theorem explode {α : Type} {n : Nat} {r : List α} (h : r.length = n + 1) : ∃ y r', r = y :: r' ∧ r'.length = n := by
  cases r with
  | nil => cases h
  | cons y r' => exact ⟨y, r', rfl, by simpa using h⟩
theorem nil_of {α : Type} {r : List α} (h : r.length = 0) : r = [] := List.eq_nil_of_length_eq_zero h
theorem law_all {n : Nat} {c : Int} {b : Sx} {ns : List Int} (hc : 1 ≤ c) (hc2 : c ≤ 60)
    (hb : ∀ (k : Nat) (ys : En) (S : Sto) (m : Nat), BoxAt S m → ys.length = n → k < 64 → (b (some (.py (.list (ns.map .int))) :: some (.py (.int k)) :: some (.obj m) :: ys) S).wp { nx := fun σ _ => Keep0 (.py (.list (ns.map .int))) (n + 2) σ, ct := fun σ _ => Keep0 (.py (.list (ns.map .int))) (n + 2) σ }) :
    ∃ S', fnF (n + 3) (seqS (forS (rng1I (callE max2D (consA (cE (.int 1)) (consA (callE min2D (consA (callE lenD (consA (varE 0) nilA)) (consA (cE (.int c)) nilA))) nilA)))) (nmG 1)
      (seqS (asgS (callE F_law_box (consA (varE 0) (consA (varE 1) nilA))) (nmG 2)) b)) (retS (cE (.bool true)))) [.py (.list (ns.map .int))] [] = .ok (.py (.bool true)) S' := by
  have key : (fnF (n + 3) (seqS (forS (rng1I (callE max2D (consA (cE (.int 1)) (consA (callE min2D (consA (callE lenD (consA (varE 0) nilA)) (consA (cE (.int c)) nilA))) nilA)))) (nmG 1)
      (seqS (asgS (callE F_law_box (consA (varE 0) (consA (varE 1) nilA))) (nmG 2)) b)) (retS (cE (.bool true)))) [.py (.list (ns.map .int))] []).wp (fun d _ => d = .py (.bool true)) noE := by
    refine wp_fn ?_
    have hi : init (n + 3) [.py (.list (ns.map .int))] = some (.py (.list (ns.map .int))) :: List.replicate (n + 2) none := rfl
    rw [hi]
    simp
    refine ⟨by split <;> split <;> omega, ?_⟩
    refine wp_forL (fun pre σ _ => Keep0 (.py (.list (ns.map .int))) (n + 2) σ) (.mk (by simp)) ?_ ?_
    · rintro pre x post σ S e ⟨ys, rfl, hy⟩
      obtain ⟨y1, r1, rfl, h1⟩ := explode hy
      obtain ⟨y2, r2, rfl, h2⟩ := explode h1
      have hx : ∃ k : Nat, x = .py (.int k) ∧ k < 64 := by
        have hm : x ∈ rngV 0 (if (if c < (ns.length : Int) then c else (ns.length : Int)) > 1 then (if c < (ns.length : Int) then c else (ns.length : Int)) else 1).toNat := by
          have e' := e
          simp at e' ⊢
          rw [e']
          simp
        unfold rngV at hm
        rw [List.mem_map] at hm
        obtain ⟨k, hk, rfl⟩ := hm
        rw [List.mem_range] at hk
        refine ⟨k, by simp, ?_⟩
        split at hk <;> split at hk <;> omega
      obtain ⟨k, rfl, hk⟩ := hx
      simp
      refine (box_ok (ns := ns) (k := k) (by omega)).to ?_
      rintro d S1 ⟨rfl, a, b', rfl⟩
      have hbx : BoxAt (S ++ [.lst [.py (.int a), .py (.int b')]]) S.length := ⟨a, b', last_get⟩
      exact (hb k r2 _ _ hbx h2 hk).mono (fun _ _ h => h) (fun _ _ h => h.elim) (fun _ _ h => h.elim) (fun _ _ h => h) fun _ _ h => h.elim
    · rintro σ S _
      exact ⟨⟨_, Nat.zero_le _, rfl, fun i o hi => absurd hi (by simp)⟩, rfl⟩
  obtain ⟨a, T, e, rfl⟩ := key.out
  exact ⟨T, e⟩
end DV

set_option maxHeartbeats 4000000
namespace DV
open PySem
/-! Rows of gaps; letters by marks. -/
/-! ### == of lists of whole numbers -/
theorem eqvAll_ints : ∀ (a b : List Int), PyData.eqvAll (a.map PyData.int) (b.map PyData.int) = decide (a = b)
  | [], [] => rfl
  | [], _ :: _ => rfl
  | _ :: _, [] => rfl
  | x :: a, y :: b => by
    show PyData.eqvAll (.int x :: a.map PyData.int) (.int y :: b.map PyData.int) = _
    rw [PyData.eqvAll.eq_2, PyData.eqv.eq_5, eqvAll_ints a b]
    by_cases h : x = y <;> by_cases h2 : a = b <;> simp [h, h2]
abbrev tupI (r : List Int) : PyData := .tuple (r.map .int)
abbrev lstI (r : List Int) : PyData := .list (r.map .int)
theorem eqv_lstI (a b : List Int) : PyData.eqv (lstI a) (lstI b) = decide (a = b) := by rw [PyData.eqv.eq_7, eqvAll_ints]
theorem fit_ints {r : List Int} (h : ∀ x ∈ r, -999999999 ≤ x ∧ x ≤ 999999999) (hl : r.length ≤ 2000) : ∀ d ∈ r.map PyData.int, Fit d 0 0 := fun d hd => by
  obtain ⟨x, hx, rfl⟩ := List.mem_map.mp hd
  have := h x hx
  exact Fit.int (by omega) (by omega)
theorem fit_tupI {r : List Int} (h : ∀ x ∈ r, -999999999 ≤ x ∧ x ≤ 999999999) (hl : r.length ≤ 2000) : Fit (tupI r) 1 2000 := (Fit.tupleN (fit_ints h hl) (m := 2000) (by simpa using hl)).mono (by decide) (by decide)
theorem fit_lstI {r : List Int} (h : ∀ x ∈ r, -999999999 ≤ x ∧ x ≤ 999999999) (hl : r.length ≤ 2000) : Fit (lstI r) 1 2000 := (Fit.listN (fit_ints h hl) (m := 2000) (by simpa using hl)).mono (by decide) (by decide)
/-- marks that may be compared -/
structure Mk (M : List (List Int)) : Prop where
  len : M.length ≤ 200
  row : ∀ r ∈ M, r.length ≤ 2000
  bnd : ∀ r ∈ M, ∀ x ∈ r, -999999999 ≤ x ∧ x ≤ 999999999
/-- how marks are held -/
structure Enc (e : List Int → PyData) : Prop where
  eqv : ∀ a b, PyData.eqv (e a) (e b) = decide (a = b)
  fit : ∀ r : List Int, (∀ x ∈ r, -999999999 ≤ x ∧ x ≤ 999999999) → r.length ≤ 2000 → Fit (e r) 1 2000
  flat : ∀ a b, flatD (e a) (e b) = none
theorem enc_lst : Enc lstI := ⟨eqv_lstI, fun _ => fit_lstI, fun _ _ => rfl⟩
theorem Enc.eq {e : List Int → PyData} (h : Enc e) {a b : List Int} (ha : (∀ x ∈ a, -999999999 ≤ x ∧ x ≤ 999999999) ∧ a.length ≤ 2000) (hb : (∀ x ∈ b, -999999999 ≤ x ∧ x ≤ 999999999) ∧ b.length ≤ 2000) (S : Sto) : eqD (.py (e a)) (.py (e b)) S = .ok (.py (.bool (decide (a = b)))) S := by
  have hf := h.flat a b
  simp only [eqD, eqB, hf]
  rw [if_pos ⟨(h.fit a ha.1 ha.2).shaped (by decide), (h.fit b hb.1 hb.2).shaped (by decide)⟩, h.eqv]
theorem Enc.fitL {e : List Int → PyData} (h : Enc e) {M : List (List Int)} (hM : Mk M) : Fit (.list (M.map e)) 2 402000 :=
  (Fit.listN (k := 1) (w := 2000) (m := 200) (fun d hd => by
    obtain ⟨r, hr, rfl⟩ := List.mem_map.mp hd
    exact h.fit r (hM.bnd r hr) (hM.row r hr)) (by rw [List.length_map]; exact hM.len)).mono (by decide) (by decide)
/-! ### each mark once -/
def firsts (M : List (List Int)) : List (List Int) := M.foldl (fun acc m => if m ∈ acc then acc else acc ++ [m]) []
theorem firsts_snoc (M : List (List Int)) (m : List Int) : firsts (M ++ [m]) = if m ∈ firsts M then firsts M else firsts M ++ [m] := by
  unfold firsts
  rw [List.foldl_append]
  rfl
theorem mem_fold {m : List Int} : ∀ {M acc : List (List Int)}, m ∈ M.foldl (fun acc m => if m ∈ acc then acc else acc ++ [m]) acc ↔ m ∈ acc ∨ m ∈ M
  | [], acc => by simp
  | x :: M, acc => by
    rw [List.foldl_cons, mem_fold]
    split
    · rename_i h
      rw [List.mem_cons]
      exact ⟨fun z => z.elim .inl fun q => .inr (.inr q), fun z => z.elim .inl fun q => q.elim (fun e => .inl (e ▸ h)) .inr⟩
    · rw [List.mem_append, List.mem_singleton, List.mem_cons, or_assoc]
theorem mem_firsts {m : List Int} {M : List (List Int)} : m ∈ firsts M ↔ m ∈ M := by
  unfold firsts
  rw [mem_fold]
  simp
def groups (L : List Nat) (M : List (List Int)) : List (List Nat) := (firsts M).map fun m => ((L.zip M).filter fun p => p.2 = m).map (·.1)
abbrev encG (G : List (List Nat)) : PyData := .tuple (G.map fun g => .tuple (g.map lt))
theorem firsts_len : ∀ M : List (List Int), (firsts M).length ≤ M.length := by
  have key : ∀ (M acc : List (List Int)), (M.foldl (fun acc m => if m ∈ acc then acc else acc ++ [m]) acc).length ≤ acc.length + M.length := by
    intro M
    induction M with
    | nil => simp
    | cons x M ih =>
      intro acc
      rw [List.foldl_cons]
      refine Nat.le_trans (ih _) ?_
      split
      · rw [List.length_cons]
        omega
      · rw [List.length_append, List.length_cons, List.length_cons, List.length_nil]
        omega
  intro M
  have := key M []
  simpa [firsts] using this
theorem Mk.sub {M N : List (List Int)} (h : Mk M) (hl : N.length ≤ M.length) (hs : ∀ r ∈ N, r ∈ M) : Mk N := ⟨Nat.le_trans hl h.len, fun r hr => h.row r (hs r hr), fun r hr => h.bnd r (hs r hr)⟩
theorem Mk.firsts {M : List (List Int)} (h : Mk M) : Mk (firsts M) := h.sub (firsts_len M) fun _ hr => mem_firsts.mp hr
theorem Mk.pre {pre post : List (List Int)} (h : Mk (pre ++ post)) : Mk pre := h.sub (by simp) fun _ hr => List.mem_append_left _ hr
theorem mapM_deep (S : Sto) : ∀ ds : List PyData, (ds.map D.py).mapM (deep S 7) = some ds
  | [] => rfl
  | d :: ds => by
    rw [List.map_cons, List.mapM_cons, mapM_deep S ds]
    rfl
theorem deep_stL (S : Sto) (ds : List PyData) : deep (stL S ds) 8 (.obj S.length) = some (.list ds) := by
  simp only [deep, stL_get, mapM_deep]
  rfl
theorem any_eqv {e : List Int → PyData} (he : Enc e) (x : List Int) : ∀ K : List (List Int), ((K.map e).any fun z => PyData.eqv z (e x)) = decide (x ∈ K)
  | [] => rfl
  | k :: K => by
    rw [List.map_cons, List.any_cons, any_eqv he x K, he.eqv]
    by_cases h : k = x
    · simp [h]
    · simp [h, Ne.symm h]
theorem Enc.notin {e : List Int → PyData} (he : Enc e) {x : List Int} {K : List (List Int)} (hx : (∀ y ∈ x, -999999999 ≤ y ∧ y ≤ 999999999) ∧ x.length ≤ 2000) (hK : Mk K) (S : Sto) :
    notInD (.py (e x)) (.obj S.length) (stL S (K.map e)) = .ok (.py (.bool (!decide (x ∈ K)))) (stL S (K.map e)) := by
  have h1 : deep (stL S (K.map e)) 8 (.py (e x)) = some (e x) := rfl
  simp only [notInD, inS, deep_stL, h1, inB]
  rw [if_pos ⟨(he.fit x hx.1 hx.2).shaped (by decide), (he.fitL hK).shaped (by decide)⟩, any_eqv he]
/-- the marks as they are walked -/
structure Mks (d : PyData) (e : List Int → PyData) (M : List (List Int)) : Prop where
  seq : seqD (.py d) = some (M.map e)
  walk : ∀ S, pyWalk S (.py d) = some (M.map e)
end DV

set_option maxHeartbeats 4000000
namespace DV
open PySem
/-! The law's own gaps, marks and groups. -/
theorem eqv_lt (a b : Nat) : PyData.eqv (lt a) (lt b) = decide (a = b) := by
  rw [PyData.eqv.eq_6]
  by_cases h : a = b
  · subst h
    simp
  · simp [h]
def LP (P : List Pair) : Prop := P.length ≤ 40000 ∧ ∀ p ∈ P, p.1 ≤ 122 ∧ p.2.1 ≤ 122
def leftM (f : Face) (P : List Pair) : List (List Int) := f.lets.map fun l => f.lets.map fun r => gapIn P l r
def rightM (f : Face) (P : List Pair) : List (List Int) := f.lets.map fun r => f.lets.map fun l => gapIn P l r
/-! ### the first place of a mark -/
theorem place_enc {e : List Int → PyData} (he : Enc e) (M : List (List Int)) (x : List Int) : placeOf (M.map e) (e x) = M.findIdx? fun m => decide (m = x) := by
  unfold placeOf
  rw [List.findIdx?_map]
  congr 1
  funext m
  exact he.eqv m x
theorem find_new {pre post : List (List Int)} {x : List Int} (h : x ∉ pre) : (pre ++ x :: post).findIdx? (fun m => decide (m = x)) = some pre.length := by
  rw [List.findIdx?_append, List.findIdx?_eq_none_iff.mpr fun m hm => by
    rw [decide_eq_false_iff_not]
    exact fun e => h (e ▸ hm)]
  simp [List.findIdx?_cons]
theorem find_old {pre post : List (List Int)} {x : List Int} (h : x ∈ pre) : ∃ j, (pre ++ x :: post).findIdx? (fun m => decide (m = x)) = some j ∧ j < pre.length := by
  rw [List.findIdx?_append]
  cases hf : pre.findIdx? (fun m => decide (m = x)) with
  | none =>
    rw [List.findIdx?_eq_none_iff] at hf
    have := hf x h
    simp at this
  | some j => exact ⟨j, rfl, (List.findIdx?_eq_some_iff_getElem.mp hf).1⟩
theorem Enc.index {e : List Int → PyData} (he : Enc e) {M : List (List Int)} {x : List Int} {j : Nat} (hM : Mk M) (hx : (∀ y ∈ x, -999999999 ≤ y ∧ y ≤ 999999999) ∧ x.length ≤ 2000) (hj : M.findIdx? (fun m => decide (m = x)) = some j) (S : Sto) :
    indexD (.py (.list (M.map e))) [.py (e x)] S = .ok (.py (.int (j : Nat))) S := by
  have h1 : deep S 8 (.py (.list (M.map e))) = some (.list (M.map e)) := rfl
  have h2 : deep S 8 (.py (e x)) = some (e x) := rfl
  simp only [indexD, h1, h2, place_enc he, hj]
  rw [if_pos ⟨(he.fitL hM).shaped (by decide), (he.fit x hx.1 hx.2).shaped (by decide)⟩]
theorem zipIdx_split {α : Type} {M : List α} {pre post : List (α × Nat)} {x : α × Nat} (h : M.zipIdx = pre ++ x :: post) : M = pre.map (·.1) ++ x.1 :: post.map (·.1) ∧ x.2 = pre.length := by
  have h1 := congrArg (List.map (·.1)) h
  rw [List.zipIdx_map_fst] at h1
  refine ⟨by simpa using h1, ?_⟩
  have h2 : (M.zipIdx)[pre.length]? = some x := by rw [h]; simp
  rw [List.getElem?_zipIdx] at h2
  cases hm : M[pre.length]? with
  | none => rw [hm] at h2; cases h2
  | some m =>
    rw [hm] at h2
    have := Option.some.inj h2
    rw [← this]
    simp
end DV

set_option maxHeartbeats 4000000
namespace DV
open PySem
/-! Lists of gaps that are small enough. -/
structure PG (P : List Pair) : Prop where
  len : P.length ≤ 40000
  lts : ∀ p ∈ P, p.1 ≤ 122 ∧ p.2.1 ≤ 122
  gap : ∀ p ∈ P, -999999999 ≤ p.2.2 ∧ p.2.2 ≤ 999999999
theorem PG.nil : PG [] := ⟨by simp, by simp, by simp⟩
theorem PG.lp {P : List Pair} (h : PG P) : LP P := ⟨h.len, h.lts⟩
theorem mlist_len (L : List Nat) (R : List (List Int)) (hl : L.length ≤ 200) : (mlist L R).length ≤ 40000 := by
  have h := flat_len (fun p : Nat × List Int => rowP p.1 L p.2) L.length (L.zip R) fun p _ => rowP_len _ _ _
  have h2 : (L.zip R).length ≤ L.length := by rw [List.length_zip]; exact Nat.min_le_left _ _
  have h3 : (L.zip R).length * L.length ≤ 200 * 200 := Nat.mul_le_mul (Nat.le_trans h2 hl) hl
  unfold mlist
  omega
theorem PG.mlist {L : List Nat} {R : List (List Int)} (hL : ∀ c ∈ L, c ≤ 122) (hr : ∀ r ∈ R, ∀ x ∈ r, -999999999 ≤ x ∧ x ≤ 999999999) (hl : L.length ≤ 200) : PG (mlist L R) := by
  refine ⟨mlist_len L R hl, fun p hp => ?_, fun p hp => ?_⟩
  · obtain ⟨i, j, row, k1, k2, k3, k4, _⟩ := mem_mlist hp
    exact ⟨hL _ (List.mem_of_getElem? k1), hL _ (List.mem_of_getElem? k3)⟩
  · obtain ⟨i, j, row, k1, k2, k3, k4, _⟩ := mem_mlist hp
    exact hr _ (List.mem_of_getElem? k2) _ (List.mem_of_getElem? k4)
theorem Rows.bnd9 {R : List (List Int)} {n : Nat} (h : Rows R n) : ∀ r ∈ R, ∀ x ∈ r, -999999999 ≤ x ∧ x ≤ 999999999 := fun r hr x hx => by
  have := h.bnd r hr x hx
  omega
theorem PG.fit {P : List Pair} (h : PG P) : Fit (encP P) 2 240000 := by
  refine (Fit.tupleN (k := 1) (w := 5) (m := 40000) (fun d hd => ?_) (by simpa using h.len)).mono (by decide) (by decide)
  obtain ⟨p, hp, rfl⟩ := List.mem_map.mp hd
  have a := h.lts p hp
  have b := h.gap p hp
  exact fit_encT (by omega) (by omega) (by omega) (by omega)
theorem PG.bnd {P : List Pair} (h : PG P) (l r : Nat) : -999999999 ≤ gapIn P l r ∧ gapIn P l r ≤ 999999999 := by
  unfold gapIn
  split
  · rename_i p hp
    exact h.gap p (List.mem_of_find?_eq_some hp)
  · omega
theorem PG.left {P : List Pair} (h : PG P) {f : Face} (hf : f.ls.length ≤ 200) : Mk (leftM f P) := by
  refine ⟨by simpa [leftM] using hf, fun r hr => ?_, fun r hr x hx => ?_⟩
  · obtain ⟨l, _, rfl⟩ := List.mem_map.mp hr
    simp
    omega
  · obtain ⟨l, _, rfl⟩ := List.mem_map.mp hr
    obtain ⟨q, _, rfl⟩ := List.mem_map.mp hx
    exact h.bnd _ _
theorem PG.right {P : List Pair} (h : PG P) {f : Face} (hf : f.ls.length ≤ 200) : Mk (rightM f P) := by
  refine ⟨by simpa [rightM] using hf, fun r hr => ?_, fun r hr x hx => ?_⟩
  · obtain ⟨l, _, rfl⟩ := List.mem_map.mp hr
    simp
    omega
  · obtain ⟨l, _, rfl⟩ := List.mem_map.mp hr
    obtain ⟨q, _, rfl⟩ := List.mem_map.mp hx
    exact h.bnd _ _
end DV

set_option maxHeartbeats 4000000
namespace DV
open PySem
/-! Tables by classes of letters. -/
end DV

set_option maxHeartbeats 4000000
namespace DV
open PySem
/-! Letters, gaps and rows that are known. -/
theorem is_from_to_int (i lo hi : Int) (S : Sto) : F_is_from_to [.py (.int i), .py (.int lo), .py (.int hi)] S = .ok (.py (.bool (decide (lo ≤ i ∧ i ≤ hi)))) S := by
  unfold F_is_from_to b_is_from_to
  refine fn_eq (wp_fn ?_)
  simp [init, isB]
  by_cases h : lo ≤ i
  · simp [h]
    first | exact ⟨.self, rfl⟩ | exact .inr ⟨.self, rfl⟩
  · have h' : i < lo := by omega
    simp [h, h']
    exact ⟨.self, rfl⟩
theorem is_gap_int (i : Int) (S : Sto) : F_is_gap [.py (.int i)] S = .ok (.py (.bool (decide (-9 ≤ i ∧ i ≤ 9)))) S := by
  unfold F_is_gap b_is_gap
  refine fn_eq (wp_fn ?_)
  simp [init, is_from_to_int]
  exact ⟨.self, rfl⟩
abbrev encU (R : List (List Int)) : PyData := .tuple (R.map tupI)
@[simp] theorem seqD_encU (R : List (List Int)) : seqD (.py (encU R)) = some (R.map tupI) := id rfl
@[simp] theorem walk_encU (R : List (List Int)) (S : Sto) : pyWalk S (.py (encU R)) = some (R.map tupI) := id rfl
@[simp] theorem seqD_tupI (r : List Int) : seqD (.py (tupI r)) = some (r.map .int) := id rfl
@[simp] theorem walk_tupI (r : List Int) (S : Sto) : pyWalk S (.py (tupI r)) = some (r.map .int) := id rfl
end DV

set_option maxHeartbeats 4000000
namespace DV
open PySem
/-! Partings. -/
theorem sl_big : sizeLine = 16777216 := rfl
/-! ### the place of a letter -/
def plcD : Option Nat → PyData
  | some i => .int i
  | none => .none
theorem place_gen {f : Face} {t : PyData} {p : Nat → Bool} (h : ∀ q ∈ f.ls, ∀ S, eqD (.py (lt q.1)) (.py t) S = .ok (.py (.bool (p q.1))) S) (S : Sto) : F_place_of [.py f.py, .py t] S = .ok (.py (plcD (f.lets.findIdx? p))) S := by
  unfold F_place_of b_place_of
  refine fn_eq (wp_fn ?_)
  simp [init]
  refine wp_forM _ (fun (pre : List ((Nat × Int) × Nat)) σ T => wipeD σ [2, 3] = _ ∧ T = S ∧ ∀ q ∈ pre, p q.1.1 = false) ⟨rfl, rfl, by simp⟩ ?_ ?_
  · rintro pre x post σ T e ⟨hσ, rfl, hp⟩
    obtain ⟨_, _, rfl⟩ := slot2 hσ
    clear hσ
    obtain ⟨e1, e2⟩ := zipIdx_split e
    have hx1 : x.1 ∈ f.ls := by rw [e1]; simp
    have hq := h x.1 hx1
    cases hx : p x.1.1 with
    | true =>
      simp [hq, hx]
      refine ⟨T, .self, rfl, ?_, rfl⟩
      have hfi : f.lets.findIdx? p = some pre.length := by
        unfold Face.lets
        rw [e1, List.map_append, List.findIdx?_append, List.findIdx?_eq_none_iff.mpr]
        · simp [List.findIdx?_cons, hx]
        · intro c hc
          obtain ⟨y, hy, rfl⟩ := List.mem_map.mp hc
          obtain ⟨z, hz, rfl⟩ := List.mem_map.mp hy
          exact hp z hz
      rw [hfi, e2]
      rfl
    | false =>
      have hp' : ∀ q ∈ pre ++ [x], p q.1.1 = false := fun q hq => by
        rw [List.mem_append, List.mem_singleton] at hq
        rcases hq with hq | rfl
        · exact hp q hq
        · exact hx
      generalize hz : (∀ q ∈ pre ++ [x], p q.1.1 = false) = Z at hp' ⊢
      simp [hq, hx]
      exact hp'
  · rintro σ T ⟨hσ, rfl, hp⟩
    obtain ⟨_, _, rfl⟩ := slot2 hσ
    clear hσ
    simp
    refine ⟨T, .self, rfl, ?_, rfl⟩
    have hfi : f.lets.findIdx? p = none := by
      rw [List.findIdx?_eq_none_iff]
      intro c hc
      obtain ⟨q, hq, rfl⟩ := List.mem_map.mp hc
      obtain ⟨i, hi⟩ := List.getElem?_of_mem hq
      exact hp (q, i) (List.mem_of_getElem? (i := i) (by rw [List.getElem?_zipIdx, hi]; simp))
    rw [hfi]
    rfl
theorem place_lt {f : Face} (c : Nat) (S : Sto) : F_place_of [.py f.py, .py (lt c)] S = .ok (.py (plcD (f.lets.findIdx? fun x => decide (x = c)))) S :=
  place_gen (fun q _ S => by simp) S
theorem place_int {f : Face} (i : Int) (S : Sto) : F_place_of [.py f.py, .py (.int i)] S = .ok (.py .none) S := by
  rw [place_gen (p := fun _ => false) (fun q _ S => rfl) S]
  have : f.lets.findIdx? (fun _ => false) = none := by simp
  rw [this]
  rfl
abbrev plc (L : List Nat) (c : Nat) : Nat := L.idxOf c
theorem find_idxOf {L : List Nat} {c : Nat} (h : c ∈ L) : L.findIdx? (fun x => decide (x = c)) = some (plc L c) := by
  have : (fun x => decide (x = c)) = fun x => x == c := by
    funext x
    by_cases h : x = c <;> simp [h]
  rw [this]
  have h2 := List.idxOf_lt_length_of_mem h
  rw [List.findIdx?_eq_some_iff_findIdx_eq]
  exact ⟨h2, rfl⟩
theorem place_mem {f : Face} {c : Nat} (h : c ∈ f.lets) (S : Sto) : F_place_of [.py f.py, .py (lt c)] S = .ok (.py (.int (plc f.lets c : Nat))) S := by
  rw [place_lt, find_idxOf h]
  rfl
/-! ### partings -/
def hd0 (g : List Nat) : Nat := g.headD 0
structure IsPart (L : List Nat) (G : List (List Nat)) : Prop where
  ne : ∀ g ∈ G, g ≠ []
  srt : ∀ g ∈ G, (g.map (plc L)).Pairwise (· < ·)
  mem : ∀ g ∈ G, ∀ c ∈ g, c ∈ L
  heads : (G.map fun g => plc L (hd0 g)).Pairwise (· < ·)
  perm : G.flatten.Perm L
theorem plc_at {L : List Nat} (nd : L.Nodup) {i c : Nat} (h : L[i]? = some c) : plc L c = i := by
  obtain ⟨hi, rfl⟩ := List.getElem?_eq_some_iff.mp h
  exact List.Nodup.idxOf_getElem nd i hi
theorem plc_map {L : List Nat} (nd : L.Nodup) : L.map (plc L) = List.range L.length := by
  refine List.ext_getElem (by simp) fun i h1 h2 => ?_
  simp only [List.getElem_map, List.getElem_range]
  exact plc_at nd (List.getElem?_eq_getElem (by simpa using h1))
theorem plc_lt {L : List Nat} {c : Nat} (h : c ∈ L) : plc L c < L.length := List.idxOf_lt_length_of_mem h
theorem sub_srt {L g : List Nat} (nd : L.Nodup) (h : g.Sublist L) : (g.map (plc L)).Pairwise (· < ·) := by
  have h1 : (g.map (plc L)).Sublist (L.map (plc L)) := h.map _
  rw [plc_map nd] at h1
  exact List.Pairwise.sublist h1 List.pairwise_lt_range
/-! ### groups are partings -/
def grp (L : List Nat) (M : List (List Int)) (m : List Int) : List Nat := ((L.zip M).filter fun p => p.2 = m).map (·.1)
theorem groups_def (L : List Nat) (M : List (List Int)) : groups L M = (firsts M).map (grp L M) := rfl
theorem grp_sub (L : List Nat) (M : List (List Int)) (m : List Int) (hl : L.length ≤ M.length) : (grp L M m).Sublist L := by
  unfold grp
  have : ((L.zip M).filter fun p => p.2 = m).map (·.1) |>.Sublist ((L.zip M).map (·.1)) := List.filter_sublist.map _
  rw [map_fst_zip hl] at this
  exact this
theorem firsts_nodup (M : List (List Int)) : (firsts M).Nodup := by
  have key : ∀ (M acc : List (List Int)), acc.Nodup → (M.foldl (fun acc m => if m ∈ acc then acc else acc ++ [m]) acc).Nodup := by
    intro M
    induction M with
    | nil => exact fun _ h => h
    | cons x M ih =>
      intro acc h
      rw [List.foldl_cons]
      refine ih _ ?_
      split
      · exact h
      · rename_i hx
        rw [List.nodup_append]
        refine ⟨h, by simp, fun a ha b hb => ?_⟩
        rw [List.mem_singleton] at hb
        subst hb
        exact fun e => hx (e ▸ ha)
  exact key M [] List.nodup_nil
theorem mem_grp {L : List Nat} {M : List (List Int)} {m : List Int} {c : Nat} : c ∈ grp L M m ↔ ∃ i : Nat, L[i]? = some c ∧ M[i]? = some m := by
  unfold grp
  rw [List.mem_map]
  constructor
  · rintro ⟨p, hp, rfl⟩
    rw [List.mem_filter] at hp
    obtain ⟨i, h1, h2⟩ := mem_zip_at hp.1
    have : p.2 = m := by simpa using hp.2
    exact ⟨i, h1, this ▸ h2⟩
  · rintro ⟨i, h1, h2⟩
    exact ⟨(c, m), List.mem_filter.mpr ⟨List.mem_of_getElem? (zip_at h1 h2), by simp⟩, rfl⟩
/-- the first letter of a group stands where its mark is first -/
theorem grp_head {L : List Nat} {M : List (List Int)} (nd : L.Nodup) (hl : L.length = M.length) {m : List Int} (hm : m ∈ M) : plc L (hd0 (grp L M m)) = M.idxOf m := by
  have hi := List.idxOf_lt_length_of_mem hm
  have hmi : M[M.idxOf m]? = some m := by rw [List.getElem?_eq_getElem hi, List.getElem_idxOf hi]
  have hLi : M.idxOf m < L.length := by omega
  have eL : L.zip M = (L.zip M).take (M.idxOf m) ++ (L[M.idxOf m], m) :: (L.zip M).drop (M.idxOf m + 1) := by
    conv => lhs; rw [← List.take_append_drop (M.idxOf m) (L.zip M)]
    congr 1
    rw [List.drop_eq_getElem_cons (by rw [List.length_zip]; omega)]
    congr 1
    rw [List.getElem_zip]
    congr 1
    exact List.getElem_idxOf hi
  have hno : ((L.zip M).take (M.idxOf m)).filter (fun p => decide (p.2 = m)) = [] := by
    rw [List.filter_eq_nil_iff]
    intro p hp
    obtain ⟨j, hj, rfl⟩ := List.getElem_of_mem hp
    rw [List.length_take] at hj
    rw [List.getElem_take, List.getElem_zip]
    simp only [decide_eq_true_eq]
    intro e
    have hj2 : j < M.idxOf m := by omega
    have : M.idxOf m ≤ j := by
      have h3 : M.idxOf m = M.idxOf (M[j]'(by omega)) := by rw [e]
      rw [h3]
      have := List.findIdx_le_length (p := (· == M[j]'(by omega))) (xs := M)
      refine Nat.le_of_not_lt fun hlt => ?_
      have := List.not_of_lt_findIdx (p := (· == M[j]'(by omega))) hlt
      simp at this
    omega
  unfold grp hd0
  rw [eL, List.filter_append, hno, List.filter_cons]
  simp only [decide_true, if_true, List.nil_append, List.map_cons, List.headD_cons]
  exact plc_at nd (List.getElem?_eq_getElem hLi)
theorem firsts_sorted : ∀ M : List (List Int), ((firsts M).map fun m => M.idxOf m).Pairwise (· < ·) := by
  have key : ∀ (n : Nat) (M : List (List Int)), M.length = n → ((firsts M).map fun m => M.idxOf m).Pairwise (· < ·) := by
    intro n
    induction n with
    | zero =>
      intro M h
      rw [List.eq_nil_of_length_eq_zero h]
      exact List.Pairwise.nil
    | succ n ih =>
      intro M h
      have hne : M ≠ [] := fun e => by rw [e] at h; cases h
      rw [← List.dropLast_concat_getLast hne]
      generalize hN : M.dropLast = N
      generalize M.getLast hne = x
      have ih := ih N (by rw [← hN]; simp [h])
      rw [firsts_snoc]
      have old : ∀ m ∈ firsts N, (N ++ [x]).idxOf m = N.idxOf m := fun m hm => by
        rw [List.idxOf_append, if_pos (mem_firsts.mp hm)]
      split
      · rw [List.map_congr_left old]
        exact ih
      · rename_i hx
        rw [List.map_append, List.map_congr_left old, List.pairwise_append]
        refine ⟨ih, by simp, fun a ha b hb => ?_⟩
        obtain ⟨m, hm, rfl⟩ := List.mem_map.mp ha
        have hxN : x ∉ N := fun z => hx (mem_firsts.mpr z)
        simp only [List.map_cons, List.map_nil, List.mem_singleton] at hb
        subst hb
        rw [List.idxOf_append, if_neg hxN]
        have := List.idxOf_lt_length_of_mem (mem_firsts.mp hm)
        omega
  exact fun M => key _ M rfl
theorem groups_part {L : List Nat} {M : List (List Int)} (nd : L.Nodup) (hl : L.length = M.length) : IsPart L (groups L M) := by
  rw [groups_def]
  have sub : ∀ m, (grp L M m).Sublist L := fun m => grp_sub L M m (by omega)
  refine ⟨fun g hg => ?_, fun g hg => ?_, fun g hg c hc => ?_, ?_, ?_⟩
  · obtain ⟨m, hm, rfl⟩ := List.mem_map.mp hg
    obtain ⟨i, hi⟩ := List.getElem?_of_mem (mem_firsts.mp hm)
    have hiL : i < L.length := by rw [hl]; exact (List.getElem?_eq_some_iff.mp hi).1
    intro e
    have : L[i] ∈ grp L M m := mem_grp.mpr ⟨i, List.getElem?_eq_getElem hiL, hi⟩
    rw [e] at this
    cases this
  · obtain ⟨m, hm, rfl⟩ := List.mem_map.mp hg
    exact sub_srt nd (sub m)
  · obtain ⟨m, hm, rfl⟩ := List.mem_map.mp hg
    exact (sub m).subset hc
  · rw [List.map_map]
    have : ∀ m ∈ firsts M, ((fun g => plc L (hd0 g)) ∘ grp L M) m = M.idxOf m := fun m hm => grp_head nd hl (mem_firsts.mp hm)
    rw [List.map_congr_left this]
    exact firsts_sorted M
  · have nf : ((firsts M).map (grp L M)).flatten.Nodup := by
      rw [List.Nodup, List.pairwise_flatten]
      refine ⟨fun g hg => ?_, ?_⟩
      · obtain ⟨m, hm, rfl⟩ := List.mem_map.mp hg
        exact nd.sublist (sub m)
      · rw [List.pairwise_map]
        refine (firsts_nodup M).imp fun {a b} hab c h1 c' h2 e => ?_
        subst e
        obtain ⟨i, e1, e2⟩ := mem_grp.mp h1
        obtain ⟨j, e3, e4⟩ := mem_grp.mp h2
        have := nodup_get nd e1 e3
        subst this
        rw [e2] at e4
        exact hab (Option.some.inj e4)
    rw [List.perm_ext_iff_of_nodup nf nd]
    intro c
    rw [List.mem_flatten]
    constructor
    · rintro ⟨g, hg, hc⟩
      obtain ⟨m, hm, rfl⟩ := List.mem_map.mp hg
      exact (sub m).subset hc
    · intro hc
      obtain ⟨i, hi⟩ := List.getElem?_of_mem hc
      have hiM : i < M.length := by rw [← hl]; exact (List.getElem?_eq_some_iff.mp hi).1
      exact ⟨_, List.mem_map.mpr ⟨M[i], mem_firsts.mpr (List.getElem_mem hiM), rfl⟩, mem_grp.mpr ⟨i, hi, List.getElem?_eq_getElem hiM⟩⟩
end DV

set_option maxHeartbeats 4000000
namespace DV
open PySem
/-! Partings are known; classes. -/
structure Sm (r : List Int) : Prop where
  bnd : ∀ x ∈ r, -999999999 ≤ x ∧ x ≤ 999999999
  len : r.length ≤ 2000
theorem eq_lstI {a b : List Int} (ha : Sm a) (hb : Sm b) (S : Sto) : eqD (.py (lstI a)) (.py (lstI b)) S = .ok (.py (.bool (decide (a = b)))) S := enc_lst.eq ⟨ha.bnd, ha.len⟩ ⟨hb.bnd, hb.len⟩ S
theorem neD_of {d e : PyData} {k : Bool} {S : Sto} (h : eqD (.py d) (.py e) S = .ok (.py (.bool k)) S) : neD (.py d) (.py e) S = .ok (.py (.bool (!k))) S := by
  unfold eqD at h
  unfold neD
  cases hb : eqB d e with
  | none => simp only [hb] at h; cases h
  | some b => simp only [hb] at h; cases h; simp only [hb]
theorem ne_lstI {a b : List Int} (ha : Sm a) (hb : Sm b) (S : Sto) : neD (.py (lstI a)) (.py (lstI b)) S = .ok (.py (.bool (!decide (a = b)))) S := neD_of (eq_lstI ha hb S)
theorem sortedD_ints {r : List Int} (h : r.length < 1000000) (S : Sto) : sortedD [.py (lstI r)] S = .ok ((sortI r).map fun i => D.py (.int i)) S := by
  have e : deep S 8 (.py (lstI r)) = some (.list (r.map .int)) := rfl
  simp only [sortedD, e, intsOf_map]
  rw [if_pos h]
theorem sortI_self {r : List Int} (h : r.Pairwise (· ≤ ·)) : sortI r = r := (sortI_eq (List.Perm.refl r) h).symm
theorem eqD_deep {d e : PyData} (hf : flatD d e = none) (h1 : SeqAt.shaped d = true) (h2 : SeqAt.shaped e = true) (S : Sto) : eqD (.py d) (.py e) S = .ok (.py (.bool (PyData.eqv d e))) S := by
  simp only [eqD, eqB, hf]
  rw [if_pos ⟨h1, h2⟩]
theorem fit_lts {g : List Nat} (h : ∀ c ∈ g, c ≤ 122) (hl : g.length ≤ 200) : Fit (.tuple (g.map lt)) 1 400 := (Fit.tupleN (k := 0) (w := 1) (m := 200) (fun d hd => by
    obtain ⟨c, hc, rfl⟩ := List.mem_map.mp hd
    have := h c hc
    exact Fit.lt (by omega)) (by simpa using hl)).mono (by decide) (by decide)
theorem eq_unit {g : List Nat} (h : ∀ c ∈ g, c ≤ 122) (hl : g.length ≤ 200) (S : Sto) : eqD (.py (.tuple (g.map lt))) (.py (.tuple [])) S = .ok (.py (.bool (decide (g = [])))) S := by
  rw [eqD_deep rfl ((fit_lts h hl).shaped (by decide)) ((Fit.tuple (FitL.nil (k := 0) (w := 0))).shaped (by decide))]
  rw [PyData.eqv.eq_8]
  cases g with
  | nil => rfl
  | cons a g => rfl
theorem none_notin {r : List Int} (h : Sm r) (S : Sto) : inD (.py .none) (.py (lstI r)) S = .ok (.py (.bool false)) S := by
  have h1 : deep S 8 (.py .none) = some .none := rfl
  have h2 : deep S 8 (.py (lstI r)) = some (lstI r) := rfl
  simp only [inD, inS, h1, h2, inB]
  rw [if_pos ⟨Fit.none.shaped (by decide), (fit_lstI h.bnd h.len).shaped (by decide)⟩]
  have : ((r.map PyData.int).any fun z => PyData.eqv z .none) = false := by
    rw [List.any_eq_false]
    intro d hd
    obtain ⟨x, _, rfl⟩ := List.mem_map.mp hd
    simp [PyData.eqv]
  rw [this]
@[simp] theorem wp_sumL (f : Ex) {σ : En} {S : Sto} {P : List D → Sto → Prop} {E : Str → Sto → Prop} : (sumL f σ S).wp P E = (f σ S).wp (fun d S1 => ∃ ds Ls, d = .py (.list ds) ∧ listsOf ds = some Ls ∧ Ls.flatten.length ≤ sizeLine ∧ P (Ls.flatten.map .py) S1) E := by
  unfold sumL
  rw [wp_bind]
  congr 1
  funext d S1
  rcases d with d | n | n
  · cases d
    case list ds =>
      cases h : listsOf ds with
      | none =>
        simp only [h]
        exact propext ⟨fun h => h.elim, fun ⟨_, _, e, h2, _⟩ => by cases e; rw [h] at h2; cases h2⟩
      | some Ls =>
        simp only [h]
        rw [wp_iteR]
        split
        · rename_i hz
          exact propext ⟨fun p => ⟨_, _, rfl, h, hz, p⟩, fun ⟨_, _, e, h2, _, p⟩ => by cases e; rw [h] at h2; cases h2; exact p⟩
        · rename_i hz
          exact propext ⟨fun p => p.elim, fun ⟨_, _, e, h2, z, p⟩ => by cases e; rw [h] at h2; cases h2; exact hz z⟩
    all_goals exact propext ⟨fun h => h.elim, fun ⟨_, _, e, _⟩ => by cases e⟩
  · exact propext ⟨fun h => h.elim, fun ⟨_, _, e, _⟩ => by cases e⟩
  · exact propext ⟨fun h => h.elim, fun ⟨_, _, e, _⟩ => by cases e⟩
theorem listsOf_map : ∀ R : List (List Int), listsOf (R.map lstI) = some (R.map fun r => r.map PyData.int)
  | [] => rfl
  | r :: R => by
    show (listsOf (R.map lstI)).map ((r.map PyData.int) :: ·) = _
    rw [listsOf_map R]
    rfl
/-- places as whole numbers -/
def plI (L : List Nat) (g : List Nat) : List Int := g.map fun c => (plc L c : Int)
@[simp] theorem plI_len (L g : List Nat) : (plI L g).length = g.length := by simp [plI]
theorem plI_D (L g : List Nat) : (g.map fun c => D.py (.int (plc L c : Nat))) = ((plI L g).map PyData.int).map D.py := by simp [plI]
theorem plI_cons (L g : List Nat) (a : Nat) : plI L (a :: g) = (plc L a : Int) :: plI L g := rfl
theorem plI_le {L g : List Nat} (h : (g.map (plc L)).Pairwise (· < ·)) : (plI L g).Pairwise (· ≤ ·) := by
  unfold plI
  rw [List.pairwise_map] at h ⊢
  exact h.imp fun h => by omega
theorem plI_sm {L g : List Nat} (hL : L.length ≤ 40) (h : ∀ c ∈ g, c ∈ L) (hl : g.length ≤ 40) : Sm (plI L g) := by
  refine ⟨fun x hx => ?_, by simp; omega⟩
  unfold plI at hx
  obtain ⟨c, hc, rfl⟩ := List.mem_map.mp hx
  have := plc_lt (h c hc)
  omega
theorem IsPart.len {L : List Nat} {G : List (List Nat)} (h : IsPart L G) : (G.map List.length).sum = L.length := by
  rw [← h.perm.length_eq, List.length_flatten]
theorem IsPart.len1 {L : List Nat} {G : List (List Nat)} (h : IsPart L G) {g : List Nat} (hg : g ∈ G) : g.length ≤ L.length := by
  rw [← h.perm.length_eq]
  exact (List.sublist_flatten_of_mem hg).length_le
theorem IsPart.len2 {L : List Nat} {G : List (List Nat)} (h : IsPart L G) : G.length ≤ L.length := by
  rw [← h.len]
  have key : ∀ G : List (List Nat), (∀ g ∈ G, g ≠ []) → G.length ≤ (G.map List.length).sum := by
    intro G
    induction G with
    | nil => simp
    | cons g G ih =>
      intro h
      have h1 := List.length_pos_iff.mpr (h g (List.mem_cons_self ..))
      have h2 := ih fun x hx => h x (List.mem_cons_of_mem _ hx)
      simp only [List.length_cons, List.map_cons, List.sum_cons]
      omega
  exact key G h.ne
theorem item_headI {a : Int} {r : List Int} {S : Sto} : itemD (.py (lstI (a :: r))) (.py (.int 0)) S = .ok (.py (.int a)) S := itemD_l0
theorem is_parting_eq {f : Face} {G : List (List Nat)} (h : IsPart f.lets G) (nd : f.lets.Nodup) (b : ∀ c ∈ f.lets, c ≤ 122) (h1 : f.ls.length ≤ 40) (S : Sto) : F_is_parting [.py f.py, .py (encG G)] S = .ok (.py (.bool true)) S := by
  have hL : f.lets.length ≤ 40 := by simpa using h1
  have hGl := h.len2
  unfold F_is_parting b_is_parting
  refine fn_eq (wp_fn ?_)
  simp [init, isB]
  rw [stL_nil]
  refine wp_forM (D.py ∘ fun g : List Nat => .tuple (g.map lt)) (fun pre σ T => wipeD σ [3, 4] = _ ∧ T = stL S (pre.map fun g => lstI (plI f.lets g))) ⟨rfl, rfl⟩ ?_ ?_
  · rintro pre g post σ T e ⟨hσ, rfl⟩
    obtain ⟨_, _, rfl⟩ := slot2 hσ
    clear hσ
    have hg : g ∈ G := by rw [e]; simp
    have gl := h.len1 hg
    have eu := eq_unit (g := g) (fun c hc => b c (h.mem g hg c hc)) (by omega)
    have gn := h.ne g hg
    have sm := plI_sm hL (h.mem g hg) (by omega)
    have nn := none_notin sm
    have so := sortedD_ints (r := plI f.lets g) (by simp; omega)
    rw [sortI_self (plI_le (h.srt g hg))] at so
    have ne := ne_lstI sm sm
    simp only [decide_true, Bool.not_true] at ne
    have lp : pre.length ≤ 40 := by
      have := congrArg List.length e
      rw [List.length_append] at this
      omega
    simp [eu, gn, isB]
    refine wp_pureM1 (D.py ∘ lt) (fun c => D.py (.int (plc f.lets c : Nat))) (fun c hc => wp_eq ?_) ?_
    · simp [place_mem (h.mem g hg c hc)]
    · have ap := stL_app (S := S) (ds := pre.map fun g => lstI (plI f.lets g)) (d := lstI (plI f.lets g)) (by rw [List.length_map, sl_big]; omega)
      rw [plI_D]
      simp [nn, so, ne, ap]
  · rintro σ T ⟨hσ, rfl⟩
    obtain ⟨_, _, rfl⟩ := slot2 hσ
    clear hσ
    simp
    refine stL_fix rfl ?_
    simp
    refine wp_pureM1 (D.py ∘ fun g => lstI (plI f.lets g)) (fun g => D.py (.int (plc f.lets (hd0 g) : Nat))) (fun g hg => ?_) ?_
    · have gn := h.ne g hg
      cases g with
      | nil => exact absurd rfl gn
      | cons a g => exact wp_eq (by simp [plI_cons, item_headI, hd0])
    · have hh : (plI f.lets (G.map hd0)).Pairwise (· ≤ ·) := plI_le (by simpa [Function.comp_def] using h.heads)
      have hm : ∀ c ∈ G.map hd0, c ∈ f.lets := fun c hc => by
        obtain ⟨g, hg, rfl⟩ := List.mem_map.mp hc
        have gn := h.ne g hg
        cases g with
        | nil => exact absurd rfl gn
        | cons a g => exact h.mem _ hg a (List.mem_cons_self ..)
      have sm := plI_sm hL hm (by simp; omega)
      have so := sortedD_ints (r := plI f.lets (G.map hd0)) (by simp; omega)
      rw [sortI_self hh] at so
      have eq := eq_lstI sm sm
      simp only [decide_true] at eq
      have fl : ((G.map fun g => plI f.lets g).map fun r => r.map PyData.int).flatten = (plI f.lets G.flatten).map PyData.int := by
        simp [plI, List.map_flatten, Function.comp_def]
      have so2 := sortedD_ints (r := plI f.lets G.flatten) (by rw [plI_len, h.perm.length_eq]; omega)
      have er : sortI (plI f.lets G.flatten) = (List.range f.lets.length).map fun (k : Nat) => (k : Int) := by
        refine (sortI_eq ?_ ?_).symm
        · have h3 := (h.perm.map (plc f.lets)).symm
          rw [plc_map nd] at h3
          have := h3.map fun (k : Nat) => (k : Int)
          simpa [Function.comp_def, plI] using this
        · rw [List.pairwise_map]
          exact List.pairwise_le_range.imp fun h => by omega
      rw [er] at so2
      generalize hrr : ((List.range f.lets.length).map fun (k : Nat) => (k : Int)) = rr at so2
      have smr : Sm rr := by
        subst hrr
        refine ⟨fun x hx => ?_, by rw [List.length_map, List.length_range]; omega⟩
        obtain ⟨k, hk, rfl⟩ := List.mem_map.mp hx
        rw [List.mem_range] at hk
        omega
      have eq2 := eq_lstI smr smr
      simp only [decide_true] at eq2
      have e1 : (G.map fun g => D.py (.int (plc f.lets (hd0 g) : Nat))) = ((plI f.lets (G.map hd0)).map PyData.int).map D.py := by simp [plI]
      have e2 : rngV 0 f.ls.length = (rr.map PyData.int).map D.py := by
        subst hrr
        simp [rngV]
      rw [e1]
      have lo : listsOf (List.map (fun g => lstI (plI f.lets g)) G) = some ((G.map fun g => plI f.lets g).map fun r => r.map PyData.int) := by
        show listsOf (List.map (lstI ∘ fun g => plI f.lets g) G) = _
        rw [← List.map_map]
        exact listsOf_map _
      have fl2 : (((G.map fun g => plI f.lets g).map fun r => r.map PyData.int).map (List.map D.py)).flatten = ((plI f.lets G.flatten).map PyData.int).map D.py := by rw [← fl, List.map_flatten]
      have fl3 : ((((G.map fun g => plI f.lets g).map fun r => r.map PyData.int)).map List.length).sum = f.lets.length := by rw [← List.length_flatten, fl, List.length_map, plI_len, h.perm.length_eq]
      simp only [pysOf_map, wp_ok]
      refine ⟨_, lo, ?_, ?_⟩
      · rw [fl3, sl_big]
        omega
      · rw [fl2]
        simp [so2, so, eq, e2, eq2]
        exact ⟨by omega, .app, rfl⟩
end DV

set_option maxHeartbeats 4000000
namespace DV
open PySem
/-! Tables: what they tell. -/
inductive Ky where
  | l (c : Nat)
  | n (i : Nat)
  deriving DecidableEq
def encK : Ky → PyData
  | .l c => lt c
  | .n i => .int i
abbrev Exc := Ky × Ky × Int
abbrev encE (e : Exc) : PyData := .tuple [encK e.1, encK e.2.1, .int e.2.2]
theorem eq_key (a b : Ky) (S : Sto) : eqD (.py (encK a)) (.py (encK b)) S = .ok (.py (.bool (decide (a = b)))) S := by
  cases a <;> cases b <;> simp [encK, eqD, eqB, flatD, Int.ofNat_inj]
@[simp] theorem eq_kk (a b : Ky) (S : Sto) : eqD (.py (encK a)) (.py (encK b)) S = .ok (.py (.bool (decide (a = b)))) S := eq_key a b S
theorem eq_kl (a : Ky) (c : Nat) (S : Sto) : eqD (.py (encK a)) (.py (lt c)) S = .ok (.py (.bool (decide (a = .l c)))) S := eq_key a (.l c) S
theorem eq_kn (a : Ky) (i : Nat) (S : Sto) : eqD (.py (encK a)) (.py (.int i)) S = .ok (.py (.bool (decide (a = .n i)))) S := eq_key a (.n i) S
structure Tab where
  lefts : List (List Nat)
  rights : List (List Nat)
  gaps : List (List Int)
  exc : List Exc
abbrev Tab.py (t : Tab) : PyData := .tuple [encG t.lefts, encG t.rights, encU t.gaps, .tuple (t.exc.map encE)]
def clsIn (G : List (List Nat)) (c : Nat) : Nat := G.findIdx fun g => decide (c ∈ g)
theorem clsIn_find {G : List (List Nat)} {c : Nat} (h : ∃ g ∈ G, c ∈ g) : G.findIdx? (fun g => decide (c ∈ g)) = some (clsIn G c) := by
  obtain ⟨g, hg, hc⟩ := h
  rw [List.findIdx?_eq_some_iff_findIdx_eq]
  exact ⟨List.findIdx_lt_length_of_exists ⟨g, hg, by simpa using hc⟩, rfl⟩
theorem clsIn_lt {G : List (List Nat)} {c : Nat} (h : ∃ g ∈ G, c ∈ g) : clsIn G c < G.length := by
  obtain ⟨g, hg, hc⟩ := h
  exact List.findIdx_lt_length_of_exists ⟨g, hg, by simpa using hc⟩
theorem IsPart.has {L : List Nat} {G : List (List Nat)} (h : IsPart L G) {c : Nat} (hc : c ∈ L) : ∃ g ∈ G, c ∈ g := List.mem_flatten.mp (h.perm.mem_iff.mpr hc)
theorem in_tup {g : List Nat} (c : Nat) (S : Sto) : inD (.py (lt c)) (.py (.tuple (g.map lt))) S = .ok (.py (.bool (decide (c ∈ g)))) S := by
  have h1 : deep S 8 (.py (lt c)) = some (lt c) := rfl
  have h2 : deep S 8 (.py (.tuple (g.map lt))) = some (.tuple (g.map lt)) := rfl
  simp only [inD, inS, h1, h2, inB]
  have h3 : (g.map lt).all isFlat = true := by
    rw [List.all_eq_true]
    intro d hd
    obtain ⟨c, _, rfl⟩ := List.mem_map.mp hd
    rfl
  rw [if_pos ⟨rfl, h3⟩]
  have h4 : ((g.map lt).any fun z => PyData.eqv z (lt c)) = decide (c ∈ g) := by
    rw [List.any_map]
    simp only [Function.comp_def, eqv_lt]
    by_cases h : c ∈ g
    · rw [decide_eq_true h, List.any_eq_true]
      exact ⟨c, h, by simp⟩
    · rw [decide_eq_false h, List.any_eq_false]
      intro x hx
      simp
      exact fun e => h (e ▸ hx)
  rw [h4]
theorem fit_bools {bs : List Bool} (h : bs.length ≤ 2000) : Fit (.list (bs.map .bool)) 1 2000 := (Fit.listN (k := 0) (w := 0) (m := 2000) (fun d hd => by
    obtain ⟨b, _, rfl⟩ := List.mem_map.mp hd
    exact Fit.bool b) (by simpa using h)).mono (by decide) (by decide)
theorem index_true {bs : List Bool} {j : Nat} (hl : bs.length ≤ 2000) (h : bs.findIdx? id = some j) (S : Sto) : indexD (.py (.list (bs.map .bool))) [.py (.bool true)] S = .ok (.py (.int (j : Nat))) S := by
  have h1 : deep S 8 (.py (.list (bs.map .bool))) = some (.list (bs.map .bool)) := rfl
  have h2 : deep S 8 (.py (.bool true)) = some (.bool true) := rfl
  have h3 : placeOf (bs.map PyData.bool) (.bool true) = some j := by
    unfold placeOf
    rw [List.findIdx?_map, ← h]
    congr 1
    funext b
    cases b <;> rfl
  simp only [indexD, h1, h2, h3]
  rw [if_pos ⟨(fit_bools hl).shaped (by decide), (Fit.bool true).shaped (by decide)⟩]
theorem class_in_eq {G : List (List Nat)} {c : Nat} (h : ∃ g ∈ G, c ∈ g) (hl : G.length ≤ 200) (S : Sto) : F_class_in [.py (encG G), .py (lt c)] S = .ok (.py (.int (clsIn G c : Nat))) S := by
  unfold F_class_in b_class_in
  refine fn_eq (wp_fn ?_)
  simp [init]
  refine wp_pureM1 (D.py ∘ fun g : List Nat => .tuple (g.map lt)) (fun g => D.py (.bool (decide (c ∈ g)))) (fun g _ => wp_eq (by simp [in_tup])) ?_
  have ix := index_true (bs := G.map fun g => decide (c ∈ g)) (j := clsIn G c) (by simp; omega) (by rw [List.findIdx?_map]; exact clsIn_find h)
  have e : (G.map fun g => D.py (.bool (decide (c ∈ g)))) = ((G.map fun g => decide (c ∈ g)).map PyData.bool).map D.py := by simp
  rw [e]
  simp only [pysOf_map]
  generalize (G.map fun g => decide (c ∈ g)) = bs at *
  simp [ix]
  exact ⟨.self, rfl⟩
theorem law_class_eq {G : List (List Nat)} {c : Nat} (h : ∃ g ∈ G, c ∈ g) (S : Sto) : F_law_class [.py (encG G), .py (lt c)] S = .ok (.py (.int (clsIn G c : Nat))) S := by
  unfold F_law_class b_law_class
  refine fn_eq (wp_fn ?_)
  simp [init]
  refine wp_pureM (ls := G.zipIdx) _ (fun p => decide (c ∈ p.1)) (fun p => D.py (.int (p.2 : Nat))) (fun p _ => by simp [in_tup]; exact (Decidable.em _).symm) ?_
  have hd : (G.zipIdx.filter fun p => decide (c ∈ p.1)).head? = some ((G[clsIn G c]'(clsIn_lt h)), clsIn G c) := by
    rw [List.head?_filter]
    have := clsIn_find h
    rw [List.find?_eq_some_iff_getElem]
    obtain ⟨h1, h2, h3⟩ := List.findIdx?_eq_some_iff_getElem.mp this
    refine ⟨h2, clsIn G c, by simpa using h1, by simp, fun j hj => ?_⟩
    have := h3 j hj
    simpa using this
  cases hl : (G.zipIdx.filter fun p => decide (c ∈ p.1)) with
  | nil => rw [hl] at hd; cases hd
  | cons p ps =>
    rw [hl] at hd
    cases hd
    simp
    exact ⟨.self, rfl⟩
/-! ### what is told -/
def hit (es : List Exc) (a b : Ky) : Option Int := (es.find? fun e => decide (e.1 = a ∧ e.2.1 = b)).map (·.2.2)
def toldT (t : Tab) (l r : Nat) : Int × Nat := match hit t.exc (.l l) (.l r) with
  | some g => (g, 0)
  | none => match hit t.exc (.l l) (.n (clsIn t.rights r)) with
    | some g => (g, 1)
    | none => match hit t.exc (.n (clsIn t.lefts l)) (.l r) with
      | some g => (g, 2)
      | none => ((t.gaps.getD (clsIn t.lefts l) []).getD (clsIn t.rights r) 0, 3)
abbrev encTd (p : Int × Nat) : PyData := .tuple [.int p.1, .int (p.2 : Nat)]
theorem hit_snoc_no {pre : List Exc} {x : Exc} {a b : Ky} (h : hit pre a b = none) (hx : ¬ (x.1 = a ∧ x.2.1 = b)) : hit (pre ++ [x]) a b = none := by
  unfold hit at *
  rw [Option.map_eq_none_iff] at *
  rw [List.find?_append, h]
  simpa using hx
theorem hit_at {pre post : List Exc} {x : Exc} {a b : Ky} (h : hit pre a b = none) (h1 : x.1 = a) (h2 : x.2.1 = b) : hit (pre ++ x :: post) a b = some x.2.2 := by
  unfold hit at *
  rw [Option.map_eq_none_iff] at h
  rw [List.find?_append, h]
  simp [h1, h2]
theorem told_loop {es : List Exc} {a b : Ky} {m : PyData} {s0 s1 s2 s3 s4 s5 s6 s7 s8 s12 s13 s14 : Option D} {S : Sto} {N : K}
    (h1 : ∀ g, hit es a b = some g → N.rt (.py (.tuple [.int g, m])) S) (h2 : hit es a b = none → ∀ x y z, N.nx [s0, s1, s2, s3, s4, s5, s6, s7, s8, some (.py m), some (.py (encK a)), some (.py (encK b)), x, y, z] S) :
    (forL (tupG 3 (consG (nmG 12) (consG (nmG 13) (consG (nmG 14) nilG)))) (ifS (andT (valT (opE eqD (varE 12) (varE 10))) (valT (opE eqD (varE 13) (varE 11)))) (retS (tupE (consA (varE 14) (consA (varE 9) nilA)))) passS)
      (es.map fun e => D.py (encE e)) [s0, s1, s2, s3, s4, s5, s6, s7, s8, some (.py m), some (.py (encK a)), some (.py (encK b)), s12, s13, s14] S).wp N := by
  refine wp_forM (fun e => D.py (encE e)) (fun pre σ T => T = S ∧ wipeD σ [12, 13, 14] = wipeD [s0, s1, s2, s3, s4, s5, s6, s7, s8, some (.py m), some (.py (encK a)), some (.py (encK b)), s12, s13, s14] [12, 13, 14] ∧ hit pre a b = none) ⟨rfl, rfl, rfl⟩ ?_ ?_
  · rintro pre x post σ T e ⟨rfl, hσ, hp⟩
    obtain ⟨_, _, _, rfl⟩ := slot3 hσ
    clear hσ
    simp
    by_cases e1 : x.1 = a
    · by_cases e2 : x.2.1 = b
      · simp [e1, e2]
        exact h1 _ (e ▸ hit_at hp e1 e2)
      · simp [e1, e2]
        exact hit_snoc_no hp fun h => e2 h.2
    · simp [e1]
      exact hit_snoc_no hp fun h => e1 h.1
  · rintro σ T ⟨rfl, hσ, hp⟩
    obtain ⟨_, _, _, rfl⟩ := slot3 hσ
    exact h2 hp _ _ _
structure TabOk (L : List Nat) (t : Tab) : Prop where
  lp : IsPart L t.lefts
  rp : IsPart L t.rights
  gl : t.gaps.length = t.lefts.length
  gr : ∀ r ∈ t.gaps, r.length = t.rights.length
  gb : ∀ r ∈ t.gaps, ∀ x ∈ r, -9 ≤ x ∧ x ≤ 9
theorem told_in_eq {L : List Nat} {t : Tab} (h : TabOk L t) (hL : L.length ≤ 200) {l r : Nat} (hl : l ∈ L) (hr : r ∈ L) (S : Sto) : F_told_in [.py t.py, .py (lt l), .py (lt r)] S = .ok (.py (encTd (toldT t l r))) S := by
  have hl' := h.lp.has hl
  have hr' := h.rp.has hr
  have ll := h.lp.len2
  have lr := h.rp.len2
  have c1 := class_in_eq hl' (by omega)
  have c2 := class_in_eq hr' (by omega)
  have k1 := clsIn_lt hl'
  have k2 := clsIn_lt hr'
  unfold F_told_in b_told_in
  refine fn_eq (wp_fn ?_)
  simp [init, c1, c2, pysOf]
  refine told_loop (a := .l l) (b := .l r) (fun g hg => ?_) fun h0 _ _ _ => ?_
  · simp [toldT, hg]
    exact ⟨.self, rfl⟩
  simp
  refine told_loop (a := .l l) (b := .n (clsIn t.rights r)) (fun g hg => ?_) fun h1 _ _ _ => ?_
  · simp [toldT, h0, hg]
    exact ⟨.self, rfl⟩
  simp
  refine told_loop (a := .n (clsIn t.lefts l)) (b := .l r) (fun g hg => ?_) fun h2 _ _ _ => ?_
  · simp [toldT, h0, h1, hg]
    exact ⟨.self, rfl⟩
  have k3 : clsIn t.lefts l < t.gaps.length := by rw [h.gl]; exact k1
  have k4 : clsIn t.rights r < t.gaps[clsIn t.lefts l].length := by rw [h.gr _ (List.getElem_mem k3)]; exact k2
  have i1 : ∀ T, itemD (.py (encU t.gaps)) (.py (.int (clsIn t.lefts l : Nat))) T = .ok (.py (tupI t.gaps[clsIn t.lefts l])) T := fun T => itemD_tuple _ (by simp [k3])
  have i2 : ∀ T, itemD (.py (tupI t.gaps[clsIn t.lefts l])) (.py (.int (clsIn t.rights r : Nat))) T = .ok (.py (.int t.gaps[clsIn t.lefts l][clsIn t.rights r])) T := fun T => itemD_tuple _ (by simp [k4])
  simp [i1, i2, toldT, h0, h1, h2, k3, k4]
  exact ⟨.self, rfl⟩
/-! ### the law's own look -/
def kyB (k : Ky) : Prop := match k with
  | .l c => c ≤ 122
  | .n i => i ≤ 1000
theorem fit_key {k : Ky} (h : kyB k) : Fit (encK k) 0 1 := by
  cases k with
  | l c =>
    have h : c ≤ 122 := h
    exact Fit.lt (by omega)
  | n i =>
    have h : i ≤ 1000 := h
    exact (Fit.int (by omega) (by omega)).mono (by decide) (by decide)
structure ExOk (es : List Exc) : Prop where
  len : es.length ≤ 2000
  key : ∀ e ∈ es, kyB e.1 ∧ kyB e.2.1
  gap : ∀ e ∈ es, -9 ≤ e.2.2 ∧ e.2.2 ≤ 9
theorem eqv_key (a b : Ky) : PyData.eqv (encK a) (encK b) = decide (a = b) := by
  cases a with
  | l a =>
    cases b with
    | l b =>
      refine (eqv_lt a b).trans ?_
      by_cases h : a = b <;> simp [h]
    | n b => simp [encK, PyData.eqv]
  | n a =>
    cases b with
    | l b => simp [encK, PyData.eqv]
    | n b =>
      show PyData.eqv (.int a) (.int b) = _
      rw [PyData.eqv.eq_5]
      by_cases h : a = b <;> simp [h]
      omega
theorem eq_two {a b c d : Ky} (ha : kyB a) (hb : kyB b) (hc : kyB c) (hd : kyB d) (S : Sto) : eqD (.py (.tuple [encK a, encK b])) (.py (.tuple [encK c, encK d])) S = .ok (.py (.bool (decide (a = c ∧ b = d)))) S := by
  have f2 : ∀ {a b : Ky}, kyB a → kyB b → Fit (.tuple [encK a, encK b]) 1 5 := fun ha hb => (Fit.tuple (.cons (fit_key ha) (.cons (fit_key hb) (FitL.nil (w := 0))))).mono (by decide) (by decide)
  rw [eqD_deep rfl ((f2 ha hb).shaped (by decide)) ((f2 hc hd).shaped (by decide))]
  rw [PyData.eqv.eq_8, PyData.eqvAll.eq_2, PyData.eqvAll.eq_2, PyData.eqvAll.eq_1, eqv_key, eqv_key]
  by_cases h1 : a = c <;> by_cases h2 : b = d <;> simp [h1, h2]
def Ky.isL : Ky → Bool
  | .l _ => true
  | .n _ => false
@[simp] theorem isL_l (c : Nat) : (Ky.l c).isL = true := id rfl
@[simp] theorem isL_n (c : Nat) : (Ky.n c).isL = false := id rfl
theorem isi_str (k : Ky) (S : Sto) : isiD "str" (.py (encK k)) S = .ok (.py (.bool k.isL)) S := by
  cases k <;> simp [encK, isB]
def hits (es : List Exc) (a b : Ky) : List Int := (es.filter fun e => decide (e.1 = a ∧ e.2.1 = b)).map (·.2.2)
theorem hit_hits (es : List Exc) (a b : Ky) : hit es a b = (hits es a b).head? := by
  unfold hit hits
  rw [List.head?_map, List.head?_filter]
theorem hits_sm {es : List Exc} (h : ExOk es) (a b : Ky) : Sm (hits es a b) := by
  refine ⟨fun x hx => ?_, ?_⟩
  · obtain ⟨e, he, rfl⟩ := List.mem_map.mp hx
    have := h.gap e (List.mem_filter.mp he).1
    omega
  · unfold hits
    rw [List.length_map]
    exact Nat.le_trans (List.length_filter_le _ _) h.len
theorem law_told_eq {L : List Nat} {t : Tab} (h : TabOk L t) (he : ExOk t.exc) (hL : L.length ≤ 200) (b : ∀ c ∈ L, c ≤ 122) {l r : Nat} (hl : l ∈ L) (hr : r ∈ L) (S : Sto) : F_law_told [.py t.py, .py (lt l), .py (lt r)] S = .ok (.py (encTd (toldT t l r))) S := by
  have hl' := h.lp.has hl
  have hr' := h.rp.has hr
  have ll := h.lp.len2
  have lr := h.rp.len2
  have c1 := law_class_eq hl'
  have c2 := law_class_eq hr'
  have k1 := clsIn_lt hl'
  have k2 := clsIn_lt hr'
  have k3 : clsIn t.lefts l < t.gaps.length := by rw [h.gl]; exact k1
  have k4 : clsIn t.rights r < t.gaps[clsIn t.lefts l].length := by rw [h.gr _ (List.getElem_mem k3)]; exact k2
  have i1 : ∀ T, itemD (.py (encU t.gaps)) (.py (.int (clsIn t.lefts l : Nat))) T = .ok (.py (tupI t.gaps[clsIn t.lefts l])) T := fun T => itemD_tuple _ (by simp [k3])
  have i2 : ∀ T, itemD (.py (tupI t.gaps[clsIn t.lefts l])) (.py (.int (clsIn t.rights r : Nat))) T = .ok (.py (.int t.gaps[clsIn t.lefts l][clsIn t.rights r])) T := fun T => itemD_tuple _ (by simp [k4])
  have g9 := h.gb _ (List.getElem_mem k3) _ (List.getElem_mem k4)
  have eg : (t.gaps.getD (clsIn t.lefts l) []).getD (clsIn t.rights r) 0 = t.gaps[clsIn t.lefts l][clsIn t.rights r] := by simp [k3, k4]
  unfold F_law_told b_law_told
  refine fn_eq (wp_fn ?_)
  simp [init, c1, c2, pysOf]
  refine wp_pureM (D.py ∘ encE) (fun e => decide (e.1 = .l l ∧ e.2.1 = .l r)) (fun e => D.py (.int e.2.2)) (fun e hx => ?_) ?_
  · have kb := he.key e hx
    have q : ∀ S, eqD (.py (.tuple [encK e.1, encK e.2.1])) (.py (.tuple [lt l, lt r])) S = _ := eq_two (c := .l l) (d := .l r) kb.1 kb.2 (b l hl) (b r hr)
    simp [pysOf, q]
    by_cases ha : e.1 = .l l <;> by_cases hb : e.2.1 = .l r <;> simp [ha, hb]
  have e1 : (t.exc.filter fun e => decide (e.1 = .l l ∧ e.2.1 = .l r)).map (fun e => D.py (.int e.2.2)) = ((hits t.exc (.l l) (.l r)).map PyData.int).map D.py := by simp [hits]
  have e2 : (t.exc.filter fun e => decide (e.1 = .l l ∧ e.2.1 = .n (clsIn t.rights r))).map (fun e => D.py (.int e.2.2)) = ((hits t.exc (.l l) (.n (clsIn t.rights r))).map PyData.int).map D.py := by simp [hits]
  have e3 : (t.exc.filter fun e => decide (e.1 = .n (clsIn t.lefts l) ∧ e.2.1 = .l r)).map (fun e => D.py (.int e.2.2)) = ((hits t.exc (.n (clsIn t.lefts l)) (.l r)).map PyData.int).map D.py := by simp [hits]
  have t0 := hit_hits t.exc (.l l) (.l r)
  have t1 := hit_hits t.exc (.l l) (.n (clsIn t.rights r))
  have t2 := hit_hits t.exc (.n (clsIn t.lefts l)) (.l r)
  have m0 := hits_sm he (.l l) (.l r)
  have m1 := hits_sm he (.l l) (.n (clsIn t.rights r))
  have m2 := hits_sm he (.n (clsIn t.lefts l)) (.l r)
  rw [e1]
  simp only [pysOf_map]
  generalize hits t.exc (.l l) (.l r) = x0 at *
  rw [show S ++ [O.lst [D.py (PyData.list (List.map PyData.int x0))]] = stL S [lstI x0] from rfl]
  refine wp_pureM (D.py ∘ encE) (fun e => decide (e.1 = .l l ∧ e.2.1 = .n (clsIn t.rights r))) (fun e => D.py (.int e.2.2)) (fun e hx => ?_) ?_
  · by_cases h1 : e.1 = .l l
    · by_cases h2 : e.2.1 = .n (clsIn t.rights r)
      · simp [isi_str, eq_kl, eq_kn, h1, h2]
      · simp [isi_str, eq_kl, eq_kn, h1, h2]
    · cases hz : e.1.isL <;> simp [isi_str, eq_kl, eq_kn, h1, hz]
  rw [e2]
  simp only [pysOf_map]
  generalize hits t.exc (.l l) (.n (clsIn t.rights r)) = x1 at *
  have a1 := stL_app (S := S) (ds := [lstI x0]) (d := lstI x1) (by rw [sl_big]; simp)
  rw [a1]
  simp
  refine wp_pureM (D.py ∘ encE) (fun e => decide (e.1 = .n (clsIn t.lefts l) ∧ e.2.1 = .l r)) (fun e => D.py (.int e.2.2)) (fun e hx => ?_) ?_
  · by_cases h1 : e.2.1 = .l r
    · by_cases h2 : e.1 = .n (clsIn t.lefts l)
      · simp [isi_str, eq_kl, eq_kn, h1, h2]
      · simp [isi_str, eq_kl, eq_kn, h1, h2]
    · by_cases h2 : e.1 = .n (clsIn t.lefts l) <;> cases hz : e.2.1.isL <;> simp [isi_str, eq_kl, eq_kn, h1, h2, hz]
  rw [e3]
  simp only [pysOf_map]
  generalize hits t.exc (.n (clsIn t.lefts l)) (.l r) = x2 at *
  have a2 := stL_app (S := S) (ds := [lstI x0, lstI x1]) (d := lstI x2) (by rw [sl_big]; simp)
  rw [a2]
  have a3 := fun d => stL_app (S := S) (ds := [lstI x0, lstI x1, lstI x2]) (d := d) (by rw [sl_big]; simp)
  simp [i1, i2, a3]
  refine stL_fix rfl ?_
  simp
  have mg : Sm [t.gaps[clsIn t.lefts l][clsIn t.rights r]] := ⟨by simp; omega, by simp⟩
  rw [show [D.py (lstI x0), D.py (lstI x1), D.py (lstI x2), D.py (PyData.list [PyData.int t.gaps[clsIn t.lefts l][clsIn t.rights r]])] = [x0, x1, x2, [t.gaps[clsIn t.lefts l][clsIn t.rights r]]].map fun x => D.py (lstI x) from rfl]
  refine wp_pureM1 (fun x => D.py (lstI x)) (fun x => D.py (.bool (!decide (x = [])))) (fun x hx => wp_eq ?_) ?_
  · have mx : Sm x := by
      simp at hx
      rcases hx with rfl | rfl | rfl | rfl <;> assumption
    have q : ∀ S, neD (.py (lstI x)) (.py (.list [])) S = _ := ne_lstI mx (b := []) ⟨by simp, by simp⟩
    simp [q]
  · have ix := fun j => index_true (bs := [!decide (x0 = []), !decide (x1 = []), !decide (x2 = []), true]) (j := j) (by simp)
    have it : ∀ (a b c d : PyData) T, itemD (.py (.list [a, b, c, d])) (.py (.int 0)) T = .ok (.py a) T ∧ itemD (.py (.list [a, b, c, d])) (.py (.int 1)) T = .ok (.py b) T ∧ itemD (.py (.list [a, b, c, d])) (.py (.int 2)) T = .ok (.py c) T ∧ itemD (.py (.list [a, b, c, d])) (.py (.int 3)) T = .ok (.py d) T := fun a b c d T => ⟨itemD_list 0 rfl, itemD_list 1 rfl, itemD_list 2 rfl, itemD_list 3 rfl⟩
    simp
    simp at ix
    cases x0 with
    | cons g0 r0 =>
      have := ix 0 (by simp [List.findIdx?_cons])
      simp at this
      simp [this, it, toldT, t0, item_headI]
      exact ⟨.app, rfl⟩
    | nil =>
      cases x1 with
      | cons g1 r1 =>
        have := ix 1 (by simp [List.findIdx?_cons])
        simp at this
        simp [this, it, toldT, t0, t1, item_headI]
        exact ⟨.app, rfl⟩
      | nil =>
        cases x2 with
        | cons g2 r2 =>
          have := ix 2 (by simp [List.findIdx?_cons])
          simp at this
          simp [this, it, toldT, t0, t1, t2, item_headI]
          exact ⟨.app, rfl⟩
        | nil =>
          have := ix 3 (by simp [List.findIdx?_cons])
          simp at this
          simp [this, it, toldT, t0, t1, t2, k3, k4]
          exact ⟨.app, rfl⟩
end DV

set_option maxHeartbeats 4000000
namespace DV
open PySem
/-! Tables drawn from the box; tables known. -/
theorem law_grouped_gen {L : PyData} {Ls : List Nat} {e : List Int → PyData} {M : List (List Int)} (hL : ∀ S, pyWalk S (.py L) = some (Ls.map lt)) (hlen : M.length ≤ 200)
    (hix : ∀ x ∈ M, ∀ j, M.findIdx? (fun m => decide (m = x)) = some j → ∀ S, indexD (.py (.list (M.map e))) [.py (e x)] S = .ok (.py (.int (j : Nat))) S)
    (heq : ∀ a ∈ M, ∀ b ∈ M, ∀ S, eqD (.py (e a)) (.py (e b)) S = .ok (.py (.bool (decide (a = b)))) S) (S : Sto) : F_law_grouped [.py L, .py (.list (M.map e))] S = .ok (.py (encG (groups Ls M))) S := by
  unfold F_law_grouped b_law_grouped
  refine fn_eq (wp_fn ?_)
  simp [init]
  rw [stL_nil]
  refine wp_forM _ (fun (pre : List (List Int × Nat)) σ T => wipeD σ [3, 4] = _ ∧ T = stL S (((firsts (pre.map (·.1))).map fun m => ((Ls.zip M).filter fun p => p.2 = m).map (·.1)).map fun g => PyData.tuple (g.map lt))) ⟨rfl, rfl⟩ ?_ ?_
  · rintro pre x post σ T eM ⟨hσ, rfl⟩
    obtain ⟨_, _, rfl⟩ := slot2 hσ
    clear hσ
    obtain ⟨hs, hp⟩ := zipIdx_split eM
    obtain ⟨x, i⟩ := x
    simp only at hs hp
    subst hp
    have hx : x ∈ M := by rw [hs]; simp
    have hle : (firsts (pre.map (·.1))).length ≤ 200 := by
      have h1 := firsts_len (pre.map (·.1))
      have h2 := congrArg List.length hs
      simp at h1 h2
      omega
    have hfs := firsts_snoc (pre.map (·.1)) x
    by_cases hm : x ∈ pre.map (·.1)
    · obtain ⟨j, hj, hjl⟩ := find_old (post := post.map (·.1)) hm
      rw [← hs] at hj
      have hix := hix x hx j hj
      have hjn : ¬ ((j : Int) = (pre.length : Int)) := by
        rw [List.length_map] at hjl
        omega
      have hm2 := mem_firsts.mpr hm
      rw [if_pos hm2] at hfs
      simp [hix, hjn]
      try simp at hfs
      rw [hfs]
    · have hj := find_new (post := post.map (·.1)) hm
      rw [← hs, List.length_map] at hj
      have hix := hix x hx _ hj
      have hm2 : x ∉ firsts (pre.map (·.1)) := fun z => hm (mem_firsts.mp z)
      rw [if_neg hm2] at hfs
      simp [hix, hL]
      refine wp_pureM _ (fun p : Nat × List Int => decide (p.2 = x)) (fun p => D.py (lt p.1)) (fun p hp => ?_) ?_
      · obtain ⟨i, _, h2⟩ := mem_zip_at hp
        have q := heq _ (List.mem_of_getElem? h2) x hx
        by_cases hpm : p.2 = x
        · rw [hpm] at q
          simp [q, hpm]
        · simp [q, hpm]
      · have ap := stL_app (S := S) (ds := ((firsts (pre.map (·.1))).map fun m => ((Ls.zip M).filter fun p => p.2 = m).map (·.1)).map fun g => PyData.tuple (g.map lt)) (d := .tuple ((((Ls.zip M).filter fun p => p.2 = x).map (·.1)).map lt)) (by rw [List.length_map, List.length_map, show sizeLine = 16777216 from rfl]; omega)
        try simp at hfs
        simp [hfs]
        simp at ap
        refine wp_of ap ?_
        simp
  · rintro σ T ⟨hσ, rfl⟩
    obtain ⟨_, _, rfl⟩ := slot2 hσ
    clear hσ
    simp
    exact ⟨S, .stL, rfl, by simp [groups], rfl⟩
/-- marks that are whole numbers -/
abbrev sing (ms : List Int) : List (List Int) := ms.map fun m => [m]
theorem law_grouped_int {L : PyData} {Ls : List Nat} {ms : List Int} (hL : ∀ S, pyWalk S (.py L) = some (Ls.map lt)) (hs : Sm ms) (hlen : ms.length ≤ 200) (S : Sto) : F_law_grouped [.py L, .py (lstI ms)] S = .ok (.py (encG (groups Ls (sing ms)))) S := by
  have e : lstI ms = .list ((sing ms).map fun r => .int (r.headD 0)) := by simp [Function.comp_def]
  rw [e]
  refine law_grouped_gen hL (by simpa using hlen) (fun x hx j hj S => ?_) (fun a ha b hb S => ?_) S
  · obtain ⟨m, hm, rfl⟩ := List.mem_map.mp hx
    rw [← e]
    have h1 : deep S 8 (.py (lstI ms)) = some (lstI ms) := rfl
    have h2 : deep S 8 (.py (.int m)) = some (.int m) := rfl
    have h3 : placeOf (ms.map PyData.int) (.int m) = some j := by
      unfold placeOf
      rw [List.findIdx?_map] at hj ⊢
      rw [← hj]
      congr 1
      funext k
      simp only [Function.comp_def]
      rw [PyData.eqv.eq_5]
      by_cases h : k = m <;> simp [h]
    have b := hs.bnd m hm
    show indexD (.py (lstI ms)) [.py (.int m)] S = _
    simp only [indexD, h1, h2, h3]
    rw [if_pos ⟨(fit_lstI hs.bnd hs.len).shaped (by decide), (Fit.int (by omega) (by omega)).shaped (by decide)⟩]
  · obtain ⟨m, hm, rfl⟩ := List.mem_map.mp ha
    obtain ⟨k, hk, rfl⟩ := List.mem_map.mp hb
    simp
/-! ### exceptions drawn -/
abbrev kk (e : Exc) : Ky × Ky := (e.1, e.2.1)
def cross (A B : List Ky) : List (Ky × Ky) := A.flatMap fun a => B.map fun b => (a, b)
theorem cross_snoc (A B : List Ky) (x : Ky) : cross (A ++ [x]) B = cross A B ++ B.map fun b => (x, b) := by simp [cross]
theorem cross_len (A B : List Ky) (hA : A.length ≤ 40) (hB : B.length ≤ 40) : (cross A B).length ≤ 1600 := by
  have h := flat_len (fun a => B.map fun b => (a, b)) 40 A fun _ _ => by simpa using hB
  unfold cross
  omega
def gapB (x : Int) : Prop := -9 ≤ x ∧ x ≤ 9
end DV

set_option maxHeartbeats 4000000
namespace DV
open PySem
/-! Exceptions in order; tables known. -/
def keyI (L : List Nat) : Ky × Ky → List Int
  | (.l a, .l b) => [0, plc L a, plc L b]
  | (.l a, .n j) => [1, plc L a, j]
  | (.n i, .l b) => [2, i, plc L b]
  | (.n i, .n j) => [3, i, j]
def allK (L : List Nat) (nl nr : Nat) : List (Ky × Ky) := cross (L.map .l) (L.map .l) ++ (cross (L.map .l) ((List.range nr).map .n) ++ cross ((List.range nl).map .n) (L.map .l))
theorem lex3 (k x y k' x' y' : Int) : HT.lexLt [k, x, y] [k', x', y'] = true ↔ k < k' ∨ (k = k' ∧ (x < x' ∨ (x = x' ∧ y < y'))) := by
  rw [HT.lexLt_cons]
  split
  · rename_i h
    rw [HT.lexLt_cons]
    split
    · rename_i h2
      rw [HT.lexLt_cons]
      split
      · rename_i h3
        simp [HT.lexLt_nil_nil]
        omega
      · simp
        omega
    · simp
      omega
  · simp
    omega
theorem cross_pw {α β : Type} {A : List α} {B : List β} (fa : α → Ky) (fb : β → Ky) (L : List Nat) (k : Int) (ga : α → Int) (gb : β → Int) (hA : A.Pairwise fun a b => ga a < ga b) (hB : B.Pairwise fun a b => gb a < gb b)
    (h : ∀ a b, keyI L (fa a, fb b) = [k, ga a, gb b]) : ((cross (A.map fa) (B.map fb)).map (keyI L)).Pairwise fun a b => HT.lexLt a b = true := by
  unfold cross
  rw [List.pairwise_map, List.flatMap_map, List.pairwise_flatMap]
  refine ⟨fun a ha => ?_, hA.imp fun {a a'} haa x hx y hy => ?_⟩
  · rw [List.map_map, List.pairwise_map]
    refine hB.imp fun {b b'} hbb => ?_
    simp only [Function.comp_def, h]
    rw [lex3]
    omega
  · rw [List.map_map] at hx hy
    obtain ⟨b, hb, rfl⟩ := List.mem_map.mp hx
    obtain ⟨b', hb', rfl⟩ := List.mem_map.mp hy
    simp only [Function.comp_def, h]
    rw [lex3]
    omega
theorem mem_cross {A B : List Ky} {p : Ky × Ky} (h : p ∈ cross A B) : p.1 ∈ A ∧ p.2 ∈ B := by
  unfold cross at h
  obtain ⟨a, ha, h⟩ := List.mem_flatMap.mp h
  obtain ⟨b, hb, rfl⟩ := List.mem_map.mp h
  exact ⟨ha, hb⟩
theorem plc_pw {L : List Nat} (nd : L.Nodup) : L.Pairwise fun a b => (plc L a : Int) < plc L b := by
  have := sub_srt nd (List.Sublist.refl L)
  rw [List.pairwise_map] at this
  exact this.imp fun h => by omega
theorem range_pw (n : Nat) : (List.range n).Pairwise fun (a b : Nat) => (a : Int) < (b : Int) := List.pairwise_lt_range.imp fun h => by omega
theorem allK_pw {L : List Nat} (nd : L.Nodup) (nl nr : Nat) : ((allK L nl nr).map (keyI L)).Pairwise fun a b => HT.lexLt a b = true := by
  unfold allK
  rw [List.map_append, List.map_append, List.pairwise_append, List.pairwise_append]
  have key : ∀ {A B : List Ky} {k : Int}, (∀ a ∈ A, ∀ b ∈ B, ∃ x y, keyI L (a, b) = [k, x, y]) → ∀ z ∈ (cross A B).map (keyI L), ∃ x y, z = [k, x, y] := fun hh z hz => by
    obtain ⟨p, hp, rfl⟩ := List.mem_map.mp hz
    have := mem_cross hp
    exact hh _ this.1 _ this.2
  have k0 := key (A := L.map .l) (B := L.map .l) (k := 0) fun a ha b hb => by
    obtain ⟨a, _, rfl⟩ := List.mem_map.mp ha
    obtain ⟨b, _, rfl⟩ := List.mem_map.mp hb
    exact ⟨_, _, rfl⟩
  have k1 := key (A := L.map .l) (B := (List.range nr).map .n) (k := 1) fun a ha b hb => by
    obtain ⟨a, _, rfl⟩ := List.mem_map.mp ha
    obtain ⟨b, _, rfl⟩ := List.mem_map.mp hb
    exact ⟨_, _, rfl⟩
  have k2 := key (A := (List.range nl).map .n) (B := L.map .l) (k := 2) fun a ha b hb => by
    obtain ⟨a, _, rfl⟩ := List.mem_map.mp ha
    obtain ⟨b, _, rfl⟩ := List.mem_map.mp hb
    exact ⟨_, _, rfl⟩
  refine ⟨cross_pw Ky.l Ky.l L 0 (fun a => plc L a) (fun a => plc L a) (plc_pw nd) (plc_pw nd) fun _ _ => rfl, ⟨cross_pw Ky.l Ky.n L 1 (fun a => plc L a) (fun j => j) (plc_pw nd) (range_pw nr) fun _ _ => rfl, cross_pw Ky.n Ky.l L 2 (fun j => j) (fun a => plc L a) (range_pw nl) (plc_pw nd) fun _ _ => rfl, fun x hx y hy => ?_⟩, fun x hx y hy => ?_⟩
  · obtain ⟨a, b, rfl⟩ := k1 x hx
    obtain ⟨c, d, rfl⟩ := k2 y hy
    rw [lex3]
    omega
  · obtain ⟨a, b, rfl⟩ := k0 x hx
    rcases List.mem_append.mp hy with hy | hy
    · obtain ⟨c, d, rfl⟩ := k1 y hy
      rw [lex3]
      omega
    · obtain ⟨c, d, rfl⟩ := k2 y hy
      rw [lex3]
      omega
/-- exceptions that stand in order -/
structure ExIn (L : List Nat) (nl nr : Nat) (es : List Exc) : Prop where
  sub : (es.map kk).Sublist (allK L nl nr)
  gap : ∀ e ∈ es, gapB e.2.2
theorem ExIn.srt {L : List Nat} {nl nr : Nat} {es : List Exc} (h : ExIn L nl nr es) (nd : L.Nodup) : ((es.map kk).map (keyI L)).Pairwise fun a b => HT.lexLt a b = true :=
  List.Pairwise.sublist (h.sub.map _) (allK_pw nd nl nr)
theorem ExIn.cut {L : List Nat} {nl nr : Nat} {es fs : List Exc} (h : ExIn L nl nr es) (hs : fs.Sublist es) : ExIn L nl nr fs := ⟨(hs.map _).trans h.sub, fun e he => h.gap e (hs.subset he)⟩
inductive KyIn (L : List Nat) (nl nr : Nat) : Ky × Ky → Prop
  | ll {a b : Nat} : a ∈ L → b ∈ L → KyIn L nl nr (.l a, .l b)
  | ln {a j : Nat} : a ∈ L → j < nr → KyIn L nl nr (.l a, .n j)
  | nl {i b : Nat} : i < nl → b ∈ L → KyIn L nl nr (.n i, .l b)
theorem allK_in {L : List Nat} {nl nr : Nat} {p : Ky × Ky} (h : p ∈ allK L nl nr) : KyIn L nl nr p := by
  unfold allK at h
  obtain ⟨a, b⟩ := p
  rcases List.mem_append.mp h with h | h
  · obtain ⟨h1, h2⟩ := mem_cross h
    obtain ⟨a, ha, rfl⟩ := List.mem_map.mp h1
    obtain ⟨b, hb, rfl⟩ := List.mem_map.mp h2
    exact .ll ha hb
  rcases List.mem_append.mp h with h | h
  · obtain ⟨h1, h2⟩ := mem_cross h
    obtain ⟨a, ha, rfl⟩ := List.mem_map.mp h1
    obtain ⟨b, hb, rfl⟩ := List.mem_map.mp h2
    exact .ln ha (List.mem_range.mp hb)
  · obtain ⟨h1, h2⟩ := mem_cross h
    obtain ⟨a, ha, rfl⟩ := List.mem_map.mp h1
    obtain ⟨b, hb, rfl⟩ := List.mem_map.mp h2
    exact .nl (List.mem_range.mp ha) hb
theorem ExIn.kyin {L : List Nat} {nl nr : Nat} {es : List Exc} (h : ExIn L nl nr es) {e : Exc} (he : e ∈ es) : KyIn L nl nr (kk e) := allK_in (h.sub.subset (List.mem_map.mpr ⟨e, he, rfl⟩))
theorem cross_length (A B : List Ky) : (cross A B).length = A.length * B.length := by
  unfold cross
  rw [List.length_flatMap]
  simp only [List.length_map]
  induction A with
  | nil => simp
  | cons a A ih => rw [List.map_cons, List.sum_cons, ih, List.length_cons, Nat.succ_mul, Nat.add_comm]
theorem ExIn.ok {L : List Nat} {nl nr : Nat} {es : List Exc} (h : ExIn L nl nr es) (hL : L.length ≤ 20) (hnl : nl ≤ 20) (hnr : nr ≤ 20) (b : ∀ c ∈ L, c ≤ 122) : ExOk es := by
  refine ⟨?_, fun e he => ?_, h.gap⟩
  · have h1 := h.sub.length_le
    unfold allK at h1
    simp only [List.length_append, cross_length, List.length_map, List.length_range] at h1
    have h2 : L.length * L.length ≤ 20 * 20 := Nat.mul_le_mul hL hL
    have h3 : L.length * nr ≤ 20 * 20 := Nat.mul_le_mul hL hnr
    have h4 : nl * L.length ≤ 20 * 20 := Nat.mul_le_mul hnl hL
    omega
  · have := h.kyin he
    obtain ⟨x, y, g⟩ := e
    cases this with
    | ll ha hb => exact ⟨b _ ha, b _ hb⟩
    | ln ha hb => exact ⟨b _ ha, show _ ≤ 1000 by omega⟩
    | nl ha hb => exact ⟨show _ ≤ 1000 by omega, b _ hb⟩
end DV

set_option maxHeartbeats 4000000
namespace DV
open PySem
/-! Tables drawn; tables known. -/
structure TabIn (L : List Nat) (t : Tab) : Prop where
  ok : TabOk L t
  ex : ExIn L t.lefts.length t.rights.length t.exc
/-! ### is_table -/
theorem is_gap_eq {x : Int} (h : gapB x) (S : Sto) : F_is_gap [.py (.int x)] S = .ok (.py (.bool true)) S := by
  have h : -9 ≤ x ∧ x ≤ 9 := h
  rw [is_gap_int]
  simp [h]
theorem all_true {α : Type} {l : List α} {g : α → Bool} (h : ∀ x ∈ l, g x = true) : ((l.map g).all id) = true := by
  rw [List.all_map, List.all_eq_true]
  exact h
theorem is_gaps_eq {G H : List (List Nat)} {R : List (List Int)} (h1 : R.length = G.length) (h2 : ∀ r ∈ R, r.length = H.length) (h3 : ∀ r ∈ R, ∀ x ∈ r, gapB x) (S : Sto) : F_is_gaps [.py (encG G), .py (encG H), .py (encU R)] S = .ok (.py (.bool true)) S := by
  unfold F_is_gaps b_is_gaps
  refine fn_eq (wp_fn ?_)
  have e0 : encU R = .tuple (R.map tupI) := rfl
  simp [init, isB, e0, h1]
  refine wp_forM (D.py ∘ tupI) (fun _ σ T => wipeD σ [3] = _ ∧ T = S) ⟨rfl, rfl⟩ ?_ ?_
  · rintro pre r post σ T e ⟨hσ, rfl⟩
    obtain ⟨_, rfl⟩ := slot_any hσ
    clear hσ
    have hr : r ∈ R := by rw [e]; simp
    have lr := h2 r hr
    have e1 : tupI r = .tuple (r.map .int) := rfl
    simp [isB, e1, lr]
    refine wp_pureM1 (D.py ∘ PyData.int) (fun x => D.py (.bool true)) (fun x hx => wp_eq ?_) ?_
    · simp [is_gap_eq (h3 r hr x hx)]
    · have e2 : (r.map fun x => D.py (.bool true)) = ((r.map fun _ => true).map PyData.bool).map D.py := by simp
      rw [e2, pysOf_map]
      have ag := all_true (l := r) (g := fun _ => true) fun _ _ => rfl
      simp only [allD_bools, wp_ok, ag]
      simp
  · rintro σ T ⟨hσ, rfl⟩
    obtain ⟨_, rfl⟩ := slot_any hσ
    simp
    exact ⟨.self, rfl⟩
theorem key_ll {f : Face} {G H : List (List Nat)} {a b : Nat} {g : Int} (ha : a ∈ f.lets) (hb : b ∈ f.lets) (hg : gapB g) (S : Sto) : F_key_of [.py f.py, .py (encG G), .py (encG H), .py (.tuple [lt a, lt b, .int g])] S = .ok (.py (.tuple [.int 0, .int (plc f.lets a : Nat), .int (plc f.lets b : Nat)])) S := by
  have ig := is_gap_eq hg
  have pa := place_mem ha
  have pb := place_mem hb
  unfold F_key_of b_key_of
  refine fn_eq (wp_fn ?_)
  simp [init, isB, ig, pa, pb, pysOf]
  exact ⟨.self, rfl⟩
theorem key_ln {f : Face} {G H : List (List Nat)} {a j : Nat} {g : Int} (ha : a ∈ f.lets) (hb : j < H.length) (hg : gapB g) (S : Sto) : F_key_of [.py f.py, .py (encG G), .py (encG H), .py (.tuple [lt a, .int j, .int g])] S = .ok (.py (.tuple [.int 1, .int (plc f.lets a : Nat), .int j])) S := by
  have ig := is_gap_eq hg
  have pa := place_mem ha
  have pb := place_int (f := f) j
  have z : (j : Int) ≤ (H.length : Int) - 1 := by omega
  unfold F_key_of b_key_of
  refine fn_eq (wp_fn ?_)
  simp [init, isB, ig, pa, pb, pysOf, is_from_to_int, z]
  exact ⟨.self, rfl⟩
theorem key_nl {f : Face} {G H : List (List Nat)} {i b : Nat} {g : Int} (ha : i < G.length) (hb : b ∈ f.lets) (hg : gapB g) (S : Sto) : F_key_of [.py f.py, .py (encG G), .py (encG H), .py (.tuple [.int i, lt b, .int g])] S = .ok (.py (.tuple [.int 2, .int i, .int (plc f.lets b : Nat)])) S := by
  have ig := is_gap_eq hg
  have pa := place_int (f := f) i
  have pb := place_mem hb
  have z : (i : Int) ≤ (G.length : Int) - 1 := by omega
  unfold F_key_of b_key_of
  refine fn_eq (wp_fn ?_)
  simp [init, isB, ig, pa, pb, pysOf, is_from_to_int, z]
  exact ⟨.self, rfl⟩
theorem key_of_eq {f : Face} {G H : List (List Nat)} {e : Exc} (h : KyIn f.lets G.length H.length (kk e)) (hg : gapB e.2.2) (S : Sto) : F_key_of [.py f.py, .py (encG G), .py (encG H), .py (encE e)] S = .ok (.py (tupI (keyI f.lets (kk e)))) S := by
  obtain ⟨x, y, g⟩ := e
  cases h with
  | ll ha hb => exact key_ll ha hb hg S
  | ln ha hb => exact key_ln ha hb hg S
  | nl ha hb => exact key_nl ha hb hg S
theorem cut1 {α : Type} (xs : List α) : cutP xs (some 1) none = xs.drop 1 := by
  unfold cutP
  have h1 : HT.sIx xs.length 0 (some 1) = min 1 xs.length := HT.sIx_nat xs.length 0 1
  rw [h1, HT.sIx_none]
  cases xs with
  | nil => rfl
  | cons x xs => simp
theorem zip_next {α : Type} {R : α → α → Prop} {l : List α} (h : l.Pairwise R) : ∀ p ∈ l.zip (l.drop 1), R p.1 p.2 := by
  intro p hp
  obtain ⟨i, h1, h2⟩ := mem_zip_at hp
  rw [List.getElem?_drop] at h2
  obtain ⟨k1, e1⟩ := List.getElem?_eq_some_iff.mp h1
  obtain ⟨k2, e2⟩ := List.getElem?_eq_some_iff.mp h2
  rw [← e1, ← e2]
  exact List.pairwise_iff_getElem.mp h i (1 + i) k1 k2 (by omega)
theorem none_notin_tups {R : List (List Int)} (h : ∀ r ∈ R, Sm r) (hl : R.length ≤ 2000) (S : Sto) : notInD (.py .none) (.py (.list (R.map tupI))) S = .ok (.py (.bool true)) S := by
  have h1 : deep S 8 (.py .none) = some .none := rfl
  have h2 : deep S 8 (.py (.list (R.map tupI))) = some (.list (R.map tupI)) := rfl
  have hf : Fit (.list (R.map tupI)) 2 (2000 * 2001) := (Fit.listN (k := 1) (w := 2000) (m := 2000) (fun d hd => by
    obtain ⟨r, hr, rfl⟩ := List.mem_map.mp hd
    exact fit_tupI (h r hr).bnd (h r hr).len) (by simpa using hl))
  simp only [notInD, inS, h1, h2, inB]
  rw [if_pos ⟨Fit.none.shaped (by decide), hf.shaped (by decide)⟩]
  have : ((R.map tupI).any fun z => PyData.eqv z .none) = false := by
    rw [List.any_eq_false]
    intro d hd
    obtain ⟨x, _, rfl⟩ := List.mem_map.mp hd
    simp [PyData.eqv]
  rw [this]
  rfl
theorem ltD_tupI (a b : List Int) (S : Sto) : ltD (.py (tupI a)) (.py (tupI b)) S = .ok (.py (.bool (HT.lexLt a b))) S := by simp only [ltD, intsOf_map]
@[simp] theorem wp_sliceL (a : Ex) (lo hi : Px) {σ : En} {S : Sto} {P : List D → Sto → Prop} {E : Str → Sto → Prop} : (sliceL a lo hi σ S).wp P E = (a σ S).wp (fun x S1 => (lo σ S1).wp (fun l S2 => (hi σ S2).wp (fun h S3 => (match seqOf S3 x with
    | some ds => (match x with
      | .py (.tuple _) => R.no
      | _ => if ds.length ≤ sizeLine then .ok (cutP ds l h) S3 else .no)
    | none => .no).wp P E) E) E) E := by
  unfold sliceL
  rw [wp_bind]
  congr 1
  funext x S1
  rw [wp_bind]
  congr 1
  funext l S2
  rw [wp_bind]
  try rfl
@[simp] theorem wp_noP {σ : En} {S : Sto} {P : Option Int → Sto → Prop} {E : Str → Sto → Prop} : (noP σ S).wp P E = P none S := id rfl
@[simp] theorem wp_someP (a : Ex) {σ : En} {S : Sto} {P : Option Int → Sto → Prop} {E : Str → Sto → Prop} : (someP a σ S).wp P E = (a σ S).wp (fun d S1 => ∃ i, d = .py (.int i) ∧ P (some i) S1) E := by
  unfold someP
  rw [wp_bind]
  congr 1
  funext d S1
  split
  · exact propext ⟨fun h => ⟨_, rfl, h⟩, fun ⟨k, e, h⟩ => by cases e; exact h⟩
  · rename_i hn
    exact propext ⟨fun h => h.elim, fun ⟨k, e, h⟩ => (hn k e).elim⟩
theorem are_exceptions_eq {f : Face} {G H : List (List Nat)} {es : List Exc} (h : ExIn f.lets G.length H.length es) (ho : ExOk es) (nd : f.lets.Nodup) (hL : f.ls.length ≤ 100) (hG : G.length ≤ 100) (hH : H.length ≤ 100) (S : Sto) : F_are_exceptions [.py f.py, .py (encG G), .py (encG H), .py (.tuple (es.map encE))] S = .ok (.py (.bool true)) S := by
  unfold F_are_exceptions b_are_exceptions
  refine fn_eq (wp_fn ?_)
  simp [init, isB]
  refine wp_pureM1 (D.py ∘ encE) (fun e => D.py (tupI (keyI f.lets (kk e)))) (fun e he => wp_eq (by simp [key_of_eq (h.kyin he) (h.gap e he)])) ?_
  have ek : (es.map fun e => D.py (tupI (keyI f.lets (kk e)))) = (((es.map kk).map (keyI f.lets)).map tupI).map D.py := by simp
  have srt := h.srt nd
  have sm : ∀ r ∈ (es.map kk).map (keyI f.lets), Sm r := fun r hr => by
    obtain ⟨p, hp, rfl⟩ := List.mem_map.mp hr
    obtain ⟨e, he, rfl⟩ := List.mem_map.mp hp
    have hk := h.kyin he
    have pl : ∀ {c : Nat}, c ∈ f.lets → plc f.lets c ≤ 100 := fun hc => by
      have := plc_lt hc
      simp at this
      omega
    generalize kk e = q at hk
    cases hk with
    | ll ha hb =>
      have := pl ha
      have := pl hb
      exact ⟨by simp [keyI]; omega, by simp [keyI]⟩
    | ln ha hb =>
      have := pl ha
      exact ⟨by simp [keyI]; omega, by simp [keyI]⟩
    | nl ha hb =>
      have := pl hb
      exact ⟨by simp [keyI]; omega, by simp [keyI]⟩
  have hl : ((es.map kk).map (keyI f.lets)).length ≤ 2000 := by simpa using ho.len
  rw [ek, pysOf_map]
  generalize (es.map kk).map (keyI f.lets) = ks at *
  have nn := none_notin_tups sm hl
  have ls : ks.length ≤ sizeLine := by rw [sl_big]; omega
  simp [nn, seqOf, ls]
  have zm : ∀ (A B : List (List Int)), ((A.map tupI).zip (B.map tupI)).map (fun p => D.py (.tuple [p.1, p.2])) = (A.zip B).map fun p => D.py (.tuple [tupI p.1, tupI p.2]) := fun A B => zip_mm tupI tupI A B
  have c1 : cutP (List.map (D.py ∘ tupI) ks) (some 1) none = ((ks.drop 1).map tupI).map D.py := by rw [cut1, List.map_drop, List.map_drop, List.map_map]
  rw [c1, pysOf_map]
  simp only
  rw [zm]
  refine wp_pureM (fun p : List Int × List Int => D.py (.tuple [tupI p.1, tupI p.2])) (fun _ => true) (fun _ => D.py (.bool true)) (fun p hp => ?_) ?_
  · have q := ltD_tupI p.1 p.2
    rw [zip_next srt p hp] at q
    simp [q]
  · rw [List.filter_eq_self.mpr fun _ _ => rfl]
    have e2 : ((ks.zip (ks.drop 1)).map fun _ => D.py (.bool true)) = (((ks.zip (ks.drop 1)).map fun _ => true).map PyData.bool).map D.py := by simp
    have ag := all_true (l := ks.zip (ks.drop 1)) (g := fun _ => true) fun _ _ => rfl
    rw [e2, pysOf_map]
    simp only [allD_bools, wp_ok, ag]
    exact ⟨S, .self, rfl, trivial, rfl⟩
theorem TabIn.exok {f : Face} {t : Tab} (h : TabIn f.lets t) (h1 : f.ls.length ≤ 20) (b : ∀ c ∈ f.lets, c ≤ 122) : ExOk t.exc := by
  have l1 := h.ok.lp.len2
  have l2 := h.ok.rp.len2
  simp at l1 l2
  exact h.ex.ok (by simp; omega) (by omega) (by omega) b
theorem is_table_eq {f : Face} {t : Tab} (h : TabIn f.lets t) (nd : f.lets.Nodup) (b : ∀ c ∈ f.lets, c ≤ 122) (h1 : f.ls.length ≤ 20) (S : Sto) : F_is_table [.py f.py, .py t.py] S = .ok (.py (.bool true)) S := by
  have l1 := h.ok.lp.len2
  have l2 := h.ok.rp.len2
  simp at l1 l2
  have e1 := is_parting_eq h.ok.lp nd b (by omega)
  have e2 := is_parting_eq h.ok.rp nd b (by omega)
  have e3 := is_gaps_eq h.ok.gl h.ok.gr h.ok.gb
  have e4 := are_exceptions_eq h.ex (h.exok h1 b) nd (by omega) (by omega) (by omega)
  have i2 : ∀ T, itemD (.py t.py) (.py (.int 2)) T = .ok (.py (encU t.gaps)) T := fun T => itemD_tuple 2 rfl
  have i3 : ∀ T, itemD (.py t.py) (.py (.int 3)) T = .ok (.py (.tuple (t.exc.map encE))) T := fun T => itemD_tuple 3 rfl
  unfold F_is_table b_is_table
  refine fn_eq (wp_fn ?_)
  simp [init, isB, e1, e2, i2, i3, e3, e4]
  exact ⟨.self, rfl⟩
theorem need_table_eq {f : Face} {t : Tab} (h : TabIn f.lets t) (nd : f.lets.Nodup) (b : ∀ c ∈ f.lets, c ≤ 122) (h1 : f.ls.length ≤ 20) (S : Sto) : F_need_table [.py f.py, .py t.py] S = .ok (.py .none) S := by
  have e1 := is_table_eq h nd b h1
  unfold F_need_table b_need_table
  refine fn_eq (wp_fn ?_)
  simp [init, e1]
  exact .self
/-! ### what is told -/
theorem need_letter_at {f : Face} {c : Nat} (h : c ∈ f.lets) (S : Sto) : F_need_letter [.py f.py, .py (lt c)] S = .ok (.py (.int (plc f.lets c : Nat))) S := by
  have e := place_mem h
  unfold F_need_letter b_need_letter
  refine fn_eq (wp_fn ?_)
  simp [init, e]
  exact ⟨.self, rfl⟩
theorem gap_by_eq {f : Face} {t : Tab} (h : TabIn f.lets t) (nd : f.lets.Nodup) (b : ∀ c ∈ f.lets, c ≤ 122) (h1 : f.ls.length ≤ 20) {l r : Nat} (hl : l ∈ f.lets) (hr : r ∈ f.lets) (S : Sto) : F_gap_by [.py f.py, .py t.py, .py (lt l), .py (lt r)] S = .ok (.py (.int (toldT t l r).1)) S := by
  have e1 := need_table_eq h nd b h1
  have e2 := need_letter_at hl
  have e3 := need_letter_at hr
  have e4 := told_in_eq h.ok (by simp; omega) hl hr
  unfold F_gap_by b_gap_by
  refine fn_eq (wp_fn ?_)
  simp [init, e1, e2, e3, e4]
  exact ⟨.self, rfl⟩
theorem told_by_eq {f : Face} {t : Tab} (h : TabIn f.lets t) (nd : f.lets.Nodup) (b : ∀ c ∈ f.lets, c ≤ 122) (h1 : f.ls.length ≤ 20) {l r : Nat} (hl : l ∈ f.lets) (hr : r ∈ f.lets) (S : Sto) : F_told_by [.py f.py, .py t.py, .py (lt l), .py (lt r)] S = .ok (.py (.int ((toldT t l r).2 : Nat))) S := by
  have e1 := need_table_eq h nd b h1
  have e2 := need_letter_at hl
  have e3 := need_letter_at hr
  have e4 := told_in_eq h.ok (by simp; omega) hl hr
  unfold F_told_by b_told_by
  refine fn_eq (wp_fn ?_)
  simp [init, e1, e2, e3, e4]
  exact ⟨.self, rfl⟩
def toldR (f : Face) (t : Tab) : List (List Int) := f.lets.map fun l => f.lets.map fun r => (toldT t l r).1
theorem listed_eq {f : Face} {t : Tab} (h : TabOk f.lets t) (h1 : f.ls.length ≤ 200) (S : Sto) : F_listed [.py f.py, .py t.py] S = .ok (.py (encP (mlist f.lets (toldR f t)))) S := by
  unfold F_listed b_listed
  refine fn_eq (wp_fn ?_)
  simp [init, letters_of_eq]
  refine wp_pureM1 (D.py ∘ lt) (fun l => D.py (lstI (f.lets.map fun r => (toldT t l r).1))) (fun l hl => wp_eq ?_) ?_
  · simp
    refine wp_pureM1 (D.py ∘ lt) (fun r => D.py (.int (toldT t l r).1)) (fun r hr => wp_eq (by simp [told_in_eq h (by simp; omega) hl hr])) ?_
    simp [Function.comp_def]
  · have e : (f.lets.map fun l => D.py (lstI (f.lets.map fun r => (toldT t l r).1))) = ((toldR f t).map lstI).map .py := by simp [toldR]
    rw [e]
    have fr := from_rows_eq f (toldR f t) S h1
    simp only [pysOf_map]
    generalize toldR f t = R at *
    refine wp_of fr ⟨S, .self, rfl, rfl, rfl⟩
theorem list_by_eq {f : Face} {t : Tab} (h : TabIn f.lets t) (nd : f.lets.Nodup) (b : ∀ c ∈ f.lets, c ≤ 122) (h1 : f.ls.length ≤ 20) (S : Sto) : F_list_by [.py f.py, .py t.py] S = .ok (.py (encP (mlist f.lets (toldR f t)))) S := by
  have e1 := need_table_eq h nd b h1
  have e2 := listed_eq h.ok (by omega)
  unfold F_list_by b_list_by
  refine fn_eq (wp_fn ?_)
  simp [init, e1, e2]
  exact ⟨.self, rfl⟩
end DV

set_option maxHeartbeats 4000000
namespace DV
open PySem
/-! The gaps of two classes. -/
/-- how many of some values have not the one that most have -/
def needV (vs : List Int) : Int := (vs.length : Int) - maxI (vs.map fun v => ((vs.count v : Nat) : Int))
def valsP (P : List Pair) (g h : List Nat) : List Int := g.flatMap fun a => h.map fun b => gapIn P a b
def needR (P : List Pair) (H : List (List Nat)) (g : List Nat) : Int := (H.map fun h => needV (valsP P g h)).sum
def needS (P : List Pair) (G H : List (List Nat)) : Int := (G.map (needR P H)).sum
structure Sml (G : List (List Nat)) : Prop where
  few : G.length ≤ 10
  row : ∀ g ∈ G, g.length ≤ 10
  ne : ∀ g ∈ G, g ≠ []
  lts : ∀ g ∈ G, ∀ c ∈ g, c ≤ 122
end DV

set_option maxHeartbeats 4000000
namespace DV
open PySem
/-! All partings, as rows of class numbers. -/
abbrev e1 (r : List Int) : PyData := .int (r.headD 0)
end DV

set_option maxHeartbeats 4000000
namespace DV
open PySem
/-! Texts, and how wide they are. -/
abbrev tx (l : List Nat) : PyData := .str ⟨l.toArray⟩
theorem sl_big' : sizeLine = 16777216 := rfl
@[simp ↓] theorem wp_txt (e : Ex) {σ : En} {S : Sto} {P : List D → Sto → Prop} {E : Str → Sto → Prop} : (txtI e σ S).wp P E = (e σ S).wp (fun d S1 => ∃ x, d = .py (.str x) ∧ x.length ≤ 16777216 ∧ P (x.cps.toList.map fun c => D.py (.str ⟨#[c]⟩)) S1) E := by
  unfold txtI
  rw [wp_bind]
  congr 1
  funext d S1
  split
  · rw [wp_iteR]
    split
    · rename_i h
      exact propext ⟨fun p => ⟨_, rfl, h, p⟩, fun ⟨j, e, _, p⟩ => by cases e; exact p⟩
    · rename_i h
      exact propext ⟨fun p => p.elim, fun ⟨j, e, h', p⟩ => by cases e; exact h h'⟩
  · rename_i hn
    exact propext ⟨fun h => h.elim, fun ⟨k, e, _, h⟩ => (hn k e).elim⟩
/-! ### signs -/
def Face.has (f : Face) (c : Nat) : Prop := c = 32 ∨ c ∈ f.lets
def sw (f : Face) (c : Nat) : Int := if c = 32 then f.w else ((f.ls.find? fun p => decide (p.1 = c)).map (·.2)).getD 0
def bt (P : List Pair) (a b : Nat) : Int := if a = 32 ∨ b = 32 then 0 else gapIn P a b
theorem blank_str : Str.ofString " " = ⟨#[32]⟩ := by decide +kernel
@[simp] theorem str_blank (c : Nat) : ((⟨#[c]⟩ : Str) = Str.ofString " ") = (c = 32) := by
  rw [blank_str]
  simp
def wd (f : Face) (P : List Pair) (l : List Nat) : Int := (l.map (sw f)).sum + ((l.zip (l.drop 1)).map fun p => bt P p.1 p.2).sum
end DV

set_option maxHeartbeats 4000000
namespace DV
open PySem
theorem part_fit {L : List Nat} {G : List (List Nat)} (h : IsPart L G) (hL : L.length ≤ 20) (b : ∀ c ∈ L, c ≤ 122) : Fit (encG G) 2 8100 := by
  have l2 := h.len2
  refine (Fit.tupleN (k := 1) (w := 400) (m := 20) (fun d hd => ?_) (by simp; omega)).mono (by decide) (by decide)
  obtain ⟨g, hg, rfl⟩ := List.mem_map.mp hd
  have l1 := h.len1 hg
  exact fit_lts (fun c hc => b c (h.mem g hg c hc)) (by omega)
theorem gaps_fit {R : List (List Int)} (h : ∀ r ∈ R, ∀ x ∈ r, gapB x) (hl : R.length ≤ 20) (hr : ∀ r ∈ R, r.length ≤ 20) : Fit (encU R) 2 40100 := by
  refine (Fit.tupleN (k := 1) (w := 2000) (m := 20) (fun d hd => ?_) (by simp; omega)).mono (by decide) (by decide)
  obtain ⟨r, hr', rfl⟩ := List.mem_map.mp hd
  exact fit_tupI (fun x hx => by have : -9 ≤ x ∧ x ≤ 9 := h r hr' x hx; omega) (by have := hr r hr'; omega)
theorem exc_fit {es : List Exc} (h : ExOk es) : Fit (.tuple (es.map encE)) 2 14000 := by
  refine (Fit.tupleN (k := 1) (w := 6) (m := 2000) (fun d hd => ?_) (by simpa using h.len)).mono (by decide) (by decide)
  obtain ⟨e, he, rfl⟩ := List.mem_map.mp hd
  have k := h.key e he
  have g : -9 ≤ e.2.2 ∧ e.2.2 ≤ 9 := h.gap e he
  exact (Fit.tuple (.cons (fit_key k.1) (.cons (fit_key k.2) (.cons ((Fit.int (by omega) (by omega)).mono (by decide) (Nat.zero_le 1)) (FitL.nil (w := 0)))))).mono (by decide) (by decide)
theorem tab_py_fit {f : Face} {t : Tab} (h : TabIn f.lets t) (h1 : f.ls.length ≤ 20) (b : ∀ c ∈ f.lets, c ≤ 122) : Fit t.py 3 80000 := by
  have l1 := h.ok.lp.len2
  have l2 := h.ok.rp.len2
  simp at l1 l2
  have f1 := part_fit h.ok.lp (by simpa using h1) b
  have f2 := part_fit h.ok.rp (by simpa using h1) b
  have f3 := gaps_fit h.ok.gb (by rw [h.ok.gl]; omega) (fun r hr => by rw [h.ok.gr r hr]; omega)
  have f4 := exc_fit (h.exok h1 b)
  exact (Fit.tuple (.cons f1 (.cons f2 (.cons f3 (.cons f4 (FitL.nil (w := 0))))))).mono (by decide) (by decide)
theorem hit_bnd {es : List Exc} (h : ∀ e ∈ es, gapB e.2.2) {a b : Ky} {g : Int} (hg : hit es a b = some g) : gapB g := by
  unfold hit at hg
  rw [Option.map_eq_some_iff] at hg
  obtain ⟨e, he, rfl⟩ := hg
  exact h e (List.mem_of_find?_eq_some he)
theorem told_bnd {L : List Nat} {t : Tab} (h : TabIn L t) (l r : Nat) : gapB (toldT t l r).1 ∧ (toldT t l r).2 ≤ 3 := by
  unfold toldT
  split
  · rename_i g hg
    exact ⟨hit_bnd h.ex.gap hg, by simp⟩
  · split
    · rename_i g hg
      exact ⟨hit_bnd h.ex.gap hg, by simp⟩
    · split
      · rename_i g hg
        exact ⟨hit_bnd h.ex.gap hg, by simp⟩
      · refine ⟨?_, by simp⟩
        simp only [List.getD_eq_getElem?_getD]
        cases h1 : t.gaps[clsIn t.lefts l]? with
        | none => simp [gapB]
        | some row =>
          simp only [Option.getD_some]
          cases h2 : row[clsIn t.rights r]? with
          | none => simp [gapB]
          | some x => exact h.ok.gb row (List.mem_of_getElem? h1) x (List.mem_of_getElem? h2)
end DV

set_option maxHeartbeats 4000000
namespace DV
open PySem
/-! The first pair unlike. -/
def optLL : Option (Nat × Nat) → PyData
  | some p => encLL p
  | none => .none
theorem toldR_rows {f : Face} {t : Tab} (h : TabIn f.lets t) : Rows (toldR f t) f.ls.length := by
  refine ⟨by simp [toldR], fun r hr => ?_, fun r hr x hx => ?_⟩
  · obtain ⟨l, _, rfl⟩ := List.mem_map.mp hr
    simp
  · obtain ⟨l, _, rfl⟩ := List.mem_map.mp hr
    obtain ⟨r, _, rfl⟩ := List.mem_map.mp hx
    exact (told_bnd h l r).1
theorem told_gap {f : Face} {t : Tab} (nd : f.lets.Nodup) {l r : Nat} (hl : l ∈ f.lets) (hr : r ∈ f.lets) : gapIn (mlist f.lets (toldR f t)) l r = (toldT t l r).1 := by
  obtain ⟨i, hi⟩ := List.getElem?_of_mem hl
  obtain ⟨j, hj⟩ := List.getElem?_of_mem hr
  exact gap_mlist nd hi (row := f.lets.map fun r => (toldT t l r).1) (by simp [toldR, hi]) hj (by simp [hj])
theorem first_unlike_eq {f : Face} {t : Tab} {P : List Pair} (h : TabIn f.lets t) (nd : f.lets.Nodup) (b : ∀ c ∈ f.lets, c ≤ 122) (h1 : f.ls.length ≤ 20) (S : Sto) :
    F_first_unlike [.py f.py, .py (encP P), .py t.py] S = .ok (.py (optLL ((allP f.lets f.lets).find? fun p => !decide (gapIn P p.1 p.2 = (toldT t p.1 p.2).1)))) S := by
  have e1 := need_table_eq h nd b h1
  unfold F_first_unlike b_first_unlike
  refine fn_eq (wp_fn ?_)
  simp [init, e1, all_pairs_eq f _ (by omega : f.ls.length ≤ 200)]
  refine wp_forM (D.py ∘ encLL) (fun pre σ T => wipeD σ [3, 4] = _ ∧ T = S ∧ ∀ p ∈ pre, gapIn P p.1 p.2 = (toldT t p.1 p.2).1) ⟨rfl, rfl, by simp⟩ ?_ ?_
  · rintro pre x post σ T e ⟨hσ, rfl, hp⟩
    obtain ⟨_, _, rfl⟩ := slot2 hσ
    clear hσ
    have hx : x ∈ allP f.lets f.lets := by rw [e]; simp
    unfold allP at hx
    obtain ⟨l, hl, hx⟩ := List.mem_flatMap.mp hx
    obtain ⟨r, hr, rfl⟩ := List.mem_map.mp hx
    have e4 := told_in_eq h.ok (by simp; omega) hl hr
    by_cases hg : gapIn P l r = (toldT t l r).1
    · have hp' : ∀ p ∈ pre ++ [(l, r)], gapIn P p.1 p.2 = (toldT t p.1 p.2).1 := fun p hq => by
        rw [List.mem_append, List.mem_singleton] at hq
        rcases hq with hq | rfl
        · exact hp p hq
        · exact hg
      generalize hz : (∀ p ∈ pre ++ [(l, r)], gapIn P p.1 p.2 = (toldT t p.1 p.2).1) = Z at hp' ⊢
      simp [gap_in_eq, e4, hg]
      exact hp'
    · have hf : (allP f.lets f.lets).find? (fun p => !decide (gapIn P p.1 p.2 = (toldT t p.1 p.2).1)) = some (l, r) := by
        rw [e, List.find?_append, List.find?_eq_none.mpr fun p hq => by simp [hp p hq]]
        simp [hg]
      simp [gap_in_eq, e4, hg, pysOf, hf, optLL]
      exact ⟨.self, rfl⟩
  · rintro σ T ⟨hσ, rfl, hp⟩
    obtain ⟨_, _, rfl⟩ := slot2 hσ
    have hf : (allP f.lets f.lets).find? (fun p => !decide (gapIn P p.1 p.2 = (toldT t p.1 p.2).1)) = none := by
      rw [List.find?_eq_none]
      intro p hq
      simp [hp p hq]
    simp [hf, optLL]
    exact ⟨.self, rfl⟩
end DV

set_option maxHeartbeats 4000000
namespace DV
open PySem
end DV

set_option maxHeartbeats 4000000
namespace DV
open PySem
/-! Idle exceptions: the plain theory. -/
def tl (t : Tab) (es : List Exc) (l r : Nat) : Int := (hit es (.l l) (.l r)).getD ((hit es (.l l) (.n (clsIn t.rights r))).getD ((hit es (.n (clsIn t.lefts l)) (.l r)).getD ((t.gaps.getD (clsIn t.lefts l) []).getD (clsIn t.rights r) 0)))
theorem hit_app (A B : List Exc) (a b : Ky) : hit (A ++ B) a b = (hit A a b).or (hit B a b) := by
  unfold hit
  rw [List.find?_append]
  cases A.find? (fun e => decide (e.1 = a ∧ e.2.1 = b)) <;> rfl
theorem hit_cons (x : Exc) (B : List Exc) (a b : Ky) : hit (x :: B) a b = if kk x = (a, b) then some x.2.2 else hit B a b := by
  unfold hit
  rw [List.find?_cons]
  by_cases h : x.1 = a ∧ x.2.1 = b
  · simp [h, kk]
  · have : ¬ kk x = (a, b) := fun e => h ⟨congrArg Prod.fst e, congrArg Prod.snd e⟩
    simp [h, this]
theorem hit_none {A : List Exc} {a b : Ky} : hit A a b = none ↔ ∀ e ∈ A, kk e ≠ (a, b) := by
  unfold hit
  rw [Option.map_eq_none_iff, List.find?_eq_none]
  constructor
  · intro h e he q
    exact h e he (decide_eq_true ⟨congrArg Prod.fst q, congrArg Prod.snd q⟩)
  · intro h e he q
    simp at q
    exact h e he (Prod.ext q.1 q.2)
def ty : Ky × Ky → Nat
  | (.l _, .l _) => 0
  | (.l _, .n _) => 1
  | (.n _, .l _) => 2
  | (.n _, .n _) => 3
/-- x stands behind A, ahead of B, and its key is its own -/
structure Mid (A B : List Exc) (x : Exc) : Prop where
  a : ∀ e ∈ A, kk e ≠ kk x ∧ ty (kk e) ≤ ty (kk x)
  b : ∀ e ∈ B, kk e ≠ kk x
theorem Mid.sub {A A' B : List Exc} {x : Exc} (h : Mid A B x) (s : A'.Sublist A) : Mid A' B x := ⟨fun e he => h.a e (s.subset he), h.b⟩
theorem Mid.at_ {A B : List Exc} {x : Exc} (h : Mid A B x) (a b : Ky) : hit (A ++ x :: B) a b = if kk x = (a, b) then some x.2.2 else hit (A ++ B) a b := by
  rw [hit_app, hit_cons, hit_app]
  split
  · rename_i e
    rw [hit_none.mpr fun y hy => e ▸ (h.a y hy).1]
    rfl
  · rfl
theorem Mid.later {A B : List Exc} {x : Exc} (h : Mid A B x) {a b : Ky} (q : ty (kk x) < ty (a, b)) : hit (A ++ B) a b = hit B a b := by
  rw [hit_app, hit_none.mpr fun y hy e => by
    have := (h.a y hy).2
    rw [e] at this
    omega]
  rfl
/-! ### leaving out from the last one on -/
end DV

set_option maxHeartbeats 4000000
namespace DV
open PySem
/-! Idle exceptions: the program. -/
theorem keyI_shape (L : List Nat) (p : Ky × Ky) : ∃ u v, keyI L p = [(ty p : Int), u, v] := by
  obtain ⟨a, b⟩ := p
  cases a <;> cases b <;> exact ⟨_, _, rfl⟩
theorem ExIn.mid {L : List Nat} {nl nr : Nat} {es A B B' : List Exc} {x : Exc} (h : ExIn L nl nr es) (nd : L.Nodup) (e : es = A ++ x :: B) (s : B'.Sublist B) : Mid A B' x := by
  have srt := h.srt nd
  rw [e, List.map_append, List.map_append, List.pairwise_append] at srt
  obtain ⟨_, s2, s3⟩ := srt
  rw [List.map_cons, List.map_cons, List.pairwise_cons] at s2
  have irr : ∀ p : Ky × Ky, HT.lexLt (keyI L p) (keyI L p) = true → False := fun p hp => by
    obtain ⟨u, v, e⟩ := keyI_shape L p
    rw [e, lex3] at hp
    omega
  refine ⟨fun y hy => ?_, fun y hy q => ?_⟩
  · have z := s3 (keyI L (kk y)) (List.mem_map.mpr ⟨_, List.mem_map.mpr ⟨y, hy, rfl⟩, rfl⟩) (keyI L (kk x)) (List.mem_cons_self ..)
    refine ⟨fun q => irr (kk x) (by rw [q] at z; exact z), ?_⟩
    obtain ⟨u, v, e1⟩ := keyI_shape L (kk y)
    obtain ⟨u', v', e2⟩ := keyI_shape L (kk x)
    rw [e1, e2, lex3] at z
    omega
  · have z := s2.1 (keyI L (kk y)) (List.mem_map.mpr ⟨_, List.mem_map.mpr ⟨y, s.subset hy, rfl⟩, rfl⟩)
    exact irr (kk x) (by rw [q] at z; exact z)
theorem TabIn.cut {L : List Nat} {t : Tab} {es : List Exc} (h : TabIn L t) (s : es.Sublist t.exc) : TabIn L { t with exc := es } := ⟨⟨h.ok.lp, h.ok.rp, h.ok.gl, h.ok.gr, h.ok.gb⟩, h.ex.cut s⟩
/-! ### the program's own -/
@[simp ↓] theorem wp_sliceE (a : Ex) (lo hi : Px) {σ : En} {S : Sto} {P : D → Sto → Prop} {E : Str → Sto → Prop} : (sliceE a lo hi σ S).wp P E = (a σ S).wp (fun x S1 => (lo σ S1).wp (fun l S2 => (hi σ S2).wp (fun h S3 => (sliceV x l h S3).wp P E) E) E) E := by
  unfold sliceE
  rw [wp_bind]
  congr 1
  funext x S1
  rw [wp_bind]
  congr 1
  funext l S2
  rw [wp_bind]
theorem cut_to {α : Type} (xs : List α) (n : Nat) : cutP xs none (some (n : Int)) = xs.take n := by
  unfold cutP
  rw [HT.sIx_nat, HT.sIx_none, List.drop_zero, Nat.sub_zero]
  by_cases h : n ≤ xs.length
  · rw [Nat.min_eq_left h]
  · rw [Nat.min_eq_right (by omega), List.take_length, List.take_of_length_le (by omega)]
theorem cut_from {α : Type} (xs : List α) (n : Nat) : cutP xs (some (n : Int)) none = xs.drop n := by
  unfold cutP
  rw [HT.sIx_nat, HT.sIx_none]
  by_cases h : n ≤ xs.length
  · rw [Nat.min_eq_left h, List.take_of_length_le (by rw [List.length_drop]; omega)]
  · rw [Nat.min_eq_right (by omega), List.drop_length, List.drop_of_length_le (by omega), List.take_nil]
@[simp ↓] theorem wp_rrng1 (e : Ex) {σ : En} {S : Sto} {P : List D → Sto → Prop} {E : Str → Sto → Prop} : (rrng1I e σ S).wp P E = (e σ S).wp (fun d S1 => ∃ j, d = .py (.int j) ∧ (-(2 ^ 62) ≤ j ∧ j ≤ 16777216) ∧ P (rngV 0 j.toNat).reverse S1) E := by
  unfold rrng1I
  rw [wp_bind]
  congr 1
  funext d S1
  split
  · rw [wp_iteR]
    split
    · rename_i h
      exact propext ⟨fun p => ⟨_, rfl, h, p⟩, fun ⟨j, e, _, p⟩ => by cases e; exact p⟩
    · rename_i h
      exact propext ⟨fun p => p.elim, fun ⟨j, e, h', p⟩ => by cases e; exact h h'⟩
  · rename_i hn
    exact propext ⟨fun h => h.elim, fun ⟨k, e, _, h⟩ => (hn k e).elim⟩
end DV

set_option maxHeartbeats 4000000
namespace DV
open PySem
/-! The law's own measure of a text. -/
@[simp ↓] theorem wp_dictF (f : Ex) {σ : En} {S : Sto} {P : D → Sto → Prop} {E : Str → Sto → Prop} : (dictF f σ S).wp P E = (f σ S).wp (fun d S1 => ∃ ds kv, d = .py (.list ds) ∧ pairsOf ds = some kv ∧ (kv.map Prod.fst).Nodup ∧ P (.py (.dict (kv.map fun p => (keyP p.1, p.2)))) S1) E := by
  unfold dictF
  rw [wp_bind]
  congr 1
  funext d S1
  rcases d with d | n | n
  · cases d
    case list ds =>
      cases h : pairsOf ds with
      | none =>
        simp only [h]
        exact propext ⟨fun h => h.elim, fun ⟨_, _, e, h2, _⟩ => by cases e; rw [h] at h2; cases h2⟩
      | some kv =>
        simp only [h]
        rw [wp_iteR]
        split
        · rename_i hz
          exact propext ⟨fun p => ⟨_, _, rfl, h, hz, p⟩, fun ⟨_, _, e, h2, _, p⟩ => by cases e; rw [h] at h2; cases h2; exact p⟩
        · rename_i hz
          exact propext ⟨fun p => p.elim, fun ⟨_, _, e, h2, z, p⟩ => by cases e; rw [h] at h2; cases h2; exact hz z⟩
    all_goals exact propext ⟨fun h => h.elim, fun ⟨_, _, e, _⟩ => by cases e⟩
  · exact propext ⟨fun h => h.elim, fun ⟨_, _, e, _⟩ => by cases e⟩
  · exact propext ⟨fun h => h.elim, fun ⟨_, _, e, _⟩ => by cases e⟩
def dgetV (x y : D) (S2 : Sto) : R D := match x, y with
  | .py (.dict kvs), .py k => (match keyOf k with
    | some k => (match dlook kvs k with
      | some d => .ok (.py d) S2
      | none => .no)
    | none => .no)
  | _, _ => .no
@[simp ↓] theorem wp_dgetF (a b : Ex) {σ : En} {S : Sto} {P : D → Sto → Prop} {E : Str → Sto → Prop} : (dgetF a b σ S).wp P E = (a σ S).wp (fun x S1 => (b σ S1).wp (fun y S2 => (dgetV x y S2).wp P E) E) E := by
  unfold dgetF
  rw [wp_bind]
  congr 1
  funext x S1
  rw [wp_bind]
  rfl
theorem cutS_from {l : List Nat} (n : Nat) : L2.cutS (⟨l.toArray⟩ : Str) (some (n : Int)) none = ⟨(l.drop n).toArray⟩ := by
  have h := cut_from l n
  unfold cutP at h
  unfold L2.cutS
  have e : (⟨l.toArray⟩ : Str).length = l.length := by simp [Str.length]
  rw [e]
  simp only [List.toList_toArray]
  rw [h]
end DV

set_option maxHeartbeats 4000000
namespace DV
open PySem
/-! Words and lines. -/
def jn : List (List Nat) → List Nat
  | [] => []
  | [w] => w
  | w :: v :: r => w ++ 32 :: jn (v :: r)
abbrev st (w : List Nat) : Str := ⟨w.toArray⟩
/-- words of a face -/
structure Wds (f : Face) (ws : List (List Nat)) : Prop where
  ne : ∀ w ∈ ws, w ≠ []
  mem : ∀ w ∈ ws, ∀ c ∈ w, c ∈ f.lets
  short : ∀ w ∈ ws, w.length ≤ 100
  few : ws.length ≤ 60
theorem jn_len : ∀ {ws : List (List Nat)} {n : Nat}, (∀ w ∈ ws, w.length ≤ n) → (jn ws).length ≤ ws.length * (n + 1)
  | [], n, _ => by simp [jn]
  | [w], n, h => by
    have := h w (List.mem_cons_self ..)
    simp [jn]
    omega
  | w :: v :: r, n, h => by
    have h1 := h w (List.mem_cons_self ..)
    have h2 := jn_len (ws := v :: r) fun x hx => h x (List.mem_cons_of_mem _ hx)
    simp only [jn, List.length_append, List.length_cons, Nat.add_mul] at h2 ⊢
    omega
theorem Wds.len {f : Face} {ws : List (List Nat)} (h : Wds f ws) : (jn ws).length ≤ 10000 := by
  have h1 := jn_len h.short
  have h2 : ws.length * (100 + 1) ≤ 60 * 101 := Nat.mul_le_mul_right _ h.few
  omega
@[simp ↓] theorem wp_methSL (g : D → List D → Sto → R (List D)) (o : Ex) (a : Ax) {σ : En} {S : Sto} {P : List D → Sto → Prop} {E : Str → Sto → Prop} : (methSL g o a σ S).wp P E = (o σ S).wp (fun x S1 => ∃ z, x = .py (.str z) ∧ (a σ S1).wp (fun ds S2 => (g x ds S2).wp P E) E) E := by
  unfold methSL
  rw [wp_bind]
  congr 1
  funext d S1
  split
  · rw [wp_bind]
    exact propext ⟨fun h => ⟨_, rfl, h⟩, fun ⟨z, e, h⟩ => by cases e; exact h⟩
  · rename_i hn
    exact propext ⟨fun h => h.elim, fun ⟨z, e, _⟩ => (hn z e).elim⟩
end DV

set_option maxHeartbeats 4000000
namespace DV
open PySem
/-! Lines that take words as long as they fit. -/
/-- lines of so many words -/
structure Lns (f : Face) (ls : List (List Nat)) (k : Nat) : Prop where
  has : ∀ l ∈ ls, ∀ c ∈ l, f.has c
  len : ∀ l ∈ ls, l.length ≤ k * 101
  few : ls.length ≤ k
theorem Wds.pre {f : Face} {ws pre post : List (List Nat)} (h : Wds f ws) (e : ws = pre ++ post) : Wds f pre := by
  subst e
  exact ⟨fun w hw => h.ne w (List.mem_append_left _ hw), fun w hw => h.mem w (List.mem_append_left _ hw), fun w hw => h.short w (List.mem_append_left _ hw), by have := h.few; rw [List.length_append] at this; omega⟩
def sts (ls : List (List Nat)) : List PyData := ls.map fun w => PyData.str (st w)
@[simp] theorem sts_len (ls : List (List Nat)) : (sts ls).length = ls.length := by simp [sts]
end DV

set_option maxHeartbeats 4000000
namespace DV
open PySem
/-! How wide words and lines are. -/
/-- widths and gaps as they are drawn -/
structure Wid (f : Face) (P : List Pair) : Prop where
  w : 1 ≤ f.w ∧ f.w ≤ 99
  s : ∀ c ∈ f.lets, 10 ≤ sw f c ∧ sw f c ≤ 99
  g : ∀ a b, -9 ≤ bt P a b ∧ bt P a b ≤ 9
end DV

set_option maxHeartbeats 4000000
namespace DV
open PySem
/-! Words and rooms drawn. -/
@[simp ↓] theorem wp_methS (g : D → List D → Sto → R D) (o : Ex) (a : Ax) {σ : En} {S : Sto} {P : D → Sto → Prop} {E : Str → Sto → Prop} : (methS g o a σ S).wp P E = (o σ S).wp (fun x S1 => ∃ z, x = .py (.str z) ∧ (a σ S1).wp (fun ds S2 => (g x ds S2).wp P E) E) E := by
  unfold methS
  rw [wp_bind]
  congr 1
  funext d S1
  split
  · rw [wp_bind]
    exact propext ⟨fun h => ⟨_, rfl, h⟩, fun ⟨z, e, h⟩ => by cases e; exact h⟩
  · rename_i hn
    exact propext ⟨fun h => h.elim, fun ⟨z, e, _⟩ => (hn z e).elim⟩
theorem fix_at {m i : Nat} {T : Sto} {ds : List PyData} {σ : En} {N : K} (h : T[m]? = some (.lst (ds.map D.py))) (hi : σ[i]? = some (some (.obj m))) (q : N.nx (σ.set i (some (.py (.list ds)))) (T.set m .gone)) : (fixS i σ T).wp N := by
  unfold fixS
  simp only [hi, h, pysOf_map]
  exact q
end DV

set_option maxHeartbeats 4000000
namespace DV
open PySem
/-! Tables of many classes, drawn. -/
theorem law_fine_ok {S : Sto} {n : Nat} {f : Face} (h : BoxAt S n) (nd : f.lets.Nodup) (h1 : f.ls.length ≤ 20) :
    (F_law_fine [.obj n, .py (.list (f.lets.map lt))] S).wp (fun d S' => ∃ G, d = .py (encG G) ∧ IsPart f.lets G ∧ Ch n S S') noE := by
  have hn := h.lt
  have tk : ∀ {T : Sto} (m : Int), Ch n S T → 0 < m → m < 1073741824 → (F_law_take [.obj n, .py (.int m)] T).wp (fun d S2 => ∃ r, d = .py (PyData.int r) ∧ (0 ≤ r ∧ r < m) ∧ Ch n T S2) noE := fun m c a b =>
    (take_ok c.box a b).to fun d S2 ⟨r, e, r0, r1, c2, _⟩ => ⟨r, e, ⟨r0, r1⟩, c2⟩
  unfold F_law_fine b_law_fine
  refine wp_fn ?_
  have lL : ∀ T, lenD [.py (.list (f.lets.map lt))] T = .ok (.py (.int (f.ls.length : Nat))) T := fun T => by simp [lenD, seqOf]
  simp [init, lL, -wp_forL_cons]
  refine ⟨by omega, ?_⟩
  have c0 : Ch n S (S ++ [.lst []]) := Ch.app h
  have hm0 : (S ++ [O.lst []])[S.length]? = some (.lst ((([] : List Int).map PyData.int).map D.py)) := by simp
  generalize S ++ [O.lst []] = T0 at c0 hm0 ⊢
  have e0 : rngV 0 f.ls.length = (List.range f.ls.length).map fun k : Nat => D.py (.int (k : Int)) := by simp [rngV]
  rw [e0]
  refine wp_forM (fun k : Nat => D.py (.int (k : Int))) (fun (pre : List Nat) σ T => wipeD σ [3] = _ ∧ Ch n S T ∧ ∃ ms : List Int, T[S.length]? = some (.lst ((ms.map PyData.int).map D.py)) ∧ ms.length = pre.length ∧ ∀ m ∈ ms, 0 ≤ m ∧ m ≤ 100) ⟨rfl, c0, [], hm0, rfl, by simp⟩ ?_ ?_
  · rintro pre x post σ T e ⟨hσ, cT, ms, tT, lm, bm⟩
    obtain ⟨_, rfl⟩ := slot_any hσ
    clear hσ
    obtain ⟨h9, hx⟩ : pre.length ≤ 20 ∧ x < 20 := by
      have h2 := congrArg List.length e
      have h3 : x ∈ List.range f.ls.length := by rw [e]; simp
      simp at h2 h3
      omega
    simp [pysOf, lsOk_obj tT]
    refine (tk _ cT (by omega) (by omega)).to ?_
    rintro _ T2 ⟨q, rfl, hq, c2⟩
    have c2' := cT.trans c2
    simp [pysOf]
    refine (tk 6 c2' (by decide) (by decide)).to ?_
    rintro _ T3 ⟨r, rfl, hr, c3⟩
    have c3' := c2'.trans c3
    have t3 := c3.at_ (c2.at_ tT (by omega)) (by omega)
    obtain ⟨y, hy, iy⟩ : ∃ y : Int, (0 ≤ y ∧ y ≤ 100) ∧ ∀ T, itemD (.py (.list [.int x, .int q])) (.py (.int (r / 5))) T = .ok (.py (.int y)) T := by
      rcases (by omega : r / 5 = 0 ∨ r / 5 = 1) with e | e
      · rw [e]; exact ⟨x, by omega, fun T => itemD_listI (by decide) rfl⟩
      · rw [e]; exact ⟨q, by omega, fun T => itemD_listI (by decide) rfl⟩
    have fd : ∀ T, fdivD (.py (.int r)) (.py (.int 5)) T = .ok (.py (.int (r / 5))) T := fun T => by simp [fdivD, Int.fdiv_eq_ediv]
    have ap := appendD_obj (d := .py (.int y)) t3 (by rw [List.length_map, List.length_map, sl_big]; omega)
    simp [fd, iy]
    refine wp_of ap ?_
    refine ⟨c3'.own (Nat.le_refl _) hn, ms ++ [y], ?_, by simp [lm], fun m hm => ?_⟩
    · rw [List.getElem?_set_self (List.getElem?_eq_some_iff.mp t3).1]
      simp
    · rw [List.mem_append, List.mem_singleton] at hm
      rcases hm with hm | rfl
      · exact bm m hm
      · exact hy
  · rintro σ T ⟨hσ, cT, ms, tT, lm, bm⟩
    obtain ⟨_, rfl⟩ := slot_any hσ
    clear hσ
    have lm : ms.length = f.ls.length := by simpa using lm
    simp
    refine fix_at tT rfl ?_
    have sm : Sm ms := ⟨fun x hx => by have := bm x hx; omega, by omega⟩
    have lg := law_grouped_int (L := .list (f.lets.map lt)) (Ls := f.lets) (fun _ => rfl) sm (by omega)
    have gp : IsPart f.lets (groups f.lets (sing ms)) := groups_part nd (by simp [lm])
    obtain ⟨U, k1, k2, k3⟩ := (cT.own (m := S.length) (o := .gone) (Nat.le_refl _) hn).cut hn
    simp
    rw [lg]
    exact ⟨U, k1, rfl, _, rfl, gp, k2⟩
end DV

set_option maxHeartbeats 4000000
namespace DV
open PySem
theorem few_loop {n m : Nat} {A B : List Ky} {L : List Nat} {nl nr z0 zl : Nat} {S T : Sto} {es0 : List Exc} {xs : List D} {ys : List PyData} {sd : PyData} {SL SR : List PyData} {s4 s5 s7 s8 s9 : Option D} {N : K} (hxs : xs = (A.map encK).map D.py) (hys : ys = B.map encK) (hn : n < S.length) (hA : A.length ≤ 40) (hB : B.length ≤ 40) (h0 : es0.length ≤ 4000)
    (kA : ∀ a ∈ A, kyB a) (kB : ∀ b ∈ B, kyB b) (hz0 : z0 ≤ 122) (hzl : zl ≤ 122) (hnl : nl ≤ 100) (hnr : nr ≤ 100)
    (i0 : ∀ T, itemD (.py sd) (.py (.int 0)) T = .ok (.py (.tuple (SL))) T) (i1 : ∀ T, itemD (.py sd) (.py (.int 1)) T = .ok (.py (.tuple (SR))) T) (eL : SL.length = nl) (eR : SR.length = nr)
    (j0 : ∀ T, itemD (.py (.list (L.map lt))) (.py (.int 0)) T = .ok (.py (lt z0)) T) (jl : ∀ T, itemD (.py (.list (L.map lt))) (.py (.int (-1))) T = .ok (.py (lt zl)) T)
    (c : Ch n S T) (hm : S.length ≤ m) (ht : T[m]? = some (.lst ((es0.map encE).map D.py)))
    (q : ∀ x y z T' es', Ch n S T' → T'[m]? = some (.lst (((es0 ++ es').map encE).map D.py)) → (es'.map kk).Sublist (cross A B) → (∀ e ∈ es', gapB e.2.2) → N.nx [some (.obj n), some (.py (.list (L.map lt))), some (.py sd), some (.obj m), s4, s5, some (.py (.list ys)), x, y, z] T') :
    (forL (nmG 7) (forS (seqI (varE 6)) (nmG 8) (seqS (asgS (opE inD (tupE (consA (varE 7) (consA (varE 8) nilA))) (frzE (consA (tupE (consA (opE subD (callE lenD (consA (opE itemD (varE 2) (cE (.int 0))) nilA)) (cE (.int 1))) (consA (opE itemD (varE 1) (cE (.int 0))) nilA))) (consA (tupE (consA (opE itemD (varE 1) (op1 negD (cE (.int 1)))) (consA (opE subD (callE lenD (consA (opE itemD (varE 2) (cE (.int 1))) nilA)) (cE (.int 1))) nilA))) nilA)))) (nmG 9)) (ifS (orT (valT (varE 9)) (valT (opE eqD (callE F_law_take (consA (varE 0) (consA (cE (.int 24)) nilA))) (cE (.int 0))))) (exprS (methL appendD (varE 3) (consA (tupE (consA (varE 7) (consA (varE 8) (consA (opE subD (callE F_law_take (consA (varE 0) (consA (cE (.int 19)) nilA))) (cE (.int 9))) nilA)))) nilA))) passS)))
      xs [some (.obj n), some (.py (.list (L.map lt))), some (.py sd), some (.obj m), s4, s5, some (.py (.list ys)), s7, s8, s9] T).wp N := by
  have tk : ∀ {T : Sto} (m : Int), Ch n S T → 0 < m → m < 1073741824 → (F_law_take [.obj n, .py (.int m)] T).wp (fun d S2 => ∃ r, d = .py (PyData.int r) ∧ (0 ≤ r ∧ r < m) ∧ Ch n T S2) noE := fun m c a b =>
    (take_ok c.box a b).to fun d S2 ⟨r, e, r0, r1, c2, _⟩ => ⟨r, e, ⟨r0, r1⟩, c2⟩
  subst hxs hys
  have l0 : ∀ T, lenD [.py (.tuple SL)] T = .ok (.py (.int (nl : Nat))) T := fun T => by simp [lenD, seqOf, eL]
  have l1 : ∀ T, lenD [.py (.tuple SR)] T = .ok (.py (.int (nr : Nat))) T := fun T => by simp [lenD, seqOf, eR]
  have ik : ∀ {a b : Ky}, kyB a → kyB b → ∃ k : Bool, ∀ T, inD (.py (.tuple [encK a, encK b])) (.py (.list [.tuple [.int ((nl : Int) - 1), lt z0], .tuple [lt zl, .int ((nr : Int) - 1)]])) T = .ok (.py (.bool k)) T := fun {a b} ha hb => by
    have f1 : Fit (.tuple [encK a, encK b]) 1 5 := (Fit.tuple (.cons (fit_key ha) (.cons (fit_key hb) (FitL.nil (w := 0))))).mono (by decide) (by decide)
    have g1 : Fit (.tuple [.int ((nl : Int) - 1), lt z0]) 1 10 := (Fit.tuple (.cons (Fit.int (by omega) (by omega)) (.cons ((Fit.lt (c := z0) (by omega)).mono (k' := 0) (w' := 1) (by decide) (by decide)) (FitL.nil (w := 0))))).mono (by decide) (by decide)
    have g2 : Fit (.tuple [lt zl, .int ((nr : Int) - 1)]) 1 10 := (Fit.tuple (.cons ((Fit.lt (c := zl) (by omega)).mono (k' := 0) (w' := 1) (by decide) (by decide)) (.cons (Fit.int (by omega) (by omega)) (FitL.nil (w := 0))))).mono (by decide) (by decide)
    have f2 := Fit.list (.cons g1 (.cons g2 (FitL.nil (k := 1) (w := 0))))
    refine ⟨[PyData.tuple [.int ((nl : Int) - 1), lt z0], .tuple [lt zl, .int ((nr : Int) - 1)]].any fun z => PyData.eqv z (.tuple [encK a, encK b]), fun T => ?_⟩
    have h1 : deep T 8 (.py (.tuple [encK a, encK b])) = some (.tuple [encK a, encK b]) := rfl
    have h2 : deep T 8 (.py (.list [.tuple [.int ((nl : Int) - 1), lt z0], .tuple [lt zl, .int ((nr : Int) - 1)]])) = some (.list [.tuple [.int ((nl : Int) - 1), lt z0], .tuple [lt zl, .int ((nr : Int) - 1)]]) := rfl
    simp only [inD, inS, h1, h2, inB]
    rw [if_pos ⟨f1.shaped (by decide), f2.shaped (by decide)⟩]
  rw [List.map_map]
  refine wp_forM (D.py ∘ encK) (fun pre σ T' => wipeD σ [7, 8, 9] = wipeD [some (.obj n), some (.py (.list (L.map lt))), some (.py sd), some (.obj m), s4, s5, some (.py (.list (B.map encK))), s7, s8, s9] [7, 8, 9] ∧ Ch n S T' ∧
    ∃ es', T'[m]? = some (.lst (((es0 ++ es').map encE).map D.py)) ∧ (es'.map kk).Sublist (cross pre B) ∧ ∀ e ∈ es', gapB e.2.2) ⟨rfl, c, [], by simpa using ht, List.Sublist.refl _, by simp⟩ ?_ ?_
  · rintro pre a post σ T1 ea ⟨hσ, c1, es1, t1, sb1, gp1⟩
    obtain ⟨_, _, _, rfl⟩ := slot3 hσ
    clear hσ
    have ka := kA a (by rw [ea]; simp)
    simp
    refine wp_forM (D.py ∘ encK) (fun pre2 σ T' => wipeD σ [8, 9] = wipeD [some (.obj n), some (.py (.list (L.map lt))), some (.py sd), some (.obj m), s4, s5, some (.py (.list (B.map encK))), some (.py (encK a)), s8, s9] [8, 9] ∧ Ch n S T' ∧
      ∃ es', T'[m]? = some (.lst (((es0 ++ es').map encE).map D.py)) ∧ (es'.map kk).Sublist (cross pre B ++ pre2.map fun b => (a, b)) ∧ ∀ e ∈ es', gapB e.2.2) ⟨rfl, c1, es1, t1, by simpa using sb1, gp1⟩ ?_ ?_
    · rintro pre2 b post2 σ T2 eb ⟨hσ, c2, es2, t2, sb2, gp2⟩
      obtain ⟨_, _, rfl⟩ := slot2 hσ
      clear hσ
      have kb := kB b (by rw [eb]; simp)
      obtain ⟨k, hk⟩ := ik ka kb
      have hlen : es2.length ≤ 1700 := by
        have h1 := sb2.length_le
        have h2 := cross_len pre B (by have := congrArg List.length ea; rw [List.length_append] at this; omega) hB
        have h3 := congrArg List.length eb
        simp at h1 h3
        omega
      have keep : (es2.map kk).Sublist (cross pre B ++ (pre2 ++ [b]).map fun b => (a, b)) := by
        have := sb2.trans (List.sublist_append_left (cross pre B ++ pre2.map fun b => (a, b)) [(a, b)])
        simpa using this
      simp [i0, i1, j0, jl, l0, l1, pysOf, hk]
      have app : ∀ {T3 T4 : Sto} {r : Int}, Ch n S T3 → T3[m]? = some (.lst (((es0 ++ es2).map encE).map D.py)) → (0 ≤ r ∧ r < 19) → Ch n T3 T4 → ∃ T5, appendD (.obj m) [.py (.tuple [encK a, encK b, .int (r - 9)])] T4 = .ok (.py .none) T5 ∧ Ch n S T5 ∧
          ∃ es', T5[m]? = some (O.lst (List.map (D.py ∘ encE) es0 ++ List.map (D.py ∘ encE) es')) ∧ (List.map kk es').Sublist (cross pre B ++ (List.map (fun b => (a, b)) pre2 ++ [(a, b)])) ∧ ∀ (a a_1 : Ky) (b : Int), (a, a_1, b) ∈ es' → gapB b := fun {T3 T4 r} c3 t3 hr c4 => by
        have t4 := c4.at_ t3 (by omega)
        have ap := appendD_obj (d := .py (encE (a, b, r - 9))) t4 (by rw [List.length_map, List.length_map, List.length_append, sl_big]; omega)
        refine ⟨_, ap, (c3.trans c4).own hm hn, es2 ++ [(a, b, r - 9)], ?_, ?_, fun a' b' g' h' => ?_⟩
        · rw [List.getElem?_set_self (List.getElem?_eq_some_iff.mp t4).1]
          simp
        · have := sb2.append (List.Sublist.refl [(a, b)])
          simpa using this
        · rw [List.mem_append, List.mem_singleton] at h'
          rcases h' with he | he
          · exact gp2 _ he
          · cases he
            show -9 ≤ r - 9 ∧ r - 9 ≤ 9
            omega
      cases k with
      | true =>
        refine .inr ⟨rfl, lsOk_obj t2, ?_⟩
        refine (tk 19 c2 (by decide) (by decide)).to ?_
        rintro _ T4 ⟨r, rfl, hr, c4⟩
        obtain ⟨T5, e5, c5, es', h5⟩ := app c2 t2 hr c4
        simp [e5]
        exact ⟨c5, es', h5⟩
      | false =>
        refine .inl ⟨rfl, ?_⟩
        refine (tk 24 c2 (by decide) (by decide)).to ?_
        rintro _ T3 ⟨r0, rfl, hr0, c3⟩
        have c3' := c2.trans c3
        have t3 := c3.at_ t2 (by omega)
        by_cases z : r0 = 0
        · simp [z]
          refine ⟨lsOk_obj t3, ?_⟩
          refine (tk 19 c3' (by decide) (by decide)).to ?_
          rintro _ T4 ⟨r, rfl, hr, c4⟩
          obtain ⟨T5, e5, c5, es', h5⟩ := app c3' t3 hr c4
          simp [e5]
          exact ⟨c5, es', h5⟩
        · simp [z]
          refine ⟨c3', es2, by simpa using t3, by simpa using keep, fun a b x h => gp2 (a, b, x) h⟩
    · rintro σ T2 ⟨hσ, c2, es2, t2, sb2, gp2⟩
      obtain ⟨_, _, rfl⟩ := slot2 hσ
      refine ⟨rfl, c2, es2, by simpa using t2, by rw [cross_snoc]; exact sb2, fun a b x h => gp2 (a, b, x) h⟩
  · rintro σ T1 ⟨hσ, c1, es1, t1, sb1, gp1⟩
    obtain ⟨_, _, _, rfl⟩ := slot3 hσ
    exact q _ _ _ _ es1 c1 t1 sb1 gp1
end DV

set_option maxHeartbeats 4000000
namespace DV
open PySem
end DV

set_option maxHeartbeats 4000000
namespace DV
open PySem
end DV

set_option maxHeartbeats 4000000
namespace DV
open PySem
/-! Texts, refused or not; odd things. -/
instance (f : Face) (c : Nat) : Decidable (f.has c) := by unfold Face.has; infer_instance
/-- a text of the thing is not too long -/
def Short (n : Nat) (d : PyData) : Prop := ∀ x, d = .str x → x.length ≤ n
@[simp] theorem lstOf_list (ds : List PyData) (S : Sto) : lstOf S (.py (.list ds)) = some (ds.map .py) := rfl
@[simp ↓] theorem wp_catL (a b : Ex) {σ : En} {S : Sto} {P : List D → Sto → Prop} {E : Str → Sto → Prop} : (catL a b σ S).wp P E = (a σ S).wp (fun x S1 => (b σ S1).wp (fun y S2 => ∃ xs ys, lstOf S2 x = some xs ∧ lstOf S2 y = some ys ∧ xs.length + ys.length ≤ sizeLine ∧ P (xs ++ ys) S2) E) E := by
  unfold catL
  rw [wp_bind]
  congr 1
  funext x S1
  rw [wp_bind]
  congr 1
  funext y S2
  split
  · rename_i xs ys h1 h2
    rw [wp_iteR]
    split
    · rename_i hz
      exact propext ⟨fun p => ⟨xs, ys, h1, h2, hz, p⟩, fun ⟨_, _, e1, e2, _, p⟩ => by rw [h1] at e1; rw [h2] at e2; cases e1; cases e2; exact p⟩
    · rename_i hz
      exact propext ⟨fun p => p.elim, fun ⟨_, _, e1, e2, q, p⟩ => by rw [h1] at e1; rw [h2] at e2; cases e1; cases e2; exact hz q⟩
  · rename_i hn
    exact propext ⟨fun h => h.elim, fun ⟨_, _, e1, e2, _, _⟩ => (hn _ _ e1 e2).elim⟩
@[simp ↓] theorem wp_repL (a b : Ex) {σ : En} {S : Sto} {P : List D → Sto → Prop} {E : Str → Sto → Prop} : (repL a b σ S).wp P E = (a σ S).wp (fun x S1 => (b σ S1).wp (fun y S2 => ∃ xs k, lstOf S2 x = some xs ∧ y = .py (.int k) ∧ (-1000 ≤ k ∧ k ≤ 1000 ∧ xs.length ≤ 1000) ∧ P (List.replicate k.toNat xs).flatten S2) E) E := by
  unfold repL
  rw [wp_bind]
  congr 1
  funext x S1
  rw [wp_bind]
  congr 1
  funext y S2
  split
  · rename_i xs k h1
    rw [wp_iteR]
    split
    · rename_i hz
      exact propext ⟨fun p => ⟨xs, k, h1, rfl, hz, p⟩, fun ⟨_, _, e1, e2, _, p⟩ => by rw [h1] at e1; cases e1; cases e2; exact p⟩
    · rename_i hz
      exact propext ⟨fun p => p.elim, fun ⟨_, _, e1, e2, q, p⟩ => by rw [h1] at e1; cases e1; cases e2; exact hz q⟩
  · rename_i hn
    exact propext ⟨fun h => h.elim, fun ⟨_, _, e1, e2, _, _⟩ => (hn _ _ e1 e2).elim⟩
end DV

set_option maxHeartbeats 4000000
namespace DV
open PySem
/-! Things whose text may be asked, dicts among them. -/
mutual
theorem leaves_mono : ∀ (d : PyData), d.leavesShort 13 = true → d.leavesShort 25 = true
  | .none, _ => by rw [PyData.leavesShort.eq_1]
  | .bool b, _ => by rw [PyData.leavesShort.eq_2]
  | .int i, h => by
    rw [PyData.leavesShort.eq_3, decide_eq_true_eq] at h ⊢
    omega
  | .str x, h => by
    rw [PyData.leavesShort.eq_4] at h ⊢
    exact h
  | .list xs, h => by
    rw [PyData.leavesShort.eq_5] at h ⊢
    exact leaves_monoAll xs h
  | .tuple xs, h => by
    rw [PyData.leavesShort.eq_6] at h ⊢
    exact leaves_monoAll xs h
  | .dict kvs, h => by
    rw [PyData.leavesShort.eq_7] at h ⊢
    exact leaves_monoKv kvs h
theorem leaves_monoAll : ∀ (ds : List PyData), PyData.leavesShortAll 13 ds = true → PyData.leavesShortAll 25 ds = true
  | [], _ => by rw [PyData.leavesShortAll.eq_1]
  | d :: ds, h => by
    rw [PyData.leavesShortAll.eq_2, Bool.and_eq_true] at h ⊢
    exact ⟨leaves_mono d h.1, leaves_monoAll ds h.2⟩
theorem leaves_monoKv : ∀ (ds : List (PyData × PyData)), PyData.leavesShortKv 13 ds = true → PyData.leavesShortKv 25 ds = true
  | [], _ => by rw [PyData.leavesShortKv.eq_1]
  | (k, v) :: ds, h => by
    rw [PyData.leavesShortKv.eq_2, Bool.and_eq_true, Bool.and_eq_true] at h ⊢
    exact ⟨⟨leaves_mono k h.1.1, leaves_mono v h.1.2⟩, leaves_monoKv ds h.2⟩
end
structure FitX (d : PyData) (k w : Nat) : Prop where
  sh : d.showable = true
  dp : d.depth ≤ k
  ls : d.leavesShort 25 = true
  bk : d.bulk ≤ w
structure FitXL (ds : List PyData) (k w : Nat) : Prop where
  sh : PyData.showableAll ds = true
  dp : PyData.depthAll ds ≤ k
  ls : PyData.leavesShortAll 25 ds = true
  bk : PyData.bulkAll ds ≤ w
theorem Fit.x {d : PyData} {k w : Nat} (h : Fit d k w) : FitX d k w := ⟨h.sh, h.dp, leaves_mono d h.ls, h.bk⟩
theorem FitX.mono {d : PyData} {k k' w w' : Nat} (h : FitX d k w) (hk : k ≤ k') (hw : w ≤ w') : FitX d k' w' := ⟨h.sh, Nat.le_trans h.dp hk, h.ls, Nat.le_trans h.bk hw⟩
theorem FitXL.nil {k w : Nat} : FitXL [] k w := ⟨PyData.showableAll.eq_1, by rw [PyData.depthAll.eq_1]; exact Nat.zero_le _, PyData.leavesShortAll.eq_1 25, by rw [PyData.bulkAll.eq_1]; exact Nat.zero_le _⟩
theorem FitXL.cons {d : PyData} {ds : List PyData} {k w w' : Nat} (h : FitX d k w) (hs : FitXL ds k w') : FitXL (d :: ds) k (w + 1 + w') := by
  refine ⟨?_, ?_, ?_, ?_⟩
  · rw [PyData.showableAll.eq_2, h.sh, hs.sh]
    rfl
  · rw [PyData.depthAll.eq_2]
    exact Nat.max_le.mpr ⟨h.dp, hs.dp⟩
  · rw [PyData.leavesShortAll.eq_2, h.ls, hs.ls]
    rfl
  · rw [PyData.bulkAll.eq_2]
    have := h.bk
    have := hs.bk
    omega
theorem FitX.list {ds : List PyData} {k w : Nat} (h : FitXL ds k w) : FitX (.list ds) (k + 1) w :=
  ⟨by rw [PyData.showable.eq_5]; exact h.sh, by rw [PyData.depth.eq_1]; exact Nat.succ_le_succ h.dp, by rw [PyData.leavesShort.eq_5]; exact h.ls, by rw [PyData.bulk.eq_2]; exact h.bk⟩
theorem FitX.tuple {ds : List PyData} {k w : Nat} (h : FitXL ds k w) : FitX (.tuple ds) (k + 1) w :=
  ⟨by rw [PyData.showable.eq_6]; exact h.sh, by rw [PyData.depth.eq_2]; exact Nat.succ_le_succ h.dp, by rw [PyData.leavesShort.eq_6]; exact h.ls, by rw [PyData.bulk.eq_3]; exact h.bk⟩
/-- two things in a list -/
theorem FitX.two {a b : PyData} {k w v : Nat} (ha : FitX a k w) (hb : FitX b k v) : FitX (.list [a, b]) (k + 1) (w + 1 + (v + 1 + 0)) := FitX.list (.cons ha (.cons hb .nil))
theorem FitX.repr {d : PyData} {k w : Nat} (h : FitX d k w) (hk : k ≤ 60) (hw : w ≤ 500000) (S : Sto) : reprX [.py d] S = .ok (.py (.str d.shown)) S := by
  have hz : d.shown.length ≤ sizeLine := by
    have h1 := PyData.shown_le_bulk 25 (by decide) d h.ls
    have h2 := h.bk
    rw [sizeLine_eq]
    have h3 : (25 + 2) * d.bulk ≤ 27 * 500000 := Nat.mul_le_mul_left _ (by omega)
    omega
  have e : deep S 8 (.py d) = some d := rfl
  unfold reprX
  simp only [e]
  rw [if_pos ⟨h.sh, Nat.le_trans h.dp hk, hz⟩]
end DV

set_option maxHeartbeats 4000000
namespace DV
open PySem
/-! The law's own loop, where it makes lambdas; what is said. -/
def Low (d : PyData) : Prop := ∀ x, d = .str x → ∀ c ∈ x.cps.toList, c ≤ 300
end DV

set_option maxHeartbeats 4000000
namespace DV
open PySem
/-! Things spoilt at some place. -/
theorem depth_app : ∀ xs ys : List PyData, PyData.depthAll (xs ++ ys) = max (PyData.depthAll xs) (PyData.depthAll ys)
  | [], ys => by rw [List.nil_append, PyData.depthAll.eq_1, Nat.zero_max]
  | x :: xs, ys => by rw [List.cons_append, PyData.depthAll.eq_2, PyData.depthAll.eq_2, depth_app xs ys]; omega
theorem show_app : ∀ xs ys : List PyData, PyData.showableAll (xs ++ ys) = (PyData.showableAll xs && PyData.showableAll ys)
  | [], ys => by rw [List.nil_append, PyData.showableAll.eq_1, Bool.true_and]
  | x :: xs, ys => by rw [List.cons_append, PyData.showableAll.eq_2, PyData.showableAll.eq_2, show_app xs ys, Bool.and_assoc]
theorem leaves_app (n : Nat) : ∀ xs ys : List PyData, PyData.leavesShortAll n (xs ++ ys) = (PyData.leavesShortAll n xs && PyData.leavesShortAll n ys)
  | [], ys => by rw [List.nil_append, PyData.leavesShortAll.eq_1, Bool.true_and]
  | x :: xs, ys => by rw [List.cons_append, PyData.leavesShortAll.eq_2, PyData.leavesShortAll.eq_2, leaves_app n xs ys, Bool.and_assoc]
/-- the parts of a sequence, how much they weigh -/
structure Part (ds : List PyData) (k : Nat) : Prop where
  sh : PyData.showableAll ds = true
  dp : PyData.depthAll ds ≤ k
  ls : PyData.leavesShortAll 25 ds = true
theorem Part.app {xs ys : List PyData} {k : Nat} : Part (xs ++ ys) k ↔ Part xs k ∧ Part ys k := by
  constructor
  · intro ⟨a, b, c⟩
    rw [show_app, Bool.and_eq_true] at a
    rw [depth_app] at b
    rw [leaves_app, Bool.and_eq_true] at c
    exact ⟨⟨a.1, by omega, c.1⟩, ⟨a.2, by omega, c.2⟩⟩
  · intro ⟨⟨a, b, c⟩, ⟨d, e, f⟩⟩
    exact ⟨by rw [show_app, a, d]; rfl, by rw [depth_app]; omega, by rw [leaves_app, c, f]; rfl⟩
theorem Part.one {d : PyData} {k : Nat} : Part [d] k ↔ d.showable = true ∧ d.depth ≤ k ∧ d.leavesShort 25 = true := by
  constructor
  · intro ⟨a, b, c⟩
    rw [PyData.showableAll.eq_2, PyData.showableAll.eq_1, Bool.and_true] at a
    rw [PyData.depthAll.eq_2, PyData.depthAll.eq_1] at b
    rw [PyData.leavesShortAll.eq_2, PyData.leavesShortAll.eq_1, Bool.and_true] at c
    exact ⟨a, by omega, c⟩
  · intro ⟨a, b, c⟩
    exact ⟨by rw [PyData.showableAll.eq_2, PyData.showableAll.eq_1, a]; rfl, by rw [PyData.depthAll.eq_2, PyData.depthAll.eq_1]; omega, by rw [PyData.leavesShortAll.eq_2, PyData.leavesShortAll.eq_1, c]; rfl⟩
theorem Part.mono {ds : List PyData} {k j : Nat} (h : Part ds k) (hk : k ≤ j) : Part ds j := ⟨h.sh, Nat.le_trans h.dp hk, h.ls⟩
theorem FitX.part {d : PyData} {k w : Nat} (h : FitX d k w) : Part [d] k := Part.one.mpr ⟨h.sh, h.dp, h.ls⟩
theorem Part.fit {d : PyData} {k w : Nat} (h : Part [d] k) (hb : d.bulk ≤ w) : FitX d k w := let ⟨a, b, c⟩ := Part.one.mp h; ⟨a, b, c, hb⟩
theorem Part.tuple {ds : List PyData} {k w : Nat} (h : Part ds k) (hb : PyData.bulkAll ds ≤ w) : FitX (.tuple ds) (k + 1) w := FitX.tuple ⟨h.sh, h.dp, h.ls, hb⟩
theorem Part.list {ds : List PyData} {k w : Nat} (h : Part ds k) (hb : PyData.bulkAll ds ≤ w) : FitX (.list ds) (k + 1) w := FitX.list ⟨h.sh, h.dp, h.ls, hb⟩
theorem FitX.items {ds : List PyData} {k w : Nat} (h : FitX (.tuple ds) k w) : ∃ j, k = j + 1 ∧ Part ds j ∧ PyData.bulkAll ds ≤ w := by
  have h1 := h.sh
  have h2 := h.dp
  have h3 := h.ls
  have h4 := h.bk
  rw [PyData.showable.eq_6] at h1
  rw [PyData.depth.eq_2] at h2
  rw [PyData.leavesShort.eq_6] at h3
  rw [PyData.bulk.eq_3] at h4
  exact ⟨k - 1, by omega, ⟨h1, by omega, h3⟩, h4⟩
theorem bulk_mem {d : PyData} : ∀ {ds : List PyData}, d ∈ ds → d.bulk + 1 ≤ PyData.bulkAll ds
  | x :: xs, h => by
    rw [PyData.bulkAll.eq_2]
    rcases List.mem_cons.mp h with rfl | h
    · omega
    · have := bulk_mem h
      omega
theorem Part.mem {d : PyData} {ds : List PyData} {k : Nat} (h : Part ds k) (hd : d ∈ ds) : Part [d] k := by
  obtain ⟨a, b, rfl⟩ := List.append_of_mem hd
  have := (Part.app.mp h).2
  have : Part ([d] ++ b) k := this
  exact (Part.app.mp this).1
theorem FitX.item {d : PyData} {ds : List PyData} {k w : Nat} (h : FitX (.tuple ds) k w) (hd : d ∈ ds) : FitX d k w := by
  obtain ⟨j, rfl, p, b⟩ := h.items
  have := bulk_mem hd
  exact (p.mem hd).mono (Nat.le_succ _) |>.fit (by omega)
theorem FitX.short {d : PyData} {k w : Nat} (h : FitX d k w) : Short w d := by
  rintro x rfl
  have := h.bk
  rw [PyData.bulk.eq_1] at this
  exact this
theorem sl_tr : sizeLine = 16777216 := by decide
theorem slice_to {ds : List PyData} {n : Nat} (S : Sto) : sliceV (.py (.tuple ds)) none (some (n : Int)) S = .ok (.py (.tuple (ds.take n))) S := by
  unfold sliceV
  simp only [cut_to]
end DV

set_option maxHeartbeats 4000000
namespace DV
open PySem
/-! What a line of words costs. -/
/-- the words from one number to another -/
def lnW (ws : List (List Nat)) (a b : Nat) : List (List Nat) := (ws.drop a).take (b - a)
theorem Wds.ln {f : Face} {ws : List (List Nat)} (h : Wds f ws) (a b : Nat) : Wds f (lnW ws a b) := by
  have sub : ∀ w ∈ lnW ws a b, w ∈ ws := fun w hw => List.mem_of_mem_drop (List.mem_of_mem_take hw)
  refine ⟨fun w hw => h.ne w (sub w hw), fun w hw => h.mem w (sub w hw), fun w hw => h.short w (sub w hw), ?_⟩
  have := h.few
  simp [lnW]
  omega
/-- what a line costs -/
def cost (f : Face) (P : List Pair) (n : Int) (ws : List (List Nat)) (a b : Nat) : Option Int :=
  if n - wd f P (jn (lnW ws a b)) < 0 then none else if b = ws.length then some 0 else some ((n - wd f P (jn (lnW ws a b))) * (n - wd f P (jn (lnW ws a b))))
end DV

set_option maxHeartbeats 4000000
namespace DV
open PySem
/-! A thing spoilt at some place. -/
@[simp ↓] theorem wp_revTE (a : Ex) {σ : En} {S : Sto} {P : D → Sto → Prop} {E : Str → Sto → Prop} : (revTE a σ S).wp P E = (a σ S).wp (fun x S1 => ∃ ds, x = .py (.tuple ds) ∧ P (.py (.tuple ds.reverse)) S1) E := by
  unfold revTE
  rw [wp_bind]
  congr 1
  funext x S1
  split
  · exact propext ⟨fun h => ⟨_, rfl, h⟩, fun ⟨ds, e, h⟩ => by cases e; exact h⟩
  · rename_i hn
    exact propext ⟨fun h => h.elim, fun ⟨ds, e, h⟩ => (hn ds e).elim⟩
theorem Part.sub {xs ys : List PyData} {k : Nat} (h : xs.Sublist ys) : Part ys k → Part xs k ∧ PyData.bulkAll xs ≤ PyData.bulkAll ys := by
  induction h with
  | slnil => exact fun h => ⟨h, Nat.le_refl _⟩
  | @cons l1 l2 a hs ih =>
    intro h
    have h2 : Part ([a] ++ l2) k := h
    obtain ⟨i1, i2⟩ := ih (Part.app.mp h2).2
    refine ⟨i1, ?_⟩
    rw [PyData.bulkAll.eq_2]
    omega
  | @cons_cons l1 l2 a hs ih =>
    intro h
    have h2 : Part ([a] ++ l2) k := h
    obtain ⟨i1, i2⟩ := ih (Part.app.mp h2).2
    refine ⟨show Part ([a] ++ l1) k from Part.app.mpr ⟨(Part.app.mp h2).1, i1⟩, ?_⟩
    rw [PyData.bulkAll.eq_2, PyData.bulkAll.eq_2]
    omega
end DV

set_option maxHeartbeats 4000000
namespace DV
open PySem
/-! The law's things: some told ones, many spoilt ones. -/
theorem bulk_len : ∀ ds : List PyData, ds.length ≤ PyData.bulkAll ds
  | [] => Nat.zero_le _
  | d :: ds => by
    have := bulk_len ds
    rw [PyData.bulkAll.eq_2, List.length_cons]
    omega
theorem FitX.len {ts : List PyData} {k w : Nat} (h : FitX (.tuple ts) k w) : ts.length ≤ w := by
  obtain ⟨j, _, _, hb⟩ := h.items
  exact Nat.le_trans (bulk_len ts) hb
end DV

set_option maxHeartbeats 4000000
namespace DV
open PySem
/-! What is shown is no word; how far the signs of a text begin. -/
@[simp ↓] theorem wp_revS (a : Ex) {σ : En} {S : Sto} {P : D → Sto → Prop} {E : Str → Sto → Prop} : (revS a σ S).wp P E = (a σ S).wp (fun x S1 => ∃ z : Str, x = .py (.str z) ∧ z.length ≤ sizeLine ∧ P (.py (.str ⟨z.cps.toList.reverse.toArray⟩)) S1) E := by
  unfold revS
  rw [wp_bind]
  congr 1
  funext x S1
  split
  · rename_i z
    rw [wp_iteR]
    split
    · rename_i hz
      exact propext ⟨fun p => ⟨z, rfl, hz, p⟩, fun ⟨_, e, _, p⟩ => by cases e; exact p⟩
    · rename_i hz
      exact propext ⟨fun p => p.elim, fun ⟨_, e, q, p⟩ => by cases e; exact hz q⟩
  · rename_i hn
    exact propext ⟨fun h => h.elim, fun ⟨_, e, _⟩ => (hn _ e).elim⟩
theorem add_tx {a b : List Nat} (h : a.length + b.length ≤ 2000) (S : Sto) : addD (.py (tx a)) (.py (tx b)) S = .ok (.py (tx (a ++ b))) S := by
  unfold addD
  simp only
  rw [if_pos (by rw [sl_big']; simp [Str.length]; omega)]
  show R.ok (D.py (.str ⟨a.toArray ++ b.toArray⟩)) S = _
  simp
end DV

set_option maxHeartbeats 4000000
namespace DV
/-! Breakings of k words left of L into lines, as rows of how many words each line has: costs, the greedy row of least cost. -/
section
variable (C : Nat → Nat → Option Int) (L : Nat) (pr : Nat → Int)
/-- the line of i + 1 words keeps to the price of k + 1 words left -/
def okR (k i : Nat) : Bool := match C (L - (k + 1)) (L - k + i) with
  | some c => decide (c + pr (k - i) = pr (k + 1))
  | none => false
def pickR (k : Nat) : Nat := ((List.range (k + 1)).reverse.find? fun i => okR C L pr k i).getD 0
def greedy : Nat → List Nat
  | 0 => []
  | k + 1 => (pickR C L pr k + 1) :: greedy (k - pickR C L pr k)
termination_by k => k
/-- the prices are least sums -/
structure Prs : Prop where
  zero : pr 0 = 0
  is : ∀ k, k < L → ∃ i c, i ≤ k ∧ C (L - (k + 1)) (L - k + i) = some c ∧ c + pr (k - i) = pr (k + 1)
  le : ∀ k i c, k < L → i ≤ k → C (L - (k + 1)) (L - k + i) = some c → pr (k + 1) ≤ c + pr (k - i)
variable {C L pr}
/-- a row with more words ahead -/
def ahead : List Nat → List Nat → Prop
  | x :: xs, y :: ys => y < x ∨ (x = y ∧ ahead xs ys)
  | _, _ => False
end
/-! ### all rows -/
/-- the last number one more -/
def more1 (row : List Nat) : List Nat := row.dropLast ++ [row.getLastD 0 + 1]
def brk : Nat → List (List Nat)
  | 0 => [[]]
  | 1 => [[1]]
  | k + 2 => (brk (k + 1)).map (· ++ [1]) ++ (brk (k + 1)).map more1
end DV

set_option maxHeartbeats 4000000
namespace DV
open PySem
end DV

set_option maxHeartbeats 4000000
namespace DV
open PySem
/-! Things drawn for laws of texts. -/
/-- a thing that may be asked about -/
structure Tng (x : PyData) : Prop where
  short : Short 10000 x
  low : Low x
  fit : FitX x 6 1000
theorem Tng.tx {l : List Nat} (h : ∀ c ∈ l, c ≤ 300) (hl : l.length ≤ 1000) : Tng (tx l) :=
  ⟨fun x e => (by cases e; simp [Str.length]; omega), fun x e => (by cases e; simpa using h), (Fit.str (x := ⟨l.toArray⟩) (n := 1000) (fun c hc => by have := h c (by simpa using hc); omega) (by simpa using hl)).x.mono (by decide) (by decide)⟩
theorem Tng.odd {p : PyData} (h1 : Short 100 p) (h2 : Low p) (h3 : FitX p 5 200) : Tng p :=
  ⟨fun x e => by have := h1 x e; omega, h2, h3.mono (by decide) (by decide)⟩
theorem fitL_lts {l : List Nat} (h : ∀ c ∈ l, c ≤ 300) (hl : l.length ≤ 250) : FitL (l.map lt) 0 500 := (FitL.all (k := 0) (w := 1) (fun d hd => by
    obtain ⟨c, hc, rfl⟩ := List.mem_map.mp hd
    have := h c hc
    exact Fit.lt (by omega))).mono (by decide) (by simp; omega)
theorem Tng.lst {l : List Nat} (h : ∀ c ∈ l, c ≤ 300) (hl : l.length ≤ 250) : Tng (.list (l.map lt)) :=
  ⟨fun x e => (by cases e), fun x e => (by cases e), (Fit.list (fitL_lts h hl)).x.mono (k := 1) (w := 500) (by decide) (by decide)⟩
theorem Tng.tup {l : List Nat} (h : ∀ c ∈ l, c ≤ 300) (hl : l.length ≤ 250) : Tng (.tuple (l.map lt)) :=
  ⟨fun x e => (by cases e), fun x e => (by cases e), (Fit.tuple (fitL_lts h hl)).x.mono (k := 1) (w := 500) (by decide) (by decide)⟩
/-- the law's own loop, where a text is named ahead of it -/
def Keep1 (sc z : D) (n : Nat) (σ : En) : Prop := ∃ ys : En, σ = some sc :: some z :: ys ∧ ys.length = n
theorem Keep1.mk {sc z : D} {n : Nat} {ys : En} (h : ys.length = n) : Keep1 sc z n (some sc :: some z :: ys) := ⟨ys, rfl, h⟩
end DV

set_option maxHeartbeats 4000000
namespace DV
open PySem
/-! The sign at a number. -/
end DV

set_option maxHeartbeats 4000000
namespace DV
open PySem
/-! Letters that may be added. -/
/-- the letter that a thing is -/
def isL : PyData → Option Nat
  | .str x => match x.cps.toList with
    | [c] => if 97 ≤ c ∧ c ≤ 122 then some c else none
    | _ => none
  | _ => none
/-! ### a drawn letter that a face has not -/
end DV

set_option maxHeartbeats 4000000
namespace DV
open PySem
/-! Letters, asked of any thing. -/
end DV

set_option maxHeartbeats 4000000
namespace DV
open PySem
/-! Texts that are moved where one list stands for another one. -/
/-! ### the law's own -/
/-! ### rows from the end -/
theorem ixN_last {n : Nat} (h : 0 < n) : L2.ixN n (-1) = some (n - 1) := by
  unfold L2.ixN
  rw [if_neg (by omega), if_pos (by omega)]
  congr 1
  omega
theorem item_lastL {α : Type} {f : α → PyData} {l : List α} {x : α} (h : l[l.length - 1]? = some x) (S : Sto) : itemD (.py (.list (l.map f))) (.py (.int (-1))) S = .ok (.py (f x)) S := by
  have h0 : 0 < l.length := by
    have := (List.getElem?_eq_some_iff.mp h).1
    omega
  unfold itemD
  have e : L2.atI ((l.map f).map D.py) (-1) = some (.py (f x)) := by
    unfold L2.atI
    rw [List.length_map, List.length_map, ixN_last h0]
    simp [h]
  simp only [seqOf, e]
end DV

set_option maxHeartbeats 4000000
namespace DV
open PySem
theorem law_few_ok {S : Sto} {n : Nat} {f : Face} {G H : List (List Nat)} (h : BoxAt S n) (hG : IsPart f.lets G) (hH : IsPart f.lets H) (h0 : 0 < f.ls.length) (h1 : f.ls.length ≤ 20) (b : ∀ c ∈ f.lets, c ≤ 122) :
    (F_law_few [.obj n, .py (.list (f.lets.map lt)), .py (.tuple [encG G, encG H])] S).wp (fun d S' => ∃ es, d = .py (.tuple (es.map encE)) ∧ ExIn f.lets G.length H.length es ∧ Ch n S S') noE := by
  have hn := h.lt
  have lG := hG.len2
  have lH := hH.len2
  simp at lG lH
  have kl : ∀ x ∈ f.lets.map Ky.l, kyB x := fun x hx => by
    obtain ⟨c, hc, rfl⟩ := List.mem_map.mp hx
    exact b c hc
  have kn : ∀ k : Nat, k ≤ 40 → ∀ x ∈ (List.range k).map Ky.n, kyB x := fun k hk x hx => by
    obtain ⟨c, hc, rfl⟩ := List.mem_map.mp hx
    have := List.mem_range.mp hc
    show c ≤ 1000
    omega
  obtain ⟨z0, hz0, j0⟩ : ∃ z0, z0 ≤ 122 ∧ ∀ T, itemD (.py (.list (f.lets.map lt))) (.py (.int 0)) T = .ok (.py (lt z0)) T := by
    have hl : 0 < f.lets.length := by simpa using h0
    exact ⟨f.lets[0], b _ (List.getElem_mem hl), fun T => itemD_listI (by decide) (by simp [hl])⟩
  obtain ⟨zl, hzl, jl⟩ : ∃ zl, zl ≤ 122 ∧ ∀ T, itemD (.py (.list (f.lets.map lt))) (.py (.int (-1))) T = .ok (.py (lt zl)) T := by
    have hl : f.lets[f.lets.length - 1]? = some (f.lets[f.lets.length - 1]'(by simp; omega)) := List.getElem?_eq_getElem _
    exact ⟨_, b _ (List.getElem_mem _), fun T => item_lastL hl T⟩
  have i0 : ∀ T, itemD (.py (.tuple [encG G, encG H])) (.py (.int 0)) T = .ok (.py (.tuple (G.map fun g => .tuple (g.map lt)))) T := fun T => itemD_tupleI (by decide) rfl
  have i1 : ∀ T, itemD (.py (.tuple [encG G, encG H])) (.py (.int 1)) T = .ok (.py (.tuple (H.map fun g => .tuple (g.map lt)))) T := fun T => itemD_tupleI (by decide) rfl
  have l0 : ∀ (K : List (List Nat)) T, lenD [.py (.tuple (K.map fun g => .tuple (g.map lt)))] T = .ok (.py (.int (K.length : Nat))) T := fun K T => by simp [lenD, seqOf]
  unfold F_law_few b_law_few
  refine wp_fn ?_
  simp [init]
  have r3 : rngV 0 3 = [.py (.int 0), .py (.int 1), .py (.int 2)] := rfl
  have er : ∀ n : Nat, rngV 0 n = (((List.range n).map Ky.n).map encK).map D.py := fun n => by simp [rngV, encK]
  have i3 : ∀ (a b c : PyData) T, itemD (.py (.list [a, b, c])) (.py (.int 0)) T = .ok (.py a) T ∧ itemD (.py (.list [a, b, c])) (.py (.int 1)) T = .ok (.py b) T ∧ itemD (.py (.list [a, b, c])) (.py (.int 2)) T = .ok (.py c) T := fun a b c T => ⟨itemD_list 0 rfl, itemD_list 1 rfl, itemD_list 2 rfl⟩
  have c0 : Ch n S (S ++ [.lst []]) := Ch.app h
  have hm0 : (S ++ [O.lst []])[S.length]? = some (.lst ((([] : List Exc).map encE).map D.py)) := by simp
  generalize S ++ [O.lst []] = T0 at c0 hm0 ⊢
  rw [r3]
  have lA : (f.lets.map Ky.l).length ≤ 40 := by simp; omega
  have lR : ∀ n : Nat, n ≤ 40 → ((List.range n).map Ky.n).length ≤ 40 := fun n h => by simpa using h
  have exl : List.map (D.py ∘ lt) f.lets = ((f.lets.map Ky.l).map encK).map D.py := by simp [encK, Function.comp_def]
  have eyl : List.map lt f.lets = (f.lets.map Ky.l).map encK := by simp [encK, Function.comp_def]
  simp [er, i0, i1, i3, l0, pysOf]
  refine ⟨by omega, by omega, ?_⟩
  refine few_loop exl eyl hn lA lA (by simp) kl kl hz0 hzl (nl := G.length) (nr := H.length) (by omega) (by omega) i0 i1 (by simp) (by simp) j0 jl c0 (Nat.le_refl _) hm0 fun x y z T2 es1 c2 t2 sb1 gp1 => ?_
  have le1 : es1.length ≤ 1600 := by
    have h1 := sb1.length_le
    have h2 := cross_len _ _ lA lA
    simp at h1
    omega
  simp [er, i0, i1, i3, l0, pysOf]
  refine ⟨by omega, by omega, ?_⟩
  refine few_loop exl (B := (List.range H.length).map Ky.n) (by simp) hn lA (lR _ (by omega)) (by simp; omega) kl (kn _ (by omega)) hz0 hzl (nl := G.length) (nr := H.length) (by omega) (by omega) i0 i1 (by simp) (by simp) j0 jl c2 (Nat.le_refl _) t2 fun x y z T4 es2 c4 t4 sb2 gp2 => ?_
  have le2 : es2.length ≤ 1600 := by
    have h1 := sb2.length_le
    have h2 := cross_len _ _ lA (lR H.length (by omega))
    simp at h1
    omega
  simp [er, i0, i1, i3, l0, pysOf]
  refine ⟨by omega, by omega, ?_⟩
  refine few_loop (A := (List.range G.length).map Ky.n) (by simp [Function.comp_def]) eyl hn (lR _ (by omega)) lA (by simp; omega) (kn _ (by omega)) kl hz0 hzl (nl := G.length) (nr := H.length) (by omega) (by omega) i0 i1 (by simp) (by simp) j0 jl c4 (Nat.le_refl _) t4 fun x y z T6 es3 c6 t6 sb3 gp3 => ?_
  have tt := tupleD_obj t6
  simp
  simp at tt
  rw [tt]
  obtain ⟨U, k1, k2, k3⟩ := c6.cut hn
  simp
  refine ⟨U, k1, rfl, es1 ++ (es2 ++ es3), by simp, ⟨?_, ?_⟩, k2⟩
  · rw [List.map_append, List.map_append]
    exact sb1.append (sb2.append sb3)
  · intro e he
    rcases List.mem_append.mp he with he | he
    · exact gp1 e he
    · rcases List.mem_append.mp he with he | he
      · exact gp2 e he
      · exact gp3 e he
end DV

set_option maxHeartbeats 4000000
namespace DV
open PySem
/-! A class number just beyond. -/
theorem key_ln_no {f : Face} {G H : List (List Nat)} {a : Nat} {g : Int} (ha : a ∈ f.lets) (hg : gapB g) (S : Sto) : F_key_of [.py f.py, .py (encG G), .py (encG H), .py (.tuple [lt a, .int (H.length : Nat), .int g])] S = .ok (.py .none) S := by
  have ig := is_gap_eq hg
  have pa := place_mem ha
  have pb := place_int (f := f) (H.length : Nat)
  have z : ¬ ((H.length : Int) ≤ (H.length : Int) - 1) := by omega
  unfold F_key_of b_key_of
  refine fn_eq (wp_fn ?_)
  simp [init, isB, ig, pa, pb, pysOf, is_from_to_int, z]
  exact ⟨.self, rfl⟩
theorem key_nl_no {f : Face} {G H : List (List Nat)} {b : Nat} {g : Int} (hb : b ∈ f.lets) (hg : gapB g) (S : Sto) : F_key_of [.py f.py, .py (encG G), .py (encG H), .py (.tuple [.int (G.length : Nat), lt b, .int g])] S = .ok (.py .none) S := by
  have ig := is_gap_eq hg
  have pa := place_int (f := f) (G.length : Nat)
  have pb := place_mem hb
  have z : ¬ ((G.length : Int) ≤ (G.length : Int) - 1) := by omega
  unfold F_key_of b_key_of
  refine fn_eq (wp_fn ?_)
  simp [init, isB, ig, pa, pb, pysOf, is_from_to_int, z]
  exact ⟨.self, rfl⟩
theorem are_exc_no {f : Face} {G H : List (List Nat)} {e : PyData} (he : ∀ T, F_key_of [.py f.py, .py (encG G), .py (encG H), .py e] T = .ok (.py .none) T) (S : Sto) : F_are_exceptions [.py f.py, .py (encG G), .py (encG H), .py (.tuple [e])] S = .ok (.py (.bool false)) S := by
  unfold F_are_exceptions b_are_exceptions
  refine fn_eq (wp_fn ?_)
  have nn : ∀ T, notInD (.py .none) (.py (.list [.none])) T = .ok (.py (.bool false)) T := fun T => by
    have h1 : deep T 8 (.py .none) = some .none := rfl
    have h2 : deep T 8 (.py (.list [.none])) = some (.list [.none]) := rfl
    simp only [notInD, inS, h1, h2, inB]
    rw [if_pos ⟨Fit.none.shaped (by decide), (Fit.list (.cons Fit.none (FitL.nil (w := 0)))).shaped (by decide)⟩]
    simp [PyData.eqv]
  simp [init, isB]
  rw [show [D.py e] = [e].map D.py from rfl]
  refine wp_pureM1 D.py (fun _ => D.py .none) (fun e' he' => wp_eq (by
    have : e' = e := by simpa using he'
    subst this
    simp [he])) ?_
  simp [pysOf, nn]
  first | exact ⟨.self, rfl⟩ | exact .self
theorem is_table_no {f : Face} {G H : List (List Nat)} {R : List (List Int)} {e : PyData} (hG : IsPart f.lets G) (hH : IsPart f.lets H) (h1 : R.length = G.length) (h2 : ∀ r ∈ R, r.length = H.length) (h3 : ∀ r ∈ R, ∀ x ∈ r, gapB x) (nd : f.lets.Nodup) (b : ∀ c ∈ f.lets, c ≤ 122) (h20 : f.ls.length ≤ 20)
    (he : ∀ T, F_key_of [.py f.py, .py (encG G), .py (encG H), .py e] T = .ok (.py .none) T) (S : Sto) : F_is_table [.py f.py, .py (.tuple [encG G, encG H, encU R, .tuple [e]])] S = .ok (.py (.bool false)) S := by
  have e1 := is_parting_eq hG nd b (by omega)
  have e2 := is_parting_eq hH nd b (by omega)
  have e3 := is_gaps_eq h1 h2 h3
  have e4 := are_exc_no he
  have i0 : ∀ T, itemD (.py (.tuple [encG G, encG H, encU R, .tuple [e]])) (.py (.int 0)) T = .ok (.py (encG G)) T := fun T => itemD_tuple 0 rfl
  have i1 : ∀ T, itemD (.py (.tuple [encG G, encG H, encU R, .tuple [e]])) (.py (.int 1)) T = .ok (.py (encG H)) T := fun T => itemD_tuple 1 rfl
  have i2 : ∀ T, itemD (.py (.tuple [encG G, encG H, encU R, .tuple [e]])) (.py (.int 2)) T = .ok (.py (encU R)) T := fun T => itemD_tuple 2 rfl
  have i3 : ∀ T, itemD (.py (.tuple [encG G, encG H, encU R, .tuple [e]])) (.py (.int 3)) T = .ok (.py (.tuple [e])) T := fun T => itemD_tuple 3 rfl
  unfold F_is_table b_is_table
  refine fn_eq (wp_fn ?_)
  simp [init, isB, e1, e2, i0, i1, i2, i3, e3, e4]
  exact ⟨.self, rfl⟩
/-! ### the gaps by the table -/
theorem ints_repr {R : List Int} (h : ∀ x ∈ R, -100 ≤ x ∧ x ≤ 100) (hl : R.length ≤ 1000) (S : Sto) : reprD [.py (.list (R.map .int))] S = .ok (.py (.str (PyData.list (R.map .int)).shown)) S :=
  (Fit.listN (k := 0) (w := 0) (m := 1000) (fun d hd => by
    obtain ⟨x, hx, rfl⟩ := List.mem_map.mp hd
    have := h x hx
    exact Fit.int (by omega) (by omega)) (by simpa using hl)).repr (by decide) (by decide) S
theorem gaps_right_eq {f : Face} {t : Tab} (h : TabIn f.lets t) (nd : f.lets.Nodup) (b : ∀ c ∈ f.lets, c ≤ 122) (h1 : f.ls.length ≤ 20) (S : Sto) : F_law_gaps_right [.py f.py, .py t.py] S = .ok (.py (.bool true)) S := by
  have ex := h.exok h1 b
  have lt' := fun {l r : Nat} (hl : l ∈ f.lets) (hr : r ∈ f.lets) T => law_told_eq (S := T) h.ok ex (by simp; omega) b hl hr
  have gb := fun {l r : Nat} (hl : l ∈ f.lets) (hr : r ∈ f.lets) T => gap_by_eq (S := T) h nd b h1 hl hr
  have tb := fun {l r : Nat} (hl : l ∈ f.lets) (hr : r ∈ f.lets) T => told_by_eq (S := T) h nd b h1 hl hr
  have bd := fun (l r : Nat) => told_bnd h l r
  have llen : f.lets.length = f.ls.length := by simp
  have nn : ∀ (x : Str) T, neD (.py (.str x)) (.py (.str x)) T = .ok (.py (.bool false)) T := fun x T => by
    show DV.R.ok (D.py (.bool (!decide (x = x)))) T = _
    simp
  unfold F_law_gaps_right b_law_gaps_right
  refine fn_eq (wp_fn ?_)
  simp [init, law_letters_eq]
  refine wp_forM (D.py ∘ lt) (fun _ σ T => wipeD σ [3, 4, 5, 6] = wipeD [some (.py f.py), some (.py t.py), some (.py (.list (f.lets.map lt))), none, none, none, none] [3, 4, 5, 6] ∧ T = S) ⟨rfl, rfl⟩ ?_ ?_
  · rintro pre l post σ T e ⟨hσ, rfl⟩
    obtain ⟨_, _, _, _, rfl⟩ := slot4 hσ
    clear hσ
    have hl : l ∈ f.lets := by rw [e]; simp
    simp
    refine wp_pureM1 (D.py ∘ lt) (fun r => D.py (encTd (toldT t l r))) (fun r hr => wp_eq (by simp [lt' hl hr])) ?_
    have e1 : (f.lets.map fun r => D.py (encTd (toldT t l r))) = (f.lets.map fun r => encTd (toldT t l r)).map D.py := by simp
    rw [e1, pysOf_map]
    simp
    refine wp_pureM1 (D.py ∘ lt) (fun r => D.py (.int (toldT t l r).1)) (fun r hr => wp_eq (by simp [gb hl hr])) ?_
    have e2 : (f.lets.map fun r => D.py (.int (toldT t l r).1)) = ((f.lets.map fun r => (toldT t l r).1).map PyData.int).map D.py := by simp
    have r1 := ints_repr (R := f.lets.map fun r => (toldT t l r).1) (fun x hx => by
      obtain ⟨r, hr, rfl⟩ := List.mem_map.mp hx
      have : -9 ≤ (toldT t l r).1 ∧ (toldT t l r).1 ≤ 9 := (bd l r).1
      show -100 ≤ (toldT t l r).1 ∧ (toldT t l r).1 ≤ 100
      omega) (by simp; omega)
    rw [e2, pysOf_map]
    simp only [r1, wp_ok]
    have it0 : ∀ (r : Nat) T, itemD (.py (encTd (toldT t l r))) (.py (.int 0)) T = .ok (.py (.int (toldT t l r).1)) T := fun r T => itemD_tupleI (by decide) rfl
    have it1 : ∀ (r : Nat) T, itemD (.py (encTd (toldT t l r))) (.py (.int 1)) T = .ok (.py (.int ((toldT t l r).2 : Nat))) T := fun r T => itemD_tupleI (by decide) rfl
    simp only [List.map_map]
    refine wp_pureM1 (D.py ∘ fun r => encTd (toldT t l r)) (fun r => D.py (.int (toldT t l r).1)) (fun r hr => wp_eq (by simp [it0])) ?_
    rw [e2, pysOf_map]
    have r1' := r1
    simp only [List.map_map] at r1'
    simp only [List.map_map, r1', wp_ok, nn]
    simp
    have e3 : (f.lets.map fun r => D.py (.int ((toldT t l r).2 : Nat))) = ((f.lets.map fun r => ((toldT t l r).2 : Int)).map PyData.int).map D.py := by simp
    have r2 := ints_repr (R := f.lets.map fun r => ((toldT t l r).2 : Int)) (fun x hx => by
      obtain ⟨r, hr, rfl⟩ := List.mem_map.mp hx
      have := (bd l r).2
      omega) (by simp; omega)
    simp only [List.map_map] at r2
    refine wp_pureM1 (D.py ∘ lt) (fun r => D.py (.int ((toldT t l r).2 : Nat))) (fun r hr => wp_eq (by simp [tb hl hr])) ?_
    rw [e3, pysOf_map]
    simp only [List.map_map, r2, wp_ok]
    refine wp_pureM1 (D.py ∘ fun r => encTd (toldT t l r)) (fun r => D.py (.int ((toldT t l r).2 : Nat))) (fun r hr => wp_eq (by simp [it1])) ?_
    rw [e3, pysOf_map]
    simp only [List.map_map, r2, wp_ok, nn]
    simp
  · rintro σ T ⟨hσ, rfl⟩
    obtain ⟨_, _, _, _, rfl⟩ := slot4 hσ
    simp
    first | exact .self | exact ⟨.self, rfl⟩
end DV

set_option maxHeartbeats 4000000
namespace DV
open PySem
/-! Loops over a zip with a list of the store. -/
theorem wp_forZL {α : Type} {m : Nat} {es : List D} {g : List D → En → Sto → R En} {u : Sx} {N : K} {σ : En} {S : Sto} {ls : List α} (enc : α → List D) (I : List α → En → Sto → Prop) (h0 : I [] σ S) (hk : ∀ pre σ S, I pre σ S → lsD S m = some es)
    (hs : ∀ pre x post σ S, ls = pre ++ x :: post → I pre σ S → (g (enc x) σ S).wp (fun σ1 S1 => (u σ1 S1).wp { N with nx := fun σ2 S2 => I (pre ++ [x]) σ2 S2, ct := fun σ2 S2 => I (pre ++ [x]) σ2 S2, bk := fun σ2 S2 => N.nx σ2 S2 }) N.ex)
    (he : ∀ σ S, I ls σ S → N.nx σ S) : (forZL m es g u (ls.map enc) σ S).wp N := by
  have key : ∀ (post pre : List α) (σ : En) (S : Sto), ls = pre ++ post → I pre σ S → (forZL m es g u (post.map enc) σ S).wp N := by
    intro post
    induction post with
    | nil =>
      intro pre σ S e h
      rw [List.append_nil] at e
      subst e
      rw [List.map_nil]
      unfold forZL
      rw [if_pos (hk _ _ _ h)]
      exact he σ S h
    | cons x post ih =>
      intro pre σ S e h
      have z := hs pre x post σ S e h
      have e2 : ls = (pre ++ [x]) ++ post := by rw [e]; simp
      rw [List.map_cons]
      unfold forZL
      rw [if_pos (hk _ _ _ h)]
      cases hg : g (enc x) σ S with
      | ok σ1 S1 =>
        rw [hg] at z
        have z2 : (u σ1 S1).wp _ := z
        simp only
        cases hb : u σ1 S1 with
        | nx σ2 S2 => rw [hb] at z2; exact ih _ σ2 S2 e2 z2
        | ct σ2 S2 => rw [hb] at z2; exact ih _ σ2 S2 e2 z2
        | bk σ2 S2 => rw [hb] at z2; exact z2
        | rt d S2 => rw [hb] at z2; exact z2
        | ex c S2 => rw [hb] at z2; exact z2
        | no => rw [hb] at z2; exact z2
      | ex c S1 => rw [hg] at z; exact z
      | no => rw [hg] at z; exact z
  exact key ls [] σ S rfl h0
theorem forZ_of {i j m : Nat} {x : D} {xs : List PyData} {es : List D} {g : List D → En → Sto → R En} {u : Sx} {N : K} {σ : En} {S : Sto} (h1 : σ[i]? = some (some x)) (h2 : σ[j]? = some (some (.obj m))) (hx : pyWalk S x = some xs) (hm : lsD S m = some es) (hd : es.all detD = true)
    (q : (forZL m es g u ((xs.zip es).map fun p => [D.py p.1, p.2]) σ S).wp N) : (forZ (varE i) (varE j) g u σ S).wp N := by
  have e1 : varE i σ S = .ok x S := by unfold varE; rw [h1]
  have e2 : varE j σ S = .ok (.obj m) S := by unfold varE; rw [h2]
  have e : zpJ (varE i) (varE j) σ S = .ok (m, es, (xs.zip es).map fun p => [D.py p.1, p.2]) S := by
    unfold zpJ
    rw [e1]
    show ((varE j σ S).bind _) = _
    rw [e2]
    show (match pyWalk S x, D.obj m with | some xs, .obj m => _ | _, _ => _) = _
    rw [hx]
    simp only [hm]
    rw [if_pos hd]
  unfold forZ
  rw [e]
  exact q
theorem lsD_stL {S : Sto} {m : Nat} {es : List D} (h : S[m]? = some (.lst es)) (X : List PyData) : lsD (stL S X) m = some es := by
  refine lsD_at ?_
  unfold stL
  rw [List.getElem?_append_left (List.getElem?_eq_some_iff.mp h).1]
  exact h
theorem law_list_grid {f : Face} {S : Sto} {lo m : Nat} {ids : List Nat} {rows : List (List Int)} (h : Grid S lo m ids rows) (h1 : f.ls.length ≤ 200) : F_law_list_v1 [.py f.py, .obj m] S = .ok (.py (encP (mlist f.lets rows))) S := by
  unfold F_law_list_v1 b_law_list_v1
  refine fn_eq (wp_fn ?_)
  have hL : f.lets.length ≤ 200 := by simpa [Face.lets] using h1
  simp [init, law_letters_eq]
  rw [stL_nil]
  refine forZ_of (x := .py (.list (f.lets.map lt))) rfl rfl rfl (lsD_stL h.top []) (by simp [detD]) ?_
  have eZ : (((f.lets.map lt).zip (ids.map D.obj)).map fun p => [D.py p.1, p.2]) = (f.lets.zip (ids.zip rows)).map fun q => [D.py (lt q.1), D.obj q.2.1] := by
    rw [List.zip_map, List.map_map]
    have e : f.lets.zip ids = (f.lets.zip (ids.zip rows)).map fun q => (q.1, q.2.1) := by
      have e2 : ids = (ids.zip rows).map Prod.fst := (List.map_fst_zip (by rw [h.len]; exact Nat.le_refl _)).symm
      conv => lhs; rw [e2]
      rw [List.zip_map_right]
      rfl
    rw [e, List.map_map]
    rfl
  rw [eZ]
  have eR : (f.lets.zip (ids.zip rows)).map (fun q => (q.1, q.2.2)) = f.lets.zip rows := by
    have e2 : rows = (ids.zip rows).map Prod.snd := (List.map_snd_zip (by rw [h.len]; exact Nat.le_refl _)).symm
    conv => rhs; rw [e2]
    rw [List.zip_map_right]
    rfl
  refine wp_forZL (fun q : Nat × Nat × List Int => [D.py (lt q.1), D.obj q.2.1]) (fun pre σ T => wipeD σ [4, 5, 6, 7] = wipeD [some (.py f.py), some (.obj m), some (.py (.list (f.lets.map lt))), some (.obj S.length), none, none, none, none] [4, 5, 6, 7] ∧ T = stL S ((flatP f.lets (pre.map fun q => (q.1, q.2.2))).map encT)) ⟨rfl, rfl⟩ ?_ ?_ ?_
  · rintro pre σ T ⟨_, rfl⟩
    exact lsD_stL h.top _
  · rintro pre ⟨l, id, r⟩ post σ T e ⟨hσ, rfl⟩
    obtain ⟨_, _, _, _, rfl⟩ := slot4 hσ
    clear hσ
    have hr : S[id]? = some (.lst (r.map pyi)) := by
      have hm : (id, r) ∈ ids.zip rows := (List.of_mem_zip (show (l, (id, r)) ∈ f.lets.zip (ids.zip rows) by rw [e]; simp)).2
      obtain ⟨j, hj⟩ := List.mem_iff_getElem?.mp hm
      rw [List.getElem?_zip_eq_some] at hj
      exact h.row j id r hj.1 hj.2
    have e' := congrArg (List.map fun q : Nat × Nat × List Int => (q.1, q.2.2)) e
    rw [eR] at e'
    simp only [List.map_append, List.map_cons] at e'
    have hlen := flatP_len e' hL
    simp
    refine forZ_of (x := .py (.list (f.lets.map lt))) rfl rfl rfl (lsD_stL hr _) (by simp [detD]) ?_
    have eI : (((f.lets.map lt).zip (r.map pyi)).map fun p => [D.py p.1, p.2]) = (f.lets.zip r).map fun p => [D.py (lt p.1), pyi p.2] := by
      rw [List.zip_map, List.map_map]
      rfl
    rw [eI]
    refine wp_forZL (fun p : Nat × Int => [D.py (lt p.1), pyi p.2]) (fun pre2 σ T => wipeD σ [6, 7] = wipeD [some (.py f.py), some (.obj m), some (.py (.list (f.lets.map lt))), some (.obj S.length), some (.py (lt l)), some (.obj id), none, none] [6, 7] ∧ T = stL S ((flatP f.lets (pre.map fun q => (q.1, q.2.2)) ++ rowA l pre2).map encT)) ⟨rfl, by simp [rowA]⟩ ?_ ?_ ?_
    · rintro pre2 σ T ⟨_, rfl⟩
      exact lsD_stL hr _
    · rintro pre2 y post2 σ T e2 ⟨hσ, rfl⟩
      obtain ⟨_, _, rfl⟩ := slot2 hσ
      clear hσ
      by_cases hy : y.2 = 0
      · simp [hy, rowA_no]
      · have l2 := rowA_len l pre2
        have l3 : pre2.length ≤ f.lets.length := by
          have := congrArg List.length e2
          rw [List.length_zip, List.length_append] at this
          omega
        have ap := stL_app (S := S) (ds := (flatP f.lets (pre.map fun q => (q.1, q.2.2)) ++ rowA l pre2).map encT) (d := encT (l, y.1, y.2)) (by rw [List.length_map, List.length_append, show sizeLine = 16777216 from rfl]; omega)
        simp [hy]
        rw [List.map_append] at ap
        refine wp_of ap ?_
        simp [rowA_yes hy]
    · rintro σ T ⟨hσ, rfl⟩
      obtain ⟨_, _, rfl⟩ := slot2 hσ
      clear hσ
      simp [flatP_snoc, rowP]
  · rintro σ T ⟨hσ, rfl⟩
    obtain ⟨_, _, _, _, rfl⟩ := slot4 hσ
    clear hσ
    rw [eR]
    simp
    exact ⟨S, .stL, rfl, rfl, rfl⟩
end DV

set_option maxHeartbeats 4000000
namespace DV
open PySem
/-! Rows of gaps, asked of any thing. -/
end DV

set_option maxHeartbeats 4000000
namespace DV
open PySem
/-! Papers of left classes. -/
/-! ### all two of some letters -/
@[simp ↓] theorem wp_sliceA (a : Ex) (lo hi : Px) {σ : En} {S : Sto} {P : D → Sto → Prop} {E : Str → Sto → Prop} : (sliceA a lo hi σ S).wp P E = (a σ S).wp (fun x S1 => (lo σ S1).wp (fun l S2 => (hi σ S2).wp (fun h S3 => (sliceAV x l h S3).wp P E) E) E) E := by
  unfold sliceA
  rw [wp_bind]
  congr 1
  funext x S1
  rw [wp_bind]
  congr 1
  funext l S2
  rw [wp_bind]
def heads (G : List (List Nat)) : List Nat := G.map fun g => g.headD 0
end DV

set_option maxHeartbeats 4000000
namespace DV
open PySem
/-! A gap turned, a letter left out: what the program answers of any things. -/
theorem Cut.low {S S' : Sto} (hl : S.length ≤ S'.length) (h : ∀ j, j < S.length → S'[j]? = S[j]?) : Cut S S' S :=
  ⟨hl, by
    apply List.ext_getElem?
    intro i
    by_cases hi : i < S.length
    · rw [List.getElem?_take_of_lt hi, h i hi]
    · rw [List.getElem?_eq_none (by omega), List.getElem?_eq_none (by simp; omega)], fun i o hi e => .inl ((h i hi).symm.trans e)⟩
@[simp ↓] theorem wp_methT (g : D → List D → Sto → R D) (o : Ex) (a : Ax) {σ : En} {S : Sto} {P : D → Sto → Prop} {E : Str → Sto → Prop} : (methT g o a σ S).wp P E = (o σ S).wp (fun x S1 => ∃ ts, x = .py (.tuple ts) ∧ (a σ S1).wp (fun ds S2 => (g x ds S2).wp P E) E) E := by
  unfold methT
  rw [wp_bind]
  congr 1
  funext x S1
  rcases x with d | n | n
  · cases d
    case tuple ts =>
      simp only [wp_bind]
      exact propext ⟨fun h => ⟨ts, rfl, h⟩, fun ⟨_, _, h⟩ => h⟩
    all_goals exact propext ⟨fun h => h.elim, fun ⟨_, e, _⟩ => by cases e⟩
  · exact propext ⟨fun h => h.elim, fun ⟨_, e, _⟩ => by cases e⟩
  · exact propext ⟨fun h => h.elim, fun ⟨_, e, _⟩ => by cases e⟩
/-- the list with one gap turned -/
def gapR (R : List (List Int)) (i j : Nat) (x : Int) : List (List Int) := R.set i ((R.getD i []).set j x)
end DV

set_option maxHeartbeats 4000000
namespace DV
open PySem
/-! A letter made like another one. -/
@[simp ↓] theorem wp_dictT (f : Ex) {σ : En} {S : Sto} {P : D → Sto → Prop} {E : Str → Sto → Prop} : (dictT f σ S).wp P E = (f σ S).wp (fun d S1 => ∃ ds kv, d = .py (.tuple ds) ∧ pairsOf ds = some kv ∧ (kv.map Prod.fst).Nodup ∧ P (.py (.dict (kv.map fun p => (keyP p.1, p.2)))) S1) E := by
  unfold dictT
  rw [wp_bind]
  congr 1
  funext d S1
  rcases d with d | n | n
  · cases d
    case tuple ds =>
      cases h : pairsOf ds with
      | none =>
        simp only [h]
        exact propext ⟨fun h => h.elim, fun ⟨_, _, e, h2, _⟩ => by cases e; rw [h] at h2; cases h2⟩
      | some kv =>
        simp only [h]
        rw [wp_iteR]
        split
        · rename_i hz
          exact propext ⟨fun p => ⟨_, _, rfl, h, hz, p⟩, fun ⟨_, _, e, h2, _, p⟩ => by cases e; rw [h] at h2; cases h2; exact p⟩
        · rename_i hz
          exact propext ⟨fun p => p.elim, fun ⟨_, _, e, h2, z, p⟩ => by cases e; rw [h] at h2; cases h2; exact hz z⟩
    all_goals exact propext ⟨fun h => h.elim, fun ⟨_, _, e, _⟩ => by cases e⟩
  · exact propext ⟨fun h => h.elim, fun ⟨_, _, e, _⟩ => by cases e⟩
  · exact propext ⟨fun h => h.elim, fun ⟨_, _, e, _⟩ => by cases e⟩
end DV

set_option maxHeartbeats 4000000
namespace DV
open PySem
/-! Tuples of pairs in order, each with a gap, asked of any thing. -/
def ltC (a b : Nat × Nat × Int) : Prop := a.1 < b.1 ∨ (a.1 = b.1 ∧ a.2.1 < b.2.1)
instance (a b : Nat × Nat × Int) : Decidable (ltC a b) := by unfold ltC; infer_instance
theorem three {gs : List PyData} (h : gs.length = 3) : ∃ a b c, gs = [a, b, c] := by
  match gs, h with
  | [a, b, c], _ => exact ⟨a, b, c, rfl⟩
/-! ### the law's own -/
end DV

set_option maxHeartbeats 4000000
namespace DV
open PySem
/-! Partings, asked of any thing. -/
def pInts (is : List Nat) : List Int := is.map fun k : Nat => (k : Int)
@[simp] theorem pInts_len (is : List Nat) : (pInts is).length = is.length := by simp [pInts]
@[simp] theorem headD_take (is : List Nat) (h : is ≠ []) : is.take 1 = [is.headD 0] := by
  cases is with
  | nil => exact absurd rfl h
  | cons a r => rfl
/-! ### what is a parting is one -/
end DV

set_option maxHeartbeats 4000000
namespace DV
open PySem
/-! Lists with open pairs. -/
end DV

set_option maxHeartbeats 4000000
namespace DV
open PySem
/-! Open lists closed by a parting. -/
/-- a list of the store that is filled while others come and go above it -/
def Fil (S : Sto) (ds : List PyData) (T : Sto) : Prop := ∃ G, T = S ++ O.lst (ds.map D.py) :: G
theorem Fil.get {S T : Sto} {ds : List PyData} (h : Fil S ds T) : T[S.length]? = some (.lst (ds.map D.py)) := by
  obtain ⟨G, rfl⟩ := h
  simp
theorem Fil.app {S T : Sto} {ds : List PyData} (h : Fil S ds T) (hl : ds.length ≤ 100000) (d : PyData) : ∃ U, appendD (.obj S.length) [.py d] T = .ok (.py .none) U ∧ Fil S (ds ++ [d]) U := by
  have hg := h.get
  obtain ⟨G, rfl⟩ := h
  refine ⟨_, appendD_obj hg (by rw [List.length_map, sl_tr]; omega), G, ?_⟩
  rw [List.set_append_right _ _ (by omega)]
  simp
theorem Fil.more {S T : Sto} {ds : List PyData} (h : Fil S ds T) (U : Sto) : Fil S ds (T ++ U) := by
  obtain ⟨G, rfl⟩ := h
  exact ⟨G ++ U, by simp⟩
end DV

set_option maxHeartbeats 4000000
namespace DV
open PySem
/-! Open lists drawn. -/
end DV

set_option maxHeartbeats 4000000
namespace DV
open PySem
/-! Open lists in order are open lists. -/
end DV

set_option maxHeartbeats 4000000
namespace DV
open PySem
/-! Is any thing a face? -/
theorem two {gs : List PyData} (h : gs.length = 2) : ∃ a b, gs = [a, b] := by
  match gs, h with
  | [a, b], _ => exact ⟨a, b, rfl⟩
/-! a set of letters -/
end DV

set_option maxHeartbeats 4000000
namespace DV
open PySem
/-! A letter made like another one; a gap turned and turned back. -/
theorem zipS {α : Type} (u : Nat → α) : ∀ L : List Nat, L.zip (L.map u) = L.map fun c => (c, u c)
  | [] => rfl
  | a :: L => by simp [zipS u L]
/-! ### classes by marks -/
/-! ### lists of gaps by what they say -/
def lstG2 (L : List Nat) (g : Nat → Nat → Int) : List Pair := L.flatMap fun l => (L.filter fun r => decide (g l r ≠ 0)).map fun r => (l, r, g l r)
theorem rowP_map (l : Nat) (L : List Nat) (g : Nat → Int) : rowP l L (L.map g) = (L.filter fun r => decide (g r ≠ 0)).map fun r => (l, r, g r) := by
  unfold rowP rowA
  rw [zipS, List.filter_map, List.map_map]
  rfl
theorem mlist_of (L : List Nat) (g : Nat → Nat → Int) : mlist L (L.map fun l => L.map fun r => g l r) = lstG2 L g := by
  unfold mlist lstG2
  rw [zipS, List.flatMap_map]
  congr 1
  funext l
  exact rowP_map l L _
theorem gap_lstG2 {L : List Nat} (nd : L.Nodup) {g : Nat → Nat → Int} {a b : Nat} (ha : a ∈ L) (hb : b ∈ L) : gapIn (lstG2 L g) a b = g a b := by
  rw [← mlist_of]
  obtain ⟨i, hi⟩ := List.mem_iff_getElem?.mp ha
  obtain ⟨j, hj⟩ := List.mem_iff_getElem?.mp hb
  exact gap_mlist nd hi (by rw [List.getElem?_map, hi]; rfl) hj (by rw [List.getElem?_map, hj]; rfl)
/-! ### a letter like another one -/
/-! ### what it says is a list of the face -/
end DV
namespace DV
open PySem
/-! ### one gap is given anew -/
theorem gapR_of {L : List Nat} {g : Nat → Nat → Int} (nd : L.Nodup) {i j a b : Nat} (hi : L[i]? = some a) (hj : L[j]? = some b) (x : Int) :
    gapR (L.map fun l => L.map fun r => g l r) i j x = L.map fun l => L.map fun r => if l = a ∧ r = b then x else g l r := by
  have hil := (List.getElem?_eq_some_iff.mp hi).1
  have hjl := (List.getElem?_eq_some_iff.mp hj).1
  have inj : ∀ {m k y : Nat}, L[m]? = some y → L[k]? = some y → m = k := fun {m k y} h1 h2 => by
    obtain ⟨q1, e1⟩ := List.getElem?_eq_some_iff.mp h1
    obtain ⟨q2, e2⟩ := List.getElem?_eq_some_iff.mp h2
    have pw := List.pairwise_iff_getElem.mp nd
    rcases Nat.lt_trichotomy m k with h | h | h
    · exact absurd (e1.trans e2.symm) (pw m k q1 q2 h)
    · exact h
    · exact absurd (e2.trans e1.symm) (pw k m q2 q1 h)
  unfold gapR
  apply List.ext_getElem?
  intro m
  rw [List.getElem?_set]
  have er : (L.map fun l => L.map fun r => g l r).getD i [] = L.map fun r => g a r := by
    rw [List.getD_eq_getElem?_getD, List.getElem?_map, hi]
    rfl
  by_cases hm : i = m
  · subst hm
    rw [if_pos rfl, if_pos (by simpa using hil), List.getElem?_map, hi, er]
    show some _ = some _
    congr 1
    apply List.ext_getElem?
    intro k
    rw [List.getElem?_set]
    by_cases hk : j = k
    · subst hk
      rw [if_pos rfl, if_pos (by simpa using hjl), List.getElem?_map, hj]
      simp
    · rw [if_neg hk, List.getElem?_map, List.getElem?_map]
      cases q : L[k]? with
      | none => rfl
      | some y =>
        have : y ≠ b := fun e => hk (inj hj (e ▸ q))
        simp [this]
  · rw [if_neg hm, List.getElem?_map, List.getElem?_map]
    cases q : L[m]? with
    | none => rfl
    | some y =>
      have : y ≠ a := fun e => hm (inj hi (e ▸ q))
      simp [this]
/-! ### signs that begin elsewhere -/
/-! ### a face is one -/
end DV

set_option maxHeartbeats 4000000
namespace DV
open PySem
theorem find_only {α : Type} [DecidableEq α] {l : List α} {p : α → Bool} {x : α} (hx : x ∈ l) (h : ∀ y ∈ l, p y = true ↔ y = x) : l.find? p = some x := by
  cases e : l.find? p with
  | none => exact absurd ((h x hx).mpr rfl) (List.find?_eq_none.mp e x hx)
  | some y => rw [(h y (List.mem_of_find?_eq_some e)).mp (List.find?_some e)]
theorem list_right_ok {S : Sto} {n : Nat} {f : Face} {t : Tab} (hB : BoxAt S n) (h : TabIn f.lets t) (nd : f.lets.Nodup) (b : ∀ c ∈ f.lets, c ≤ 122) (h0 : 0 < f.ls.length) (h1 : f.ls.length ≤ 20) :
    (F_law_list_right [.obj n, .py f.py, .py t.py] S).wp (fun d S' => d = .py (.bool true) ∧ Ch n S S') noE := by
  have hn := hB.lt
  have tk : ∀ {T : Sto} (m : Int), Ch n S T → 0 < m → m < 1073741824 → (F_law_take [.obj n, .py (.int m)] T).wp (fun d S2 => ∃ r, d = .py (PyData.int r) ∧ (0 ≤ r ∧ r < m) ∧ Ch n T S2) noE := fun m c a b =>
    (take_ok c.box a b).to fun d S2 ⟨r, e, r0, r1, c2, _⟩ => ⟨r, e, ⟨r0, r1⟩, c2⟩
  have llen : f.lets.length = f.ls.length := by simp
  have ex := h.exok h1 b
  have lt' := fun {l r : Nat} (hl : l ∈ f.lets) (hr : r ∈ f.lets) T => law_told_eq (S := T) h.ok ex (by simp; omega) b hl hr
  have it0 : ∀ (l r : Nat) T, itemD (.py (encTd (toldT t l r))) (.py (.int 0)) T = .ok (.py (.int (toldT t l r).1)) T := fun l r T => itemD_tupleI (by decide) rfl
  have lL : ∀ T, lenD [.py (.list (f.lets.map lt))] T = .ok (.py (.int (f.ls.length : Nat))) T := fun T => by simp [lenD, seqOf]
  have rT := toldR_rows h
  have pT := PG.mlist (L := f.lets) (R := toldR f t) b rT.bnd9 (by simp; omega)
  have reT := fun T => pT.fit.repr (by decide) (by decide) T
  have lb := fun T => list_by_eq h nd b h1 T
  have fu := fun T => first_unlike_eq (P := mlist f.lets (toldR f t)) h nd b h1 T
  have fn : (allP f.lets f.lets).find? (fun p => !decide (gapIn (mlist f.lets (toldR f t)) p.1 p.2 = (toldT t p.1 p.2).1)) = none := by
    rw [List.find?_eq_none]
    intro p hp
    obtain ⟨l, hl, hp⟩ := List.mem_flatMap.mp hp
    obtain ⟨r, hr, rfl⟩ := List.mem_map.mp hp
    simp [told_gap nd hl hr]
  rw [fn] at fu
  have nn : ∀ (x : Str) T, neD (.py (.str x)) (.py (.str x)) T = .ok (.py (.bool false)) T := fun x T => by
    show DV.R.ok (D.py (.bool (!decide (x = x)))) T = _
    simp
  unfold F_law_list_right b_law_list_right
  refine wp_fn ?_
  simp [init, law_letters_eq]
  refine wp_of (lcL_rowsM (D.py ∘ lt) (fun l => f.lets.map fun r => (toldT t l r).1) fun l hl S' => wp_eq ?_) ?_
  · simp
    refine wp_pureM1 (D.py ∘ lt) (fun r => D.py (.int (toldT t l r).1)) (fun r hr => wp_eq (by simp [lt' hl hr, it0])) ?_
    simp
  have eR : (f.lets.map fun l => f.lets.map fun r => (toldT t l r).1) = toldR f t := rfl
  rw [eR]
  have G := Grid.new (S := S) (lo := S.length) (rows := toldR f t) (Nat.le_refl _)
  have c4 : Ch n S (S ++ ((toldR f t).map fun r => O.lst (r.map pyi)) ++ [.lst ((List.range' S.length (toldR f t).length).map .obj)]) := by
    rw [List.append_assoc]
    exact Ch.app hB
  have em : S.length + (toldR f t).length = (S ++ ((toldR f t).map fun r => O.lst (r.map pyi))).length := by simp
  rw [em] at G
  generalize hm : (S ++ ((toldR f t).map fun r => O.lst (r.map pyi))).length = m at *
  generalize S ++ ((toldR f t).map fun r => O.lst (r.map pyi)) ++ [.lst ((List.range' S.length (toldR f t).length).map .obj)] = T0 at *
  generalize List.range' S.length (toldR f t).length = ids at *
  have lg := law_list_grid (f := f) G (by omega)
  simp [lg, lb, reT, nn, fu, optLL]
  refine (tk f.ls.length c4 (by omega) (by omega)).to ?_
  rintro _ T1 ⟨i, rfl, hi, c5⟩
  have c5' := c4.trans c5
  refine (tk f.ls.length c5' (by omega) (by omega)).to ?_
  rintro _ T2 ⟨j, rfl, hj, c6⟩
  have c6' := c5'.trans c6
  have G2 := (G.ch c5 hn).ch c6 hn
  obtain ⟨i, rfl⟩ := Int.eq_ofNat_of_zero_le hi.1
  obtain ⟨j, rfl⟩ := Int.eq_ofNat_of_zero_le hj.1
  have hiL : i < f.lets.length := by simp at hi ⊢; omega
  have hjL : j < f.lets.length := by simp at hj ⊢; omega
  have lR : (toldR f t).length = f.lets.length := by simp [toldR]
  have hiR : i < (toldR f t).length := by omega
  have rowi : (toldR f t)[i] = f.lets.map fun r => (toldT t f.lets[i] r).1 := by simp [toldR]
  have hjR : j < (toldR f t)[i].length := by rw [rowi]; simpa using hjL
  have g1 := G2.get hiR
  have g1' := fun T (e : T = T2) => (show itemD (.obj m) (.py (.int (i : Int))) T = .ok (.obj (ids[i]'(G2.len ▸ hiR))) T by rw [e]; exact g1)
  have x1 : itemD (.obj (ids[i]'(G2.len ▸ hiR))) (.py (.int (j : Int))) T2 = .ok (.py (.int ((toldR f t)[i][j]))) T2 := by
    have := itemD_obj (G2.at_ hiR) j (d := pyi ((toldR f t)[i][j])) (by rw [List.getElem?_map, List.getElem?_eq_getElem hjR]; rfl)
    exact this
  obtain ⟨w, hv, hvb, hvne⟩ : ∃ w : Int, (∀ T, intD [.py (.bool (decide ((toldR f t)[i][j] = 5)))] T = .ok (.py (.int w)) T) ∧ (5 ≤ 5 + w ∧ 5 + w ≤ 6) ∧ 5 + w ≠ (toldR f t)[i][j] := by
    by_cases e : (toldR f t)[i][j] = 5
    · exact ⟨1, fun T => by simp [e, intD], by omega, by omega⟩
    · exact ⟨0, fun T => by simp [e, intD], by omega, fun q => e (by omega)⟩
  simp [g1, x1, hv]
  obtain ⟨v, hvv⟩ : ∃ v, v = 5 + w := ⟨_, rfl⟩
  rw [← hvv] at hvb hvne ⊢
  have pu := G2.put (v := v) (σ := [some (D.obj n), some (D.py f.py), some (D.py t.py), some (D.py (PyData.list (List.map lt f.lets))), some (D.obj m), some (D.py (encP (mlist f.lets (toldR f t)))), some (D.py (PyData.int ↑i)), some (D.py (PyData.int ↑j)), none, none]) hiR hjR
  refine wp_of pu ?_
  have G3 := G2.set hiR (((toldR f t)[i]).set j v)
  have own := (G2.own _ (List.getElem_mem (G2.len ▸ hiR : i < ids.length))).1
  have c7 := c6'.own (m := ids[i]'(G2.len ▸ hiR)) (o := .lst ((((toldR f t)[i]).set j v).map pyi)) own hn
  have eq1 : (toldR f t).set i (((toldR f t)[i]).set j v) = gapR (toldR f t) i j v := by
    unfold gapR
    have : (toldR f t).getD i [] = (toldR f t)[i] := by rw [List.getD_eq_getElem?_getD, List.getElem?_eq_getElem hiR]; rfl
    rw [this]
  have ha : f.lets[i]? = some f.lets[i] := List.getElem?_eq_getElem hiL
  have hb' : f.lets[j]? = some f.lets[j] := List.getElem?_eq_getElem hjL
  have eq2 : mlist f.lets (gapR (toldR f t) i j v) = lstG2 f.lets fun l r => if l = f.lets[i] ∧ r = f.lets[j] then v else (toldT t l r).1 := by
    rw [show toldR f t = f.lets.map fun l => f.lets.map fun r => (toldT t l r).1 from rfl, gapR_of nd ha hb', mlist_of]
  rw [eq1] at G3
  have lg2 := law_list_grid (f := f) G3 (by omega)
  rw [eq2] at lg2
  have fu2 := fun T => first_unlike_eq (P := lstG2 f.lets fun l r => if l = f.lets[i] ∧ r = f.lets[j] then v else (toldT t l r).1) h nd b h1 T
  have xij : (toldR f t)[i][j] = (toldT t f.lets[i] f.lets[j]).1 := by simp [toldR]
  have fo : (allP f.lets f.lets).find? (fun p => !decide (gapIn (lstG2 f.lets fun l r => if l = f.lets[i] ∧ r = f.lets[j] then v else (toldT t l r).1) p.1 p.2 = (toldT t p.1 p.2).1)) = some (f.lets[i], f.lets[j]) := by
    refine find_only (List.mem_flatMap.mpr ⟨_, List.getElem_mem hiL, List.mem_map.mpr ⟨_, List.getElem_mem hjL, rfl⟩⟩) fun p hp => ?_
    obtain ⟨l, hl, hp⟩ := List.mem_flatMap.mp hp
    obtain ⟨r, hr, rfl⟩ := List.mem_map.mp hp
    simp only
    rw [gap_lstG2 nd hl hr]
    by_cases z : l = f.lets[i] ∧ r = f.lets[j]
    · obtain ⟨z1, z2⟩ := z
      rw [if_pos ⟨z1, z2⟩, z1, z2]
      have : v ≠ (toldT t f.lets[i] f.lets[j]).1 := by rw [← xij]; exact hvne
      simp [this]
    · rw [if_neg z]
      simp [z]
  rw [fo] at fu2
  generalize T2.set (ids[i]'(G2.len ▸ hiR)) (O.lst ((((toldR f t)[i]).set j v).map pyi)) = T3 at *
  have iti : ∀ T, itemD (.py (.list (f.lets.map lt))) (.py (.int (i : Int))) T = .ok (.py (lt f.lets[i])) T := fun T => itemD_listI (by omega) (by simp [hiL])
  have itj : ∀ T, itemD (.py (.list (f.lets.map lt))) (.py (.int (j : Int))) T = .ok (.py (lt f.lets[j])) T := fun T => itemD_listI (by omega) (by simp [hjL])
  have bi := b _ (List.getElem_mem hiL)
  have bj := b _ (List.getElem_mem hjL)
  have fL : Fit (.tuple [lt f.lets[i], lt f.lets[j]]) 1 10 := (Fit.tuple (.cons (Fit.lt (by omega)) (.cons (Fit.lt (by omega)) (FitL.nil (k := 0) (w := 0))))).mono (by decide) (by decide)
  have rL := fun T => fL.repr (by decide) (by decide) T
  have eo : optLL (some (f.lets[i], f.lets[j])) = .tuple [lt f.lets[i], lt f.lets[j]] := rfl
  rw [eo] at fu2
  simp [lg2, fu2, rL, iti, itj, pysOf]
  obtain ⟨U, k1, k2, _⟩ := c7.cut hn
  exact ⟨U, k1, rfl, k2⟩
end DV

set_option maxHeartbeats 4000000
namespace DV
open PySem
/-! Tables, asked of any thing. -/
def lt3 (a b : Int × Int × Int) : Prop := a.1 < b.1 ∨ (a.1 = b.1 ∧ (a.2.1 < b.2.1 ∨ (a.2.1 = b.2.1 ∧ a.2.2 < b.2.2)))
instance (a b : Int × Int × Int) : Decidable (lt3 a b) := by unfold lt3; infer_instance
end DV

set_option maxHeartbeats 4000000
namespace DV
/-! Neighbours tell of all where the order is transitive. -/
end DV

set_option maxHeartbeats 4000000
namespace DV
open PySem
/-! Exceptions and tables, asked of any thing. -/
theorem four {gs : List PyData} (h : gs.length = 4) : ∃ a b c d, gs = [a, b, c, d] := by
  match gs, h with
  | [a, b, c, d], _ => exact ⟨a, b, c, d, rfl⟩
/-! ### as the law asks it -/
/-! a row of a law's table -/
end DV

set_option maxHeartbeats 4000000
namespace DV
open PySem
/-! How much a table weighs. -/
end DV

set_option maxHeartbeats 4000000
namespace DV
open PySem
/-! Pieces of texts. -/
/-! ### cuts -/
theorem cutS_nat {l : List Nat} {a b : Nat} (h1 : a ≤ b) (h2 : b ≤ l.length) : L2.cutS (⟨l.toArray⟩ : Str) (some (a : Int)) (some (b : Int)) = ⟨((l.drop a).take (b - a)).toArray⟩ := by
  unfold L2.cutS
  have e : (⟨l.toArray⟩ : Str).length = l.length := by simp [Str.length]
  rw [e, HT.sIx_nat, HT.sIx_nat, Nat.min_eq_left h2, Nat.min_eq_left (Nat.le_trans h1 h2)]
theorem cutS_to {l : List Nat} {b : Nat} (h2 : b ≤ l.length) : L2.cutS (⟨l.toArray⟩ : Str) none (some (b : Int)) = ⟨(l.take b).toArray⟩ := by
  unfold L2.cutS
  have e : (⟨l.toArray⟩ : Str).length = l.length := by simp [Str.length]
  rw [e, HT.sIx_nat, HT.sIx_none, Nat.min_eq_left h2]
  simp
/-! ### beginnings and widths -/
@[simp ↓] theorem wp_revL (a : Ex) {σ : En} {S : Sto} {P : List D → Sto → Prop} {E : Str → Sto → Prop} : (revL a σ S).wp P E = (a σ S).wp (fun x S1 => ∃ ds, x = .py (.list ds) ∧ P (ds.reverse.map .py) S1) E := by
  unfold revL
  rw [wp_bind]
  congr 1
  funext x S1
  split
  · rename_i ds
    exact propext ⟨fun p => ⟨ds, rfl, p⟩, fun ⟨_, e, p⟩ => by cases e; exact p⟩
  · rename_i hn
    exact propext ⟨fun h => h.elim, fun ⟨_, e, _⟩ => (hn _ e).elim⟩
end DV

set_option maxHeartbeats 4000000
namespace DV
open PySem
/-! Texts that are joined, split again. -/
abbrev jS (sep : List Nat) (ws : List (List Nat)) : List Nat := TL.joinL sep ws
theorem pre_mark {m : Nat} (h : m ≠ 32) {p q : List Nat} (hp : m ∉ p) (hq : q = [] ∨ q.head? = some 32) : ∀ i, i < p.length → TL.pre [32, m, 32] ((p ++ q).drop i) = false := by
  intro i hi
  cases hb : TL.pre [32, m, 32] ((p ++ q).drop i) with
  | false => rfl
  | true =>
    unfold TL.pre at hb
    have e := congrArg (fun l : List Nat => l[1]?) (eq_of_beq hb)
    simp only [List.length_cons, List.length_nil] at e
    rw [List.getElem?_take_of_lt (by omega), List.getElem?_drop] at e
    simp only [List.getElem?_cons_succ, List.getElem?_cons_zero] at e
    by_cases h1 : i + 1 < p.length
    · rw [List.getElem?_append_left h1] at e
      exact absurd (List.mem_of_getElem? e) hp
    · have h2 : i + 1 = p.length := by omega
      rw [h2, List.getElem?_append_right (Nat.le_refl _), Nat.sub_self] at e
      rcases hq with rfl | hq
      · cases e
      · rw [List.head?_eq_getElem?] at hq
        rw [hq] at e
        exact absurd (Option.some.inj e).symm h
theorem spl_mark {m : Nat} (h : m ≠ 32) : ∀ {parts : List (List Nat)}, parts ≠ [] → (∀ p ∈ parts, m ∉ p) → TL.spl [32, m, 32] 0 [] (jS [32, m, 32] parts) = parts
  | [], hn, _ => absurd rfl hn
  | [p], _, hp => by
    show TL.spl [32, m, 32] 0 [] p = [p]
    rw [TL.spl_last fun i hi => by
      have := pre_mark (q := []) h (hp p (List.mem_singleton.mpr rfl)) (.inl rfl) i hi
      rwa [List.append_nil] at this, List.nil_append]
  | p :: q :: r, _, hp => by
    show TL.spl [32, m, 32] 0 [] (p ++ ([32, m, 32] ++ TL.joinL [32, m, 32] (q :: r))) = p :: q :: r
    rw [TL.spl_part (by simp) (pre_mark h (hp p (List.mem_cons_self ..)) (.inr rfl)), List.nil_append]
    have ih := spl_mark (parts := q :: r) h (by simp) fun z hz => hp z (List.mem_cons_of_mem _ hz)
    rw [show TL.spl [32, m, 32] 0 [] (TL.joinL [32, m, 32] (q :: r)) = q :: r from ih]
theorem join_st (sep : List Nat) (ws : List (List Nat)) : Txt.join (st sep) (ws.map st) = st (jS sep ws) := by
  refine TL.ext_tl ?_
  rw [TL.join_eq, TL.tl_join, List.map_map]
  have : (TL.tl ∘ st) = id := by funext w; rfl
  rw [this, List.map_id]
theorem split_mark {m : Nat} (h : m ≠ 32) (hm : m < 256) {parts : List (List Nat)} (hn : parts ≠ []) (hp : ∀ p ∈ parts, m ∉ p) : Txt.split (st (jS [32, m, 32] parts)) (st [32, m, 32]) = parts.map st := by
  refine TL.map_tl_inj ?_
  rw [TL.split_spl _ _ (by simp [TL.tl]) (TL.kind_ok (by simp [hm])), List.map_map]
  have : (TL.tl ∘ st) = id := by funext w; rfl
  rw [this, List.map_id]
  exact spl_mark h hn hp
theorem split_blank {parts : List (List Nat)} (hn : parts ≠ []) (hp : ∀ p ∈ parts, 32 ∉ p) : Txt.split (st (jS [32] parts)) (st [32]) = parts.map st := by
  have := TL.split_join (y := st [32]) (s := 32) (S := []) rfl (by simp) (parts := parts.map st) (by simpa using hn) (fun p hp' => by
    obtain ⟨w, hw, rfl⟩ := List.mem_map.mp hp'
    exact hp w hw)
  rw [join_st] at this
  exact this
theorem js_len (sep : List Nat) : ∀ ws : List (List Nat), (jS sep ws).length ≤ (ws.map fun w => w.length).sum + ws.length * sep.length
  | [] => by simp [jS, TL.joinL]
  | [w] => by simp [jS, TL.joinL]
  | w :: v :: r => by
    have ih := js_len sep (v :: r)
    show (w ++ (sep ++ TL.joinL sep (v :: r))).length ≤ _
    rw [List.length_append, List.length_append, List.map_cons, List.sum_cons, List.length_cons, Nat.succ_mul]
    show w.length + (sep.length + (jS sep (v :: r)).length) ≤ _
    omega
theorem sum_len {ws : List (List Nat)} {k : Nat} (h : ∀ w ∈ ws, w.length ≤ k) : (ws.map fun w => w.length).sum ≤ ws.length * k := by
  induction ws with
  | nil => simp
  | cons w r ih =>
    have h1 := h w (by simp)
    have h2 := ih fun v hv => h v (List.mem_cons_of_mem _ hv)
    rw [List.map_cons, List.sum_cons, List.length_cons, Nat.succ_mul]
    omega
theorem js_le {sep : List Nat} {ws : List (List Nat)} {k n : Nat} (h : ∀ w ∈ ws, w.length ≤ k) (hn : ws.length ≤ n) : (jS sep ws).length ≤ n * (k + sep.length) := by
  have h1 := js_len sep ws
  have h2 := sum_len h
  have h3 : ws.length * k + ws.length * sep.length ≤ n * (k + sep.length) := by
    rw [← Nat.mul_add]
    exact Nat.mul_le_mul hn (Nat.le_refl _)
  omega
theorem js_mem {sep : List Nat} {c : Nat} : ∀ {ws : List (List Nat)}, c ∈ jS sep ws → c ∈ sep ∨ ∃ w ∈ ws, c ∈ w
  | [], h => by simp [jS, TL.joinL] at h
  | [w], h => .inr ⟨w, by simp, h⟩
  | w :: v :: r, h => by
    rcases List.mem_append.mp (show c ∈ w ++ (sep ++ jS sep (v :: r)) from h) with h | h
    · exact .inr ⟨w, by simp, h⟩
    · rcases List.mem_append.mp h with h | h
      · exact .inl h
      · rcases js_mem h with h | ⟨z, hz, h⟩
        · exact .inl h
        · exact .inr ⟨z, List.mem_cons_of_mem _ hz, h⟩
theorem strs_tx (ws : List (List Nat)) : strsOf (ws.map tx) = some (ws.map st) := by
  induction ws with
  | nil => rfl
  | cons w r ih =>
    rw [List.map_cons, List.map_cons]
    unfold strsOf
    rw [ih]
    rfl
theorem join_list {sep : List Nat} {x : Str} {ws : List (List Nat)} {k n : Nat} (hx : x = st sep) (h : ∀ w ∈ ws, w.length ≤ k) (hn : ws.length ≤ n) (hk : n * (k + sep.length) ≤ 1000000) (S : Sto) :
    joinD (.py (.str x)) [.py (.list (ws.map tx))] S = .ok (.py (tx (jS sep ws))) S := by
  subst hx
  have h2 := sum_len h
  have h3 : ws.length * k + ws.length * sep.length ≤ n * (k + sep.length) := by
    rw [← Nat.mul_add]
    exact Nat.mul_le_mul hn (Nat.le_refl _)
  have e : ((ws.map st).map fun x : Str => x.length).sum + (ws.map st).length * (st sep).length ≤ 16777216 := by
    rw [List.map_map, List.length_map]
    show (ws.map fun w => w.length).sum + ws.length * sep.length ≤ _
    omega
  simp only [joinD, strs_tx]
  rw [if_pos e, join_st]
theorem join_tup {sep : List Nat} {x : Str} {ws : List (List Nat)} {k n : Nat} (hx : x = st sep) (h : ∀ w ∈ ws, w.length ≤ k) (hn : ws.length ≤ n) (hk : n * (k + sep.length) ≤ 1000000) (S : Sto) :
    joinD (.py (.str x)) [.py (.tuple (ws.map tx))] S = .ok (.py (tx (jS sep ws))) S := by
  have := join_list hx h hn hk S
  unfold joinD at this ⊢
  exact this
theorem split_m {m : Nat} {x : Str} (hx : x = st [32, m, 32]) (h : m ≠ 32) (hm : m < 256) {parts : List (List Nat)} {k n : Nat} (hn : parts ≠ []) (hp : ∀ p ∈ parts, m ∉ p) (hl : ∀ w ∈ parts, w.length ≤ k) (hc : parts.length ≤ n) (hk : n * (k + 3) ≤ 1000000) (S : Sto) :
    splitD (.py (tx (jS [32, m, 32] parts))) [.py (.str x)] S = .ok ((parts.map tx).map D.py) S := by
  subst hx
  have l1 := js_le (sep := [32, m, 32]) hl hc
  have l2 : parts.length ≤ n * (k + 3) := Nat.le_trans hc (Nat.le_mul_of_pos_right _ (by omega))
  have e := split_mark h hm hn hp
  simp only [splitD]
  rw [e]
  have sl : sizeLine = 16777216 := rfl
  have l3 : (jS [32, m, 32] parts).length ≤ n * (k + 3) := l1
  rw [if_pos ⟨rfl, by rw [sl]; show (jS [32, m, 32] parts).length + 2 ≤ _; omega, by rw [List.length_map, sl]; omega⟩, List.map_map, List.map_map]
  rfl
theorem split_b {x : Str} (hx : x = st [32]) {parts : List (List Nat)} {k n : Nat} (hn : parts ≠ []) (hp : ∀ p ∈ parts, 32 ∉ p) (hl : ∀ w ∈ parts, w.length ≤ k) (hc : parts.length ≤ n) (hk : n * (k + 1) ≤ 1000000) (S : Sto) :
    splitD (.py (tx (jS [32] parts))) [.py (.str x)] S = .ok ((parts.map tx).map D.py) S := by
  subst hx
  have l1 := js_le (sep := [32]) hl hc
  have l2 : parts.length ≤ n * (k + 1) := Nat.le_trans hc (Nat.le_mul_of_pos_right _ (by omega))
  have e := split_blank hn hp
  simp only [splitD]
  rw [e]
  have sl : sizeLine = 16777216 := rfl
  have l3 : (jS [32] parts).length ≤ n * (k + 1) := l1
  rw [if_pos ⟨rfl, by rw [sl]; show (jS [32] parts).length + 2 ≤ _; omega, by rw [List.length_map, sl]; omega⟩, List.map_map, List.map_map]
  rfl
theorem part_b {x : Str} (hx : x = st [32]) {a b : List Nat} (h : 32 ∉ a) (hl : a.length + b.length ≤ 100000) (S : Sto) : partitionD (.py (tx (a ++ 32 :: b))) [.py (.str x)] S = .ok (.py (.tuple [tx a, tx [32], tx b])) S := by
  subst hx
  have e := TL.partition_app (y := st [32]) (s := 32) (S := []) rfl (a := st a) (b := st b) h
  have e2 : (st a : Str) ++ st [32] ++ st b = st (a ++ 32 :: b) := TL.ext_tl (by rw [TL.tl_append, TL.tl_append]; show a ++ [32] ++ b = a ++ 32 :: b; simp)
  rw [e2] at e
  simp only [partitionD]
  rw [e, if_pos ⟨rfl, by rw [show sizeLine = 16777216 from rfl]; show (a ++ 32 :: b).length ≤ _; simp; omega⟩]
end DV

set_option maxHeartbeats 4000000
namespace DV
open PySem
/-! Whole numbers as texts; the text of a table. -/
def numS (i : Int) : List Nat := (Str.ofString (toString i)).cps.toList
def figS (w : List Nat) : List Nat := if w.take 1 = [45] then w.drop 1 else w
structure NumOk (w : List Nat) (i : Int) : Prop where
  tx : st w = Str.ofString (toString i)
  rd : PySem.intText? (st w) = some i
  len : w.length ≤ 2
  pos : 0 < w.length
  fig : figS w ≠ []
  dig : ∀ c ∈ figS w, 48 ≤ c ∧ c ≤ 57
  sgn : ∀ c ∈ w, c = 45 ∨ (48 ≤ c ∧ c ≤ 57)
  big : -9 ≤ i ∧ i ≤ 9
theorem nine {p : Int → Prop} (h : ∀ k ∈ List.range 19, p ((k : Int) - 9)) {i : Int} (hi : -9 ≤ i ∧ i ≤ 9) : p i := by
  have := h (i + 9).toNat (List.mem_range.mpr (by omega))
  rwa [show (((i + 9).toNat : Nat) : Int) - 9 = i by omega] at this
theorem num_ok {i : Int} (hi : -9 ≤ i ∧ i ≤ 9) : NumOk (numS i) i := by
  have a1 : PySem.intText? (st (numS i)) = some i := nine (p := fun i => PySem.intText? (st (numS i)) = some i) (by decide +kernel) hi
  have a2 : (numS i).length ≤ 2 := nine (p := fun i => (numS i).length ≤ 2) (by decide +kernel) hi
  have a3 : 0 < (numS i).length := nine (p := fun i => 0 < (numS i).length) (by decide +kernel) hi
  have a4 : figS (numS i) ≠ [] := nine (p := fun i => figS (numS i) ≠ []) (by decide +kernel) hi
  have a5 : ∀ c ∈ figS (numS i), 48 ≤ c ∧ c ≤ 57 := nine (p := fun i => ∀ c ∈ figS (numS i), 48 ≤ c ∧ c ≤ 57) (by decide +kernel) hi
  have a6 : ∀ c ∈ numS i, c = 45 ∨ (48 ≤ c ∧ c ≤ 57) := nine (p := fun i => ∀ c ∈ numS i, c = 45 ∨ (48 ≤ c ∧ c ≤ 57)) (by decide +kernel) hi
  exact ⟨rfl, a1, a2, a3, a4, a5, a6, hi⟩
theorem one_dig {i : Nat} (h : i ≤ 9) : numS (i : Nat) = [48 + i] := by
  have : ∀ k ∈ List.range 10, numS ((k : Nat) : Int) = [48 + k] := by decide +kernel
  exact this i (List.mem_range.mpr (by omega))
theorem st_eq {a b : List Nat} : (st a = st b) = (a = b) := by
  refine propext ⟨fun h => ?_, fun h => by rw [h]⟩
  have := congrArg (fun s : Str => s.cps.toList) h
  simpa using this
theorem eq_tx (a b : List Nat) (S : Sto) : eqD (.py (tx a)) (.py (tx b)) S = .ok (.py (.bool (decide (a = b)))) S := by
  show R.ok (D.py (.bool (decide (st a = st b)))) S = _
  simp only [st_eq]
theorem sl_tx_to {w : List Nat} {n : Nat} (h : n ≤ w.length) (hl : w.length ≤ 100000) (S : Sto) : sliceV (.py (tx w)) none (some (n : Int)) S = .ok (.py (tx (w.take n))) S := by
  simp only [sliceV]
  rw [if_pos (by rw [show sizeLine = 16777216 from rfl]; show w.length ≤ _; omega), cutS_to h]
theorem sl_tx_from {w : List Nat} {n : Nat} (hl : w.length ≤ 100000) (S : Sto) : sliceV (.py (tx w)) (some (n : Int)) none S = .ok (.py (tx (w.drop n))) S := by
  simp only [sliceV]
  rw [if_pos (by rw [show sizeLine = 16777216 from rfl]; show w.length ≤ _; omega), cutS_from]
theorem sl_tx_mid {w : List Nat} {a b : Nat} (h1 : a ≤ b) (h : b ≤ w.length) (hl : w.length ≤ 100000) (S : Sto) : sliceV (.py (tx w)) (some (a : Int)) (some (b : Int)) S = .ok (.py (tx ((w.drop a).take (b - a)))) S := by
  simp only [sliceV]
  rw [if_pos (by rw [show sizeLine = 16777216 from rfl]; show w.length ≤ _; omega), cutS_nat h1 h]
theorem dash_st : Str.ofString "-" = st [45] := by decide +kernel
theorem none_st : Str.ofString "" = st [] := by decide +kernel
theorem at_st : Str.ofString "@" = st [64] := by decide +kernel
theorem blank_sx : Str.ofString " " = st [32] := by decide +kernel
theorem semi_st : Str.ofString " ; " = st [32, 59, 32] := by decide +kernel
theorem comma_st : Str.ofString " , " = st [32, 44, 32] := by decide +kernel
theorem slash_st : Str.ofString " / " = st [32, 47, 32] := by decide +kernel
theorem figs_st : Str.ofString "0123456789" = st [48, 49, 50, 51, 52, 53, 54, 55, 56, 57] := by decide +kernel
theorem str_num {i : Int} (h : -9 ≤ i ∧ i ≤ 9) (S : Sto) : strD [.py (.int i)] S = .ok (.py (tx (numS i))) S := by
  simp only [strD]
  rw [if_pos (nine (p := fun i => i.natAbs.log2 < 1920) (by decide +kernel) h)]
  rfl
theorem number_in_eq {i : Int} (h : -9 ≤ i ∧ i ≤ 9) (S : Sto) : F_number_in [.py (tx (numS i))] S = .ok (.py (.int i)) S := by
  have ok := num_ok h
  have sn := fun T => str_num h T
  have l1 := ok.len
  have p1 := ok.pos
  have rd := ok.rd
  generalize numS i = w at *
  have s1 : ∀ T, sliceV (.py (tx w)) none (some 1) T = .ok (.py (tx (w.take 1))) T := fun T => sl_tx_to (w := w) (n := 1) p1 (by omega) T
  have s2 : ∀ T, sliceV (.py (tx w)) (some 1) none T = .ok (.py (tx (w.drop 1))) T := fun T => sl_tx_from (w := w) (n := 1) (by omega) T
  have e1 := fun T => eq_tx (w.take 1) [45] T
  have ix : ∀ T, intX [.py (tx w)] T = .ok (.py (.int i)) T := fun T => by
    simp only [intX]
    rw [show PySem.intText? (⟨w.toArray⟩ : Str) = some i from rd]
    simp only
    rw [if_pos (by show w.length ≤ 640; omega)]
  have ne : ∀ T, neD (.py (tx w)) (.py (tx w)) T = .ok (.py (.bool false)) T := fun T => by
    show R.ok (D.py (.bool (!decide (st w = st w)))) T = _
    simp
  have ln : ∀ (v : List Nat) T, v.length ≤ 2 → lenD [.py (tx v)] T = .ok (.py (.int (v.length : Nat))) T := fun v T h => by
    simp only [lenD]
    rw [if_pos (by rw [show sizeLine = 16777216 from rfl]; show v.length ≤ _; omega)]
    rfl
  have cm : ∀ (x y : Int) T, cmpI (fun i j => decide (j < i)) (.py (.int x)) (.py (.int y)) T = .ok (.py (.bool (decide (y < x)))) T := fun x y T => rfl
  have dg : ∀ c, 48 ≤ c ∧ c ≤ 57 → ∀ T, inD (.py (.str ⟨#[c]⟩)) (.py (tx [48, 49, 50, 51, 52, 53, 54, 55, 56, 57])) T = .ok (.py (.bool true)) T := fun c hc T => by
    have : c = 48 ∨ c = 49 ∨ c = 50 ∨ c = 51 ∨ c = 52 ∨ c = 53 ∨ c = 54 ∨ c = 55 ∨ c = 56 ∨ c = 57 := by omega
    rcases this with rfl | rfl | rfl | rfl | rfl | rfl | rfl | rfl | rfl | rfl <;> rfl
  have fg := ok.fig
  have dig := ok.dig
  have lf : (figS w).length ≤ 2 := by
    unfold figS
    split
    · rw [List.length_drop]; omega
    · exact l1
  have run : ∀ (fw : List Nat) (N : K), fw = figS w → N.rt (.py (.int i)) S → (seqS (ifS (orT (valT (opE eqD (varE 1) (cE (.str "")))) (orT (valT (opE (cmpI fun i j => decide (j < i)) (callE lenD (consA (varE 1) nilA)) (cE (.int 20)))) (notT (valT (callE allD (consA (frzE (lcX (txtI (varE 1)) [2] (nmG 2) yesT (opE inD (varE 2) (cE (.str "0123456789"))))) nilA)))))) (retS (cE .none)) passS) (seqS (ifS (valT (opE neD (callE strD (consA (callE intX (consA (varE 0) nilA)) nilA)) (varE 0))) (retS (cE .none)) passS) (retS (callE intX (consA (varE 0) nilA)))) [some (.py (tx w)), some (.py (tx fw)), none] S).wp N := by
    rintro fw N rfl hN
    have e2 := fun T => eq_tx (figS w) [] T
    rw [figs_st, none_st]
    generalize figS w = v at *
    have l20 : ¬ (20 : Int) < (v.length : Nat) := by omega
    have ln' := fun T => ln v T lf
    simp [e2, fg, ln', cm, l20]
    refine ⟨by show v.length ≤ _; omega, ?_⟩
    refine wp_pureM1 (fun c : Nat => D.py (.str ⟨#[c]⟩)) (fun _ => D.py (.bool true)) (fun c hc => wp_eq ?_) ?_
    · simp [dg c (dig c hc)]
    have e3 : (v.map fun _ => D.py (.bool true)) = ((v.map fun _ => true).map PyData.bool).map D.py := by simp
    rw [e3, pysOf_map]
    have ag := all_true (l := v) (g := fun _ => true) fun _ _ => rfl
    simp only [allD_bools, wp_ok, ag]
    simp [ix, sn, ne]
    exact hN
  unfold F_number_in b_number_in
  refine fn_eq (wp_fn ?_)
  rw [wp_seq]
  refine wp_mid (fun _ σ' S' => σ' = [some (.py (tx w)), some (.py (tx (figS w))), none] ∧ S' = S) ?_ ?_
  · rw [dash_st]
    by_cases h45 : w.take 1 = [45]
    · have ef : figS w = w.drop 1 := by unfold figS; rw [if_pos h45]
      rw [ef]
      simp [init, s1, s2, e1, h45, -List.drop_one, -List.tail_drop]
    · have ef : figS w = w := by unfold figS; rw [if_neg h45]
      rw [ef]
      simp [init, s1, s2, e1, h45]
  · rintro σ' S' ⟨rfl, rfl⟩
    exact run _ _ rfl ⟨S', .self, rfl, rfl, rfl⟩
end DV

set_option maxHeartbeats 4000000
namespace DV
open PySem
/-! The text of a table. -/
theorem isi_keyT (a : Ky) (S : Sto) : isiD "str" (.py (encK a)) S = .ok (.py (.bool (match a with | .l _ => true | .n _ => false))) S := by
  cases a <;> rfl
def keyT : Ky → List Nat
  | .l c => [c]
  | .n i => 64 :: numS (i : Nat)
def excT (e : Exc) : List Nat := keyT e.1 ++ keyT e.2.1 ++ 32 :: numS e.2.2
def excsT (es : List Exc) : List Nat := if es = [] then [45] else jS [32, 59, 32] (es.map excT)
def rowsT (R : List (List Int)) : List Nat := jS [32, 44, 32] (R.map fun r => jS [32] (r.map numS))
def tabT (t : Tab) : List Nat := jS [32, 47, 32] [jS [32] t.lefts, jS [32] t.rights, rowsT t.gaps, excsT t.exc]
/-- letters and small numbers -/
def KyS : Ky → Prop
  | .l c => 97 ≤ c ∧ c ≤ 122
  | .n i => i ≤ 9
structure ExS (es : List Exc) : Prop where
  ok : ExOk es
  few : es.length ≤ 2000
  ky : ∀ e ∈ es, KyS e.1 ∧ KyS e.2.1
  gap : ∀ e ∈ es, -9 ≤ e.2.2 ∧ e.2.2 ≤ 9
theorem numS_len {i : Int} (h : -9 ≤ i ∧ i ≤ 9) : (numS i).length ≤ 2 := (num_ok h).len
theorem keyT_len {k : Ky} (h : KyS k) : (keyT k).length ≤ 3 := by
  cases k with
  | l c => simp [keyT]
  | n i =>
    have : i ≤ 9 := h
    have := numS_len (i := (i : Nat)) (by omega)
    simp [keyT]
    omega
theorem excT_len {e : Exc} (h1 : KyS e.1) (h2 : KyS e.2.1) (h3 : -9 ≤ e.2.2 ∧ e.2.2 ≤ 9) : (excT e).length ≤ 9 := by
  have a := keyT_len h1
  have b := keyT_len h2
  have c := numS_len h3
  unfold excT
  simp
  omega
theorem side_text_eq {k : Ky} (h : KyS k) (S : Sto) : F_side_text [.py (encK k)] S = .ok (.py (tx (keyT k))) S := by
  have is := fun T => isi_keyT k T
  unfold F_side_text b_side_text
  refine fn_eq (wp_fn ?_)
  cases k with
  | l c =>
    simp [init, is]
    first | exact ⟨.self, rfl⟩ | exact ⟨S, .self, rfl, rfl, rfl⟩ | exact ⟨S, .self, rfl, rfl⟩ | exact ⟨S, .self, rfl, trivial, rfl⟩
  | n i =>
    have hi : i ≤ 9 := h
    have sn := fun T => str_num (i := (i : Nat)) (by omega) T
    have ad := fun T => add_tx (a := [64]) (b := numS (i : Nat)) (by have := numS_len (i := (i : Nat)) (by omega); simp; omega) T
    rw [at_st]
    have e : encK (.n i) = .int (i : Nat) := rfl
    simp only [e] at is ⊢
    simp [init, is, sn, ad]
    first | exact ⟨.self, rfl⟩ | exact ⟨S, .self, rfl, rfl, rfl⟩ | exact ⟨S, .self, rfl, rfl⟩ | exact ⟨S, .self, rfl, trivial, rfl⟩
theorem exT_ne {es : List Exc} (ho : ExOk es) (h : es ≠ []) (S : Sto) : eqD (.py (.tuple (es.map encE))) (.py (.tuple [])) S = .ok (.py (.bool false)) S := by
  rw [eqD_deep rfl ((exc_fit ho).shaped (by decide)) ((Fit.tuple (FitL.nil (k := 0) (w := 0))).shaped (by decide))]
  rw [PyData.eqv.eq_8]
  cases es with
  | nil => exact absurd rfl h
  | cons a g => rfl
theorem exceptions_text_eq {es : List Exc} (h : ExS es) (S : Sto) : F_exceptions_text [.py (.tuple (es.map encE))] S = .ok (.py (tx (excsT es))) S := by
  unfold F_exceptions_text b_exceptions_text excsT
  refine fn_eq (wp_fn ?_)
  rw [dash_st, semi_st, blank_sx]
  by_cases h0 : es = []
  · subst h0
    have en : ∀ T, eqD (.py (.tuple [])) (.py (.tuple [])) T = .ok (.py (.bool true)) T := fun T => rfl
    simp [init, en]
    first | exact ⟨.self, rfl⟩ | exact ⟨S, .self, rfl, rfl, rfl⟩ | exact ⟨S, .self, rfl, rfl⟩ | exact ⟨S, .self, rfl, trivial, rfl⟩
  · have en := fun T => exT_ne h.ok h0 T
    simp [init, en, h0]
    refine wp_pureM (fun e => D.py (encE e)) (fun _ => true) (fun e => D.py (tx (excT e))) (fun e he => ?_) ?_
    · obtain ⟨k1, k2⟩ := h.ky e he
      have g := h.gap e he
      have l1 := keyT_len k1
      have l2 := keyT_len k2
      have l3 := numS_len g
      have s1 := fun T => side_text_eq k1 T
      have s2 := fun T => side_text_eq k2 T
      have sn := fun T => str_num g T
      have a1 := fun T => add_tx (a := keyT e.1) (b := keyT e.2.1) (by omega) T
      have a2 := fun T => add_tx (a := keyT e.1 ++ keyT e.2.1) (b := [32]) (by simp; omega) T
      have a3 := fun T => add_tx (a := keyT e.1 ++ keyT e.2.1 ++ [32]) (b := numS e.2.2) (by simp; omega) T
      simp [s1, s2, sn, a1, a2, a3, excT, -List.append_assoc]
      simp
    rw [List.filter_eq_self.mpr fun _ _ => rfl]
    have e1 : (es.map fun e => D.py (tx (excT e))) = ((es.map excT).map tx).map D.py := by rw [List.map_map, List.map_map]; rfl
    rw [e1, pysOf_map]
    have jn := fun T => join_list (x := st [32, 59, 32]) (ws := es.map excT) (k := 9) (n := 2000) rfl (fun w hw => by
      obtain ⟨e, he, rfl⟩ := List.mem_map.mp hw
      exact excT_len (h.ky e he).1 (h.ky e he).2 (h.gap e he)) (by rw [List.length_map]; exact h.few) (by decide) T
    simp only [jn, wp_ok]
    first | exact ⟨.self, rfl⟩ | exact ⟨S, .self, rfl, rfl, rfl⟩ | exact ⟨S, .self, rfl, rfl⟩ | exact ⟨S, .self, rfl, trivial, rfl⟩
theorem js_none : ∀ ws : List (List Nat), jS [] ws = ws.flatten
  | [] => rfl
  | [w] => by simp [jS, TL.joinL]
  | w :: v :: r => by
    show w ++ ([] ++ jS [] (v :: r)) = _
    rw [js_none (v :: r)]
    simp
theorem lts_tx (g : List Nat) : g.map lt = (g.map fun c => [c]).map tx := by rw [List.map_map]; rfl
theorem one_flat (g : List Nat) : (g.map fun c => [c]).flatten = g := by
  induction g with
  | nil => rfl
  | cons a g ih => simpa using ih
theorem join_none {g : List Nat} (h : g.length ≤ 1000) (S : Sto) : joinD (.py (.str (Str.ofString ""))) [.py (.tuple (g.map lt))] S = .ok (.py (tx g)) S := by
  have := join_tup (sep := []) (x := Str.ofString "") (ws := g.map fun c => [c]) (k := 1) (n := 1000) none_st (fun w hw => by
    obtain ⟨c, _, rfl⟩ := List.mem_map.mp hw
    exact Nat.le_refl _) (by simpa using h) (by decide) S
  rw [← lts_tx, js_none, one_flat] at this
  exact this
structure PtS (G : List (List Nat)) : Prop where
  few : G.length ≤ 10
  row : ∀ g ∈ G, g.length ≤ 10
  pos : G ≠ []
  ne : ∀ g ∈ G, g ≠ []
  lts : ∀ g ∈ G, ∀ c ∈ g, 97 ≤ c ∧ c ≤ 122
theorem parting_text_eq {G : List (List Nat)} (h : PtS G) (S : Sto) : F_parting_text [.py (encG G)] S = .ok (.py (tx (jS [32] G))) S := by
  unfold F_parting_text b_parting_text
  refine fn_eq (wp_fn ?_)
  simp [init]
  refine wp_pureM1 (D.py ∘ fun g : List Nat => .tuple (g.map lt)) (fun g => D.py (tx g)) (fun g hg => wp_eq ?_) ?_
  · have := fun T => join_none (g := g) (by have := h.row g hg; omega) T
    simp [this]
  have e1 : (G.map fun g => D.py (tx g)) = (G.map tx).map D.py := by rw [List.map_map]; rfl
  rw [e1, pysOf_map]
  have jn := fun T => join_list (sep := [32]) (x := Str.ofString " ") (ws := G) (k := 10) (n := 10) blank_sx h.row h.few (by decide) T
  simp only [jn, wp_ok]
  first | exact ⟨.self, rfl⟩ | exact ⟨S, .self, rfl, rfl, rfl⟩ | exact ⟨S, .self, rfl, rfl⟩ | exact ⟨S, .self, rfl, trivial, rfl⟩
structure TxS (t : Tab) : Prop where
  lp : PtS t.lefts
  rp : PtS t.rights
  gf : t.gaps.length ≤ 10
  gp : t.gaps ≠ []
  gr : ∀ r ∈ t.gaps, r.length ≤ 10 ∧ r ≠ []
  gb : ∀ r ∈ t.gaps, ∀ x ∈ r, -9 ≤ x ∧ x ≤ 9
  ex : ExS t.exc
theorem row_len {r : List Int} (h : r.length ≤ 10) (hb : ∀ x ∈ r, -9 ≤ x ∧ x ≤ 9) : (jS [32] (r.map numS)).length ≤ 30 := js_le (sep := [32]) (ws := r.map numS) (k := 2) (n := 10) (fun w hw => by
  obtain ⟨x, hx, rfl⟩ := List.mem_map.mp hw
  exact numS_len (hb x hx)) (by simpa using h)
theorem row_text {r : List Int} (h : r.length ≤ 10) (hb : ∀ x ∈ r, -9 ≤ x ∧ x ≤ 9) (S : Sto) : joinD (.py (.str (Str.ofString " "))) [.py (.list (r.map fun x => tx (numS x)))] S = .ok (.py (tx (jS [32] (r.map numS)))) S := by
  have := join_list (sep := [32]) (x := Str.ofString " ") (ws := r.map numS) (k := 2) (n := 10) blank_sx (fun w hw => by
    obtain ⟨x, hx, rfl⟩ := List.mem_map.mp hw
    exact numS_len (hb x hx)) (by simpa using h) (by decide) S
  rw [List.map_map] at this
  exact this
theorem rows_text {R : List (List Int)} (hf : R.length ≤ 10) (h : ∀ r ∈ R, r.length ≤ 10) (hb : ∀ r ∈ R, ∀ x ∈ r, -9 ≤ x ∧ x ≤ 9) (S : Sto) : joinD (.py (.str (Str.ofString " , "))) [.py (.list (R.map fun r => tx (jS [32] (r.map numS))))] S = .ok (.py (tx (rowsT R))) S := by
  have := join_list (sep := [32, 44, 32]) (x := Str.ofString " , ") (ws := R.map fun r => jS [32] (r.map numS)) (k := 30) (n := 10) comma_st (fun w hw => by
    obtain ⟨r, hr, rfl⟩ := List.mem_map.mp hw
    exact row_len (h r hr) (hb r hr)) (by simpa using hf) (by decide) S
  rw [List.map_map] at this
  exact this
theorem excs_len {es : List Exc} (h : ExS es) : (excsT es).length ≤ 24000 := by
  unfold excsT
  split
  · simp
  · exact js_le (sep := [32, 59, 32]) (k := 9) (n := 2000) (fun w hw => by
      obtain ⟨e, he, rfl⟩ := List.mem_map.mp hw
      exact excT_len (h.ky e he).1 (h.ky e he).2 (h.gap e he)) (by simpa using h.few)
theorem rows_len {R : List (List Int)} (hf : R.length ≤ 10) (h : ∀ r ∈ R, r.length ≤ 10) (hb : ∀ r ∈ R, ∀ x ∈ r, -9 ≤ x ∧ x ≤ 9) : (rowsT R).length ≤ 330 := js_le (sep := [32, 44, 32]) (k := 30) (n := 10) (fun w hw => by
  obtain ⟨r, hr, rfl⟩ := List.mem_map.mp hw
  exact row_len (h r hr) (hb r hr)) (by simpa using hf)
theorem four_len {t : Tab} (h : TxS t) : ∀ w ∈ [jS [32] t.lefts, jS [32] t.rights, rowsT t.gaps, excsT t.exc], w.length ≤ 24000 := by
  intro w hw
  simp only [List.mem_cons, List.not_mem_nil, or_false] at hw
  rcases hw with rfl | rfl | rfl | rfl
  · have := js_le (sep := [32]) (k := 10) (n := 10) h.lp.row h.lp.few
    simp at this
    omega
  · have := js_le (sep := [32]) (k := 10) (n := 10) h.rp.row h.rp.few
    simp at this
    omega
  · have := rows_len h.gf (fun r hr => (h.gr r hr).1) h.gb
    omega
  · exact excs_len h.ex
theorem four_text {t : Tab} (h : TxS t) (S : Sto) : joinD (.py (.str (Str.ofString " / "))) [.py (.list [tx (jS [32] t.lefts), tx (jS [32] t.rights), tx (rowsT t.gaps), tx (excsT t.exc)])] S = .ok (.py (tx (tabT t))) S :=
  join_list (sep := [32, 47, 32]) (x := Str.ofString " / ") (ws := [jS [32] t.lefts, jS [32] t.rights, rowsT t.gaps, excsT t.exc]) (k := 24000) (n := 4) slash_st (four_len h) (by simp) (by decide) S
theorem text_of_eq {t : Tab} (h : TxS t) (S : Sto) : F_text_of [.py t.py] S = .ok (.py (tx (tabT t))) S := by
  have p1 := fun T => parting_text_eq h.lp T
  have p2 := fun T => parting_text_eq h.rp T
  have ex := fun T => exceptions_text_eq h.ex T
  have rt := fun T => rows_text h.gf (fun r hr => (h.gr r hr).1) h.gb T
  have ft := fun T => four_text h T
  unfold F_text_of b_text_of
  refine fn_eq (wp_fn ?_)
  simp [init, -List.map_map]
  rw [List.map_map]
  refine wp_pureM1 (D.py ∘ tupI) (fun r => D.py (tx (jS [32] (r.map numS)))) (fun r hr => wp_eq ?_) ?_
  · have rt := fun T => row_text (h.gr r hr).1 (h.gb r hr) T
    simp [tupI, -List.map_map]
    rw [List.map_map]
    refine wp_pureM1 (D.py ∘ PyData.int) (fun x => D.py (tx (numS x))) (fun x hx => wp_eq ?_) ?_
    · have := fun T => str_num (h.gb r hr x hx) T
      simp [this]
    have e1 : (r.map fun x => D.py (tx (numS x))) = (r.map fun x => tx (numS x)).map D.py := by rw [List.map_map]; rfl
    rw [e1, pysOf_map]
    simp only [rt, wp_ok]
    exact ⟨trivial, trivial⟩
  have e1 : (t.gaps.map fun r => D.py (tx (jS [32] (r.map numS)))) = (t.gaps.map fun r => tx (jS [32] (r.map numS))).map D.py := by rw [List.map_map]; rfl
  rw [e1, pysOf_map]
  simp only [rt, wp_ok]
  simp [p1, p2, ex, pysOf, ft]
  first | exact ⟨.self, rfl⟩ | exact ⟨S, .self, rfl, rfl, rfl⟩ | exact ⟨S, .self, rfl, rfl⟩ | exact ⟨S, .self, rfl, trivial, rfl⟩ | exact .self
theorem table_text_eq {f : Face} {t : Tab} (h : TxS t) (hT : TabIn f.lets t) (nd : f.lets.Nodup) (b : ∀ c ∈ f.lets, c ≤ 122) (h1 : f.ls.length ≤ 20) (S : Sto) : F_table_text [.py f.py, .py t.py] S = .ok (.py (tx (tabT t))) S := by
  have e1 := need_table_eq hT nd b h1
  have e2 := fun T => text_of_eq h T
  unfold F_table_text b_table_text
  refine fn_eq (wp_fn ?_)
  generalize t.py = p at *
  simp [init, e1, e2]
  first | exact ⟨.self, rfl⟩ | exact ⟨S, .self, rfl, rfl, rfl⟩ | exact ⟨S, .self, rfl, rfl⟩ | exact ⟨S, .self, rfl, trivial, rfl⟩ | exact .self
end DV

set_option maxHeartbeats 4000000
namespace DV
open PySem
/-! The text of a table, read again. -/
theorem mem_js {sep : List Nat} {c : Nat} {w : List Nat} : ∀ {ws : List (List Nat)}, w ∈ ws → c ∈ w → c ∈ jS sep ws
  | [v], h, hc => by
    rw [List.mem_singleton.mp h] at hc
    exact hc
  | v :: u :: r, h, hc => by
    show c ∈ v ++ (sep ++ jS sep (u :: r))
    rcases List.mem_cons.mp h with e | h
    · exact List.mem_append.mpr (.inl (e ▸ hc))
    · exact List.mem_append.mpr (.inr (List.mem_append.mpr (.inr (mem_js h hc))))
/-- signs of a number -/
theorem numS_not {i : Int} (h : -9 ≤ i ∧ i ≤ 9) {c : Nat} (hc : c < 45 ∨ 57 < c ∨ c = 47 ∨ c = 46) : c ∉ numS i := fun hm => by
  have := (num_ok h).sgn c hm
  omega
theorem keyT_not {k : Ky} (h : KyS k) {c : Nat} (hc : (c < 45 ∨ 57 < c ∨ c = 47 ∨ c = 46) ∧ c < 97 ∧ c ≠ 64) : c ∉ keyT k := by
  cases k with
  | l a =>
    have : 97 ≤ a ∧ a ≤ 122 := h
    simp [keyT]
    omega
  | n i =>
    have hi : i ≤ 9 := h
    have := numS_not (i := (i : Nat)) (by omega) hc.1
    simp only [keyT, List.mem_cons]
    intro q
    rcases q with q | q
    · omega
    · exact this q
theorem excT_not {e : Exc} (h1 : KyS e.1) (h2 : KyS e.2.1) (h3 : -9 ≤ e.2.2 ∧ e.2.2 ≤ 9) {c : Nat} (hc : (c < 45 ∨ 57 < c ∨ c = 47 ∨ c = 46) ∧ c < 97 ∧ c ≠ 64) (h32 : c ≠ 32) : c ∉ excT e := by
  unfold excT
  simp only [List.mem_append, List.mem_cons]
  rintro ((q | q) | q | q)
  · exact keyT_not h1 hc q
  · exact keyT_not h2 hc q
  · exact h32 q
  · exact numS_not h3 hc.1 q
inductive KyPair : Ky → Ky → Prop
  | ll {a b : Nat} : KyPair (.l a) (.l b)
  | ln {a j : Nat} : KyPair (.l a) (.n j)
  | nl {i b : Nat} : KyPair (.n i) (.l b)
theorem sides_in_eq {x y : Ky} (h : KyPair x y) (hx : KyS x) (hy : KyS y) (S : Sto) : F_sides_in [.py (tx (keyT x ++ keyT y))] S = .ok (.py (.tuple [encK x, encK y])) S := by
  unfold F_sides_in b_sides_in
  refine fn_eq (wp_fn ?_)
  rw [at_st]
  cases h with
  | @ll a b =>
    have ha : 97 ≤ a ∧ a ≤ 122 := hx
    have hb : 97 ≤ b ∧ b ≤ 122 := hy
    have s1 : ∀ T, sliceV (.py (tx [a, b])) none (some 1) T = .ok (.py (tx [a])) T := fun T => sl_tx_to (w := [a, b]) (n := 1) (by simp) (by simp) T
    have s2 : ∀ T, sliceV (.py (tx [a, b])) (some 1) (some 2) T = .ok (.py (tx [b])) T := fun T => sl_tx_mid (w := [a, b]) (a := 1) (b := 2) (by decide) (by simp) (by simp) T
    have s3 : ∀ T, sliceV (.py (tx [a, b])) (some 1) none T = .ok (.py (tx [b])) T := fun T => sl_tx_from (w := [a, b]) (n := 1) (by simp) T
    have e1 : ∀ T, eqD (.py (tx [a])) (.py (tx [64])) T = .ok (.py (.bool false)) T := fun T => by
      rw [eq_tx, decide_eq_false (by simp; omega)]
    have e2 : ∀ T, eqD (.py (tx [b])) (.py (tx [64])) T = .ok (.py (.bool false)) T := fun T => by
      rw [eq_tx, decide_eq_false (by simp; omega)]
    have ek : keyT (.l a) ++ keyT (.l b) = [a, b] := rfl
    rw [ek]
    simp [init, s1, s2, s3, e1, e2, pysOf]
    first | exact ⟨.self, rfl⟩ | exact ⟨S, .self, rfl, rfl, rfl⟩ | exact ⟨S, .self, rfl, rfl⟩ | exact ⟨S, .self, rfl, trivial, rfl⟩ | exact .self | exact ⟨.self, rfl, rfl⟩ | exact ⟨S, .self, rfl, ⟨rfl, rfl⟩, rfl⟩ | exact ⟨S, .self, ⟨rfl, rfl⟩, rfl⟩ | exact ⟨.self, ⟨rfl, rfl⟩⟩
  | @ln a j =>
    have ha : 97 ≤ a ∧ a ≤ 122 := hx
    have hj : j ≤ 9 := hy
    have nl := one_dig hj
    have ni := fun T => number_in_eq (i := (j : Nat)) (by omega) T
    rw [nl] at ni
    have s1 : ∀ T, sliceV (.py (tx [a, 64, 48 + j])) none (some 1) T = .ok (.py (tx [a])) T := fun T => sl_tx_to (w := [a, 64, 48 + j]) (n := 1) (by simp) (by simp) T
    have s2 : ∀ T, sliceV (.py (tx [a, 64, 48 + j])) (some 1) (some 2) T = .ok (.py (tx [64])) T := fun T => sl_tx_mid (w := [a, 64, 48 + j]) (a := 1) (b := 2) (by decide) (by simp) (by simp) T
    have s3 : ∀ T, sliceV (.py (tx [a, 64, 48 + j])) (some 2) none T = .ok (.py (tx [48 + j])) T := fun T => sl_tx_from (w := [a, 64, 48 + j]) (n := 2) (by simp) T
    have e1 : ∀ T, eqD (.py (tx [a])) (.py (tx [64])) T = .ok (.py (.bool false)) T := fun T => by
      rw [eq_tx, decide_eq_false (by simp; omega)]
    have e2 : ∀ T, eqD (.py (tx [64])) (.py (tx [64])) T = .ok (.py (.bool true)) T := fun T => by
      rw [eq_tx]
      simp
    have ek : keyT (.l a) ++ keyT (.n j) = [a, 64, 48 + j] := by simp [keyT, nl]
    rw [ek]
    simp [init, s1, s2, s3, e1, e2, ni, pysOf]
    first | exact ⟨.self, rfl⟩ | exact ⟨S, .self, rfl, rfl, rfl⟩ | exact ⟨S, .self, rfl, rfl⟩ | exact ⟨S, .self, rfl, trivial, rfl⟩ | exact .self | exact ⟨.self, rfl, rfl⟩ | exact ⟨S, .self, rfl, ⟨rfl, rfl⟩, rfl⟩ | exact ⟨S, .self, ⟨rfl, rfl⟩, rfl⟩ | exact ⟨.self, ⟨rfl, rfl⟩⟩
  | @nl i b =>
    have hb : 97 ≤ b ∧ b ≤ 122 := hy
    have hj : i ≤ 9 := hx
    have nl := one_dig hj
    have ni := fun T => number_in_eq (i := (i : Nat)) (by omega) T
    rw [nl] at ni
    have s1 : ∀ T, sliceV (.py (tx [64, 48 + i, b])) none (some 1) T = .ok (.py (tx [64])) T := fun T => sl_tx_to (w := [64, 48 + i, b]) (n := 1) (by simp) (by simp) T
    have s2 : ∀ T, sliceV (.py (tx [64, 48 + i, b])) (some 1) (some 2) T = .ok (.py (tx [48 + i])) T := fun T => sl_tx_mid (w := [64, 48 + i, b]) (a := 1) (b := 2) (by decide) (by simp) (by simp) T
    have s3 : ∀ T, sliceV (.py (tx [64, 48 + i, b])) (some 2) none T = .ok (.py (tx [b])) T := fun T => sl_tx_from (w := [64, 48 + i, b]) (n := 2) (by simp) T
    have e2 : ∀ T, eqD (.py (tx [64])) (.py (tx [64])) T = .ok (.py (.bool true)) T := fun T => by
      rw [eq_tx]
      simp
    have ek : keyT (.n i) ++ keyT (.l b) = [64, 48 + i, b] := by simp [keyT, nl]
    rw [ek]
    simp [init, s1, s2, s3, e2, ni, pysOf]
    first | exact ⟨.self, rfl⟩ | exact ⟨S, .self, rfl, rfl, rfl⟩ | exact ⟨S, .self, rfl, rfl⟩ | exact ⟨S, .self, rfl, trivial, rfl⟩ | exact .self | exact ⟨.self, rfl, rfl⟩ | exact ⟨S, .self, rfl, ⟨rfl, rfl⟩, rfl⟩ | exact ⟨S, .self, ⟨rfl, rfl⟩, rfl⟩ | exact ⟨.self, ⟨rfl, rfl⟩⟩
theorem sz_okT {n : Nat} (h : n ≤ 10000) : n < sizeLine := by rw [show sizeLine = 16777216 from rfl]; omega
theorem exceptions_by_eq {es : List Exc} (h : ExS es) (hp : ∀ e ∈ es, KyPair e.1 e.2.1) (S : Sto) : F_exceptions_by [.py (tx (excsT es))] S = .ok (.py (.tuple (es.map encE))) S := by
  unfold F_exceptions_by b_exceptions_by
  refine fn_eq (wp_fn ?_)
  rw [dash_st, semi_st, blank_sx]
  by_cases h0 : es = []
  · subst h0
    have e1 : ∀ T, eqD (.py (tx [45])) (.py (tx [45])) T = .ok (.py (.bool true)) T := fun T => by
      rw [eq_tx]
      simp
    simp [init, excsT, e1, pysOf]
    first | exact ⟨.self, rfl⟩ | exact ⟨S, .self, rfl, rfl, rfl⟩ | exact ⟨S, .self, rfl, rfl⟩ | exact ⟨S, .self, rfl, trivial, rfl⟩ | exact .self | exact ⟨.self, rfl, rfl⟩ | exact ⟨S, .self, rfl, ⟨rfl, rfl⟩, rfl⟩ | exact ⟨S, .self, ⟨rfl, rfl⟩, rfl⟩ | exact ⟨.self, ⟨rfl, rfl⟩⟩
  · have ex : excsT es = jS [32, 59, 32] (es.map excT) := by unfold excsT; rw [if_neg h0]
    rw [ex]
    have hl : ∀ w ∈ es.map excT, w.length ≤ 9 := fun w hw => by
      obtain ⟨e, he, rfl⟩ := List.mem_map.mp hw
      exact excT_len (h.ky e he).1 (h.ky e he).2 (h.gap e he)
    have n59 : ∀ w ∈ es.map excT, 59 ∉ w := fun w hw => by
      obtain ⟨e, he, rfl⟩ := List.mem_map.mp hw
      exact excT_not (h.ky e he).1 (h.ky e he).2 (h.gap e he) (by omega) (by omega)
    have ne : jS [32, 59, 32] (es.map excT) ≠ [45] := fun q => by
      obtain ⟨e, he⟩ := List.exists_mem_of_ne_nil es h0
      have : (32 : Nat) ∈ jS [32, 59, 32] (es.map excT) := mem_js (w := excT e) (List.mem_map.mpr ⟨e, he, rfl⟩) (by simp [excT])
      rw [q] at this
      simp at this
    have e1 : ∀ T, eqD (.py (tx (jS [32, 59, 32] (es.map excT)))) (.py (tx [45])) T = .ok (.py (.bool false)) T := fun T => by
      rw [eq_tx, decide_eq_false ne]
    have sp := fun T => split_m (x := st [32, 59, 32]) (m := 59) rfl (by decide) (by decide) (parts := es.map excT) (k := 9) (n := 2000) (by simpa using h0) n59 hl (by simpa using h.few) (by decide) T
    simp [init, e1, sp, -wp_forL_cons, -List.map_map]
    rw [stL_nil, List.map_map, List.map_map]
    refine wp_forM (D.py ∘ tx ∘ excT) (fun pre σ T => wipeD σ [2, 3, 4, 5, 6, 7] = [some (D.py (tx (jS [32, 59, 32] (List.map excT es)))), some (D.obj (List.length S)), none, none, none, none, none, none] ∧ T = stL S (pre.map encE)) ⟨rfl, rfl⟩ ?_ ?_
    · rintro pre e post σ T q ⟨hσ, rfl⟩
      obtain ⟨v2, v3, v4, v5, v6, v7, rfl⟩ := slot6 hσ
      clear hσ
      have he : e ∈ es := by rw [q]; simp
      obtain ⟨k1, k2⟩ := h.ky e he
      have g := h.gap e he
      have l1 := keyT_len k1
      have l2 := keyT_len k2
      have l3 := numS_len g
      have n32 : 32 ∉ keyT e.1 ++ keyT e.2.1 := fun hm => by
        rcases List.mem_append.mp hm with hm | hm
        · exact keyT_not k1 (by omega) hm
        · exact keyT_not k2 (by omega) hm
      have pt := fun T => part_b (x := st [32]) rfl n32 (b := numS e.2.2) (by simp; omega) T
      have si := fun T => sides_in_eq (hp e he) k1 k2 T
      have ni := fun T => number_in_eq g T
      have lp : pre.length < 2000 := by
        have := congrArg List.length q
        have := h.few
        simp at *
        omega
      have ap := stL_app (S := S) (ds := pre.map encE) (d := encE e) (by rw [List.length_map]; exact sz_okT (by omega))
      have er : (pre ++ [e]).map encE = pre.map encE ++ [encE e] := by rw [List.map_append]; rfl
      rw [er]
      have ee : excT e = keyT e.1 ++ keyT e.2.1 ++ 32 :: numS e.2.2 := rfl
      simp [ee, pt, si, ni, ap, pysOf, -List.append_assoc, -List.map_append]
    · rintro σ T ⟨hσ, rfl⟩
      obtain ⟨v2, v3, v4, v5, v6, v7, rfl⟩ := slot6 hσ
      simp
      first | exact ⟨.stL, rfl⟩ | exact ⟨S, .stL, rfl, rfl, rfl⟩ | exact ⟨S, .stL, rfl, rfl⟩ | exact .stL
end DV

set_option maxHeartbeats 4000000
namespace DV
open PySem
/-! A table read. -/
theorem parting_by_eq {G : List (List Nat)} (h : PtS G) (S : Sto) : F_parting_by [.py (tx (jS [32] G))] S = .ok (.py (encG G)) S := by
  have sp := fun T => split_b (x := st [32]) rfl (parts := G) (k := 10) (n := 10) h.pos (fun g hg hm => by
    have := h.lts g hg 32 hm
    omega) h.row h.few (by decide) T
  unfold F_parting_by b_parting_by
  refine fn_eq (wp_fn ?_)
  rw [blank_sx]
  simp [init, sp, -List.map_map]
  rw [List.map_map]
  refine wp_pureM1 (D.py ∘ tx) (fun g => D.py (.tuple (g.map lt))) (fun g hg => wp_eq ?_) ?_
  · have ls : ∀ T, listD [.py (tx g)] T = .ok ((g.map lt).map D.py) T := fun T => by
      rw [listD_str (by rw [show sizeLine = 16777216 from rfl]; show g.length ≤ _; have := h.row g hg; omega), List.map_map]
      rfl
    simp [ls, -List.map_map]
  have e1 : (G.map fun g => D.py (.tuple (g.map lt))) = (G.map fun g => .tuple (g.map lt)).map D.py := by rw [List.map_map]; rfl
  rw [e1, pysOf_map]
  simp
  first | exact ⟨.self, rfl⟩ | exact ⟨S, .self, rfl, rfl, rfl⟩ | exact ⟨S, .self, rfl, rfl⟩ | exact .self
theorem four_not {t : Tab} (h : TxS t) : ∀ w ∈ [jS [32] t.lefts, jS [32] t.rights, rowsT t.gaps, excsT t.exc], 47 ∉ w := by
  have pt : ∀ {G : List (List Nat)}, PtS G → 47 ∉ jS [32] G := fun hG hm => by
    rcases js_mem hm with q | ⟨g, hg, q⟩
    · simp at q
    · have := hG.lts g hg 47 q
      omega
  intro w hw
  simp only [List.mem_cons, List.not_mem_nil, or_false] at hw
  rcases hw with rfl | rfl | rfl | rfl
  · exact pt h.lp
  · exact pt h.rp
  · intro hm
    rcases js_mem hm with q | ⟨w, hw, q⟩
    · simp at q
    · obtain ⟨r, hr, rfl⟩ := List.mem_map.mp hw
      rcases js_mem q with q | ⟨w, hw, q⟩
      · simp at q
      · obtain ⟨x, hx, rfl⟩ := List.mem_map.mp hw
        exact numS_not (h.gb r hr x hx) (by omega) q
  · unfold excsT
    split
    · simp
    · intro hm
      rcases js_mem hm with q | ⟨w, hw, q⟩
      · simp at q
      · obtain ⟨e, he, rfl⟩ := List.mem_map.mp hw
        exact excT_not (h.ex.ky e he).1 (h.ex.ky e he).2 (h.ex.gap e he) (by omega) (by omega) q
theorem table_read_eq {f : Face} {t : Tab} (h : TxS t) (hp : ∀ e ∈ t.exc, KyPair e.1 e.2.1) (hT : TabIn f.lets t) (nd : f.lets.Nodup) (b : ∀ c ∈ f.lets, c ≤ 122) (h1 : f.ls.length ≤ 20) (S : Sto) : F_table_read [.py f.py, .py (tx (tabT t))] S = .ok (.py t.py) S := by
  have sp := fun T => split_m (x := st [32, 47, 32]) (m := 47) rfl (by decide) (by decide) (parts := [jS [32] t.lefts, jS [32] t.rights, rowsT t.gaps, excsT t.exc]) (k := 24000) (n := 4) (by simp) (four_not h) (four_len h) (by simp) (by decide) T
  have sp' : ∀ T, splitD (.py (tx (tabT t))) [.py (.str (st [32, 47, 32]))] T = .ok ([tx (jS [32] t.lefts), tx (jS [32] t.rights), tx (rowsT t.gaps), tx (excsT t.exc)].map D.py) T := sp
  have p1 := fun T => parting_by_eq h.lp T
  have p2 := fun T => parting_by_eq h.rp T
  have ex := fun T => exceptions_by_eq h.ex hp T
  have it := fun T => is_table_eq hT nd b h1 T
  have tt := fun T => text_of_eq h T
  have srow : ∀ r ∈ t.gaps, ∀ T, splitD (.py (tx (jS [32] (r.map numS)))) [.py (.str (st [32]))] T = .ok (((r.map numS).map tx).map D.py) T := fun r hr T => split_b (x := st [32]) rfl (parts := r.map numS) (k := 2) (n := 10) (by simpa using (h.gr r hr).2) (fun w hw => by
    obtain ⟨x, hx, rfl⟩ := List.mem_map.mp hw
    exact numS_not (h.gb r hr x hx) (by omega)) (fun w hw => by
    obtain ⟨x, hx, rfl⟩ := List.mem_map.mp hw
    exact numS_len (h.gb r hr x hx)) (by simpa using (h.gr r hr).1) (by decide) T
  have srows : ∀ T, splitD (.py (tx (rowsT t.gaps))) [.py (.str (st [32, 44, 32]))] T = .ok (((t.gaps.map fun r => jS [32] (r.map numS)).map tx).map D.py) T := fun T => split_m (x := st [32, 44, 32]) (m := 44) rfl (by decide) (by decide) (parts := t.gaps.map fun r : List Int => jS [32] (r.map numS)) (k := 30) (n := 10) (by simpa using h.gp) (fun w hw hm => by
    obtain ⟨r, hr, rfl⟩ := List.mem_map.mp hw
    rcases js_mem hm with q | ⟨w, hw, q⟩
    · simp at q
    · obtain ⟨x, hx, rfl⟩ := List.mem_map.mp hw
      exact numS_not (h.gb r hr x hx) (by omega) q) (fun w hw => by
    obtain ⟨r, hr, rfl⟩ := List.mem_map.mp hw
    exact row_len (h.gr r hr).1 (h.gb r hr)) (by simpa using h.gf) (by decide) T
  have e4 : ∀ T, lenD [.py (.list [tx (jS [32] t.lefts), tx (jS [32] t.rights), tx (rowsT t.gaps), tx (excsT t.exc)])] T = .ok (.py (.int 4)) T := fun T => rfl
  have q4 : ∀ T, eqD (.py (.int 4)) (.py (.int 4)) T = .ok (.py (.bool true)) T := fun T => rfl
  have j0 : ∀ T, itemD (.py (.list [tx (jS [32] t.lefts), tx (jS [32] t.rights), tx (rowsT t.gaps), tx (excsT t.exc)])) (.py (.int 0)) T = .ok (.py (tx (jS [32] t.lefts))) T := fun T => itemD_list 0 rfl
  have j1 : ∀ T, itemD (.py (.list [tx (jS [32] t.lefts), tx (jS [32] t.rights), tx (rowsT t.gaps), tx (excsT t.exc)])) (.py (.int 1)) T = .ok (.py (tx (jS [32] t.rights))) T := fun T => itemD_list 1 rfl
  have j2 : ∀ T, itemD (.py (.list [tx (jS [32] t.lefts), tx (jS [32] t.rights), tx (rowsT t.gaps), tx (excsT t.exc)])) (.py (.int 2)) T = .ok (.py (tx (rowsT t.gaps))) T := fun T => itemD_list 2 rfl
  have j3 : ∀ T, itemD (.py (.list [tx (jS [32] t.lefts), tx (jS [32] t.rights), tx (rowsT t.gaps), tx (excsT t.exc)])) (.py (.int 3)) T = .ok (.py (tx (excsT t.exc))) T := fun T => itemD_list 3 rfl
  have isT : ∀ T, isiD "str" (.py (tx (tabT t))) T = .ok (.py (.bool true)) T := fun T => rfl
  have eqt : ∀ T, eqD (.py (tx (tabT t))) (.py (tx (tabT t))) T = .ok (.py (.bool true)) T := fun T => by
    rw [eq_tx]
    simp
  unfold F_table_read b_table_read
  refine fn_eq (wp_fn ?_)
  rw [slash_st, comma_st, blank_sx]
  generalize jS [32] t.lefts = w1 at *
  generalize jS [32] t.rights = w2 at *
  generalize rowsT t.gaps = w3 at *
  generalize excsT t.exc = w4 at *
  generalize tabT t = W at *
  simp [init, isT, sp', pysOf, e4, q4, j0, j1, j2, j3, srows, -List.map_map]
  rw [List.map_map, List.map_map]
  refine wp_pureM1 (D.py ∘ tx ∘ fun r : List Int => jS [32] (r.map numS)) (fun r => D.py (tupI r)) (fun r hr => wp_eq ?_) ?_
  · have := srow r hr
    simp [this, -List.map_map]
    rw [List.map_map, List.map_map]
    refine wp_pureM1 (D.py ∘ tx ∘ numS) (fun x => D.py (.int x)) (fun x hx => wp_eq ?_) ?_
    · have := fun T => number_in_eq (h.gb r hr x hx) T
      simp [this]
    have e1 : (r.map fun x => D.py (.int x)) = (r.map PyData.int).map D.py := by rw [List.map_map]; rfl
    rw [e1, pysOf_map]
    simp
  have e1 : (t.gaps.map fun r => D.py (tupI r)) = (t.gaps.map tupI).map D.py := by rw [List.map_map]; rfl
  rw [e1, pysOf_map]
  have ep : PyData.tuple [encG t.lefts, encG t.rights, .tuple (t.gaps.map tupI), .tuple (t.exc.map encE)] = t.py := rfl
  simp [p1, p2, ex, pysOf, -List.map_map]
  rw [ep]
  simp [it, tt, eqt]
  first | exact ⟨.self, rfl⟩ | exact ⟨S, .self, rfl, rfl, rfl⟩ | exact ⟨S, .self, rfl, rfl⟩ | exact .self
end DV

set_option maxHeartbeats 4000000
namespace DV
open PySem
/-! A table's text, as a law writes it. -/
theorem wp_orS {a b : Ex} {σ : En} {S : Sto} {P : D → Sto → Prop} {E : Str → Sto → Prop} : (orS a b σ S).wp P E = (a σ S).wp (fun x S1 => ∃ s, x = .py (.str s) ∧ s.length ≤ sizeLine ∧ if s.length = 0 then (b σ S1).wp P E else P (.py (.str s)) S1) E := by
  unfold orS
  rw [wp_bind]
  congr 1
  funext x S1
  split
  · rename_i s
    rw [wp_iteR]
    split
    · rename_i hz
      rw [wp_iteR]
      exact propext ⟨fun h => ⟨s, rfl, hz, h⟩, fun ⟨_, e, _, h⟩ => by cases e; exact h⟩
    · rename_i hz
      exact propext ⟨fun h => h.elim, fun ⟨_, e, h, _⟩ => by cases e; exact hz h⟩
  · rename_i hn
    exact propext ⟨fun h => h.elim, fun ⟨s, e, _⟩ => (hn s e).elim⟩
theorem law_side_text_eq {k : Ky} (h : KyS k) (S : Sto) : F_law_side_text [.py (encK k)] S = .ok (.py (tx (keyT k))) S := by
  have is := fun T => isi_keyT k T
  unfold F_law_side_text b_law_side_text
  refine fn_eq (wp_fn ?_)
  cases k with
  | l c =>
    simp [init, is]
    first | exact ⟨.self, rfl⟩ | exact ⟨S, .self, rfl, rfl, rfl⟩ | exact ⟨S, .self, rfl, rfl⟩ | exact ⟨S, .self, rfl, trivial, rfl⟩
  | n i =>
    have hi : i ≤ 9 := h
    have sn := fun T => str_num (i := (i : Nat)) (by omega) T
    have ad := fun T => add_tx (a := [64]) (b := numS (i : Nat)) (by have := numS_len (i := (i : Nat)) (by omega); simp; omega) T
    rw [at_st]
    have e : encK (.n i) = .int (i : Nat) := rfl
    simp only [e] at is ⊢
    simp [init, is, sn, ad]
    first | exact ⟨.self, rfl⟩ | exact ⟨S, .self, rfl, rfl, rfl⟩ | exact ⟨S, .self, rfl, rfl⟩ | exact ⟨S, .self, rfl, trivial, rfl⟩
theorem join_part {G : List (List Nat)} (h : PtS G) (S : Sto) : joinD (.py (.str (Str.ofString " "))) [.py (.list (G.map tx))] S = .ok (.py (tx (jS [32] G))) S :=
  join_list (sep := [32]) (x := Str.ofString " ") (ws := G) (k := 10) (n := 10) blank_sx h.row h.few (by decide) S
theorem add_lists {xs ys : List PyData} (h : xs.length + ys.length ≤ sizeLine) (S : Sto) : addD (.py (.list xs)) (.py (.list ys)) S = .ok (.py (.list (xs ++ ys))) S := if_pos h
theorem law_table_text_eq {t : Tab} (h : TxS t) (S : Sto) : F_law_table_text [.py t.py] S = .ok (.py (tx (tabT t))) S := by
  have sl : ∀ T, sliceV (.py t.py) none (some 2) T = .ok (.py (.tuple [encG t.lefts, encG t.rights])) T := fun T => slice_to (n := 2) T
  have i2 : ∀ T, itemD (.py t.py) (.py (.int 2)) T = .ok (.py (encU t.gaps)) T := fun T => itemD_tuple 2 rfl
  have i3 : ∀ T, itemD (.py t.py) (.py (.int 3)) T = .ok (.py (.tuple (t.exc.map encE))) T := fun T => itemD_tuple 3 rfl
  have rt := fun T => rows_text h.gf (fun r hr => (h.gr r hr).1) h.gb T
  have ft := fun T => four_text h T
  unfold F_law_table_text b_law_table_text
  refine fn_eq (wp_fn ?_)
  generalize hp : t.py = p at *
  simp [init, sl]
  rw [show [D.py (encG t.lefts), D.py (encG t.rights)] = [t.lefts, t.rights].map (fun G => D.py (encG G)) from rfl]
  refine wp_pureM1 (fun G => D.py (encG G)) (fun G => D.py (tx (jS [32] G))) (fun G hG => wp_eq ?_) ?_
  · have hP : PtS G := by
      simp only [List.mem_cons, List.not_mem_nil, or_false] at hG
      rcases hG with rfl | rfl
      · exact h.lp
      · exact h.rp
    simp [-List.map_map]
    rw [List.map_map]
    refine wp_pureM1 (D.py ∘ fun g : List Nat => .tuple (g.map lt)) (fun g => D.py (tx g)) (fun g hg => wp_eq ?_) ?_
    · have := fun T => join_none (g := g) (by have := hP.row g hg; omega) T
      simp [this]
    have e1 : (G.map fun g => D.py (tx g)) = (G.map tx).map D.py := by rw [List.map_map]; rfl
    rw [e1, pysOf_map]
    have jp := fun T => join_part hP T
    simp only [jp, wp_ok]
    first | exact ⟨trivial, trivial⟩ | exact trivial | simp
  rw [show [t.lefts, t.rights].map (fun G => D.py (tx (jS [32] G))) = ([tx (jS [32] t.lefts), tx (jS [32] t.rights)] : List PyData).map D.py from rfl]
  have eS : S ++ [O.lst (([tx (jS [32] t.lefts), tx (jS [32] t.rights)] : List PyData).map D.py)] = stL S [tx (jS [32] t.lefts), tx (jS [32] t.rights)] := rfl
  rw [eS]
  simp only [i2, wp_ok]
  refine ⟨_, rfl, ?_⟩
  rw [List.map_map]
  refine wp_pureM1 (D.py ∘ tupI) (fun r => D.py (tx (jS [32] (r.map numS)))) (fun r hr => wp_eq ?_) ?_
  · have rt := fun T => row_text (h.gr r hr).1 (h.gb r hr) T
    simp [tupI, -List.map_map]
    rw [List.map_map]
    refine wp_pureM1 (D.py ∘ PyData.int) (fun x => D.py (tx (numS x))) (fun x hx => wp_eq ?_) ?_
    · have := fun T => str_num (h.gb r hr x hx) T
      simp [this]
    have e1 : (r.map fun x => D.py (tx (numS x))) = (r.map fun x => tx (numS x)).map D.py := by rw [List.map_map]; rfl
    rw [e1, pysOf_map]
    simp only [rt, wp_ok]
    exact ⟨trivial, trivial⟩
  have e1 : (t.gaps.map fun r => D.py (tx (jS [32] (r.map numS)))) = (t.gaps.map fun r => tx (jS [32] (r.map numS))).map D.py := by rw [List.map_map]; rfl
  rw [e1, pysOf_map]
  simp only [rt, wp_ok]
  have ap := stL_app (S := S) (ds := [tx (jS [32] t.lefts), tx (jS [32] t.rights)]) (d := tx (rowsT t.gaps)) (by rw [sl_big']; simp)
  refine wp_of ap ?_
  simp only [i3, wp_ok]
  refine ⟨_, rfl, ?_⟩
  rw [List.map_map]
  refine wp_pureM (D.py ∘ encE) (fun _ => true) (fun e => D.py (tx (excT e))) (fun e he => ?_) ?_
  · obtain ⟨k1, k2⟩ := h.ex.ky e he
    have g := h.ex.gap e he
    have l1 := keyT_len k1
    have l2 := keyT_len k2
    have l3 := numS_len g
    have s1 := fun T => law_side_text_eq k1 T
    have s2 := fun T => law_side_text_eq k2 T
    have sn := fun T => str_num g T
    have a1 := fun T => add_tx (a := keyT e.1) (b := keyT e.2.1) (by omega) T
    have a2 := fun T => add_tx (a := keyT e.1 ++ keyT e.2.1) (b := [32]) (by simp; omega) T
    have a3 := fun T => add_tx (a := keyT e.1 ++ keyT e.2.1 ++ [32]) (b := numS e.2.2) (by simp; omega) T
    rw [blank_sx]
    simp [s1, s2, sn, a1, a2, a3, excT, -List.append_assoc]
    simp
  rw [List.filter_eq_self.mpr fun _ _ => rfl]
  have e2 : (t.exc.map fun e => D.py (tx (excT e))) = ((t.exc.map excT).map tx).map D.py := by simp [Function.comp_def]
  rw [e2, pysOf_map]
  simp only
  refine stL_fix rfl ?_
  simp [wp_orS, -List.map_map]
  have jx := fun T => join_list (sep := [32, 59, 32]) (x := Str.ofString " ; ") (ws := t.exc.map excT) (k := 9) (n := 2000) semi_st (fun w hw => by
    obtain ⟨e, he, rfl⟩ := List.mem_map.mp hw
    exact excT_len (h.ex.ky e he).1 (h.ex.ky e he).2 (h.ex.gap e he)) (by rw [List.length_map]; exact h.ex.few) (by decide) T
  simp only [jx, wp_ok]
  refine ⟨_, rfl, ?_⟩
  have lx : (jS [32, 59, 32] (t.exc.map excT)).length ≤ 24000 := js_le (sep := [32, 59, 32]) (k := 9) (n := 2000) (fun w hw => by
    obtain ⟨e, he, rfl⟩ := List.mem_map.mp hw
    exact excT_len (h.ex.ky e he).1 (h.ex.ky e he).2 (h.ex.gap e he)) (by simpa using h.ex.few)
  have ll : ∀ l : List Nat, (st l).length = l.length := fun l => by simp [Str.length]
  have key : ∀ (l : List Nat) (T : Sto), l = excsT t.exc → (addD (D.py (PyData.list [tx (jS [32] t.lefts), tx (jS [32] t.rights), tx (rowsT t.gaps)])) (D.py (PyData.list [tx l])) T).bind (fun d S1 => joinD (D.py (PyData.str (Str.ofString " / "))) [d] S1) = .ok (.py (tx (tabT t))) T := fun l T e => by
    have ad : addD (D.py (PyData.list [tx (jS [32] t.lefts), tx (jS [32] t.rights), tx (rowsT t.gaps)])) (D.py (PyData.list [tx l])) T = .ok (.py (.list ([tx (jS [32] t.lefts), tx (jS [32] t.rights), tx (rowsT t.gaps)] ++ [tx l]))) T := add_lists (by rw [sl_big']; simp) T
    rw [ad, e]
    exact ft T
  refine ⟨by rw [ll, sl_big']; omega, ?_⟩
  rw [ll]
  by_cases h0 : t.exc = []
  · have e0 : (jS [32, 59, 32] (t.exc.map excT)).length = 0 := by rw [h0]; rfl
    rw [if_pos e0, ← wp_bind, dash_st, key [45] _ (by simp [excsT, h0])]
    simp
    first | exact ⟨.app, rfl⟩ | exact ⟨S, .app, rfl, rfl, rfl⟩ | exact ⟨S, .app, rfl, rfl⟩ | exact .app
  · have e0 : ¬ (jS [32, 59, 32] (t.exc.map excT)).length = 0 := by
      obtain ⟨e, r, he⟩ : ∃ e r, t.exc = e :: r := by
        cases q : t.exc with
        | nil => exact absurd q h0
        | cons a r => exact ⟨a, r, rfl⟩
      rw [he]
      have : 1 ≤ (excT e).length := by simp [excT]; omega
      cases r with
      | nil => simp [jS, TL.joinL]; simp [excT]
      | cons a r =>
        show ¬ (excT e ++ _).length = 0
        rw [List.length_append]
        omega
    rw [if_neg e0, ← wp_bind, key _ _ (by simp [excsT, h0])]
    simp
    first | exact ⟨.app, rfl⟩ | exact ⟨S, .app, rfl, rfl, rfl⟩ | exact ⟨S, .app, rfl, rfl⟩ | exact .app
end DV

set_option maxHeartbeats 4000000
namespace DV
open PySem
theorem numS_low {i : Int} (h : -9 ≤ i ∧ i ≤ 9) {c : Nat} (hc : c ∈ numS i) : c ≤ 122 := by
  have a6 : ∀ c ∈ numS i, c = 45 ∨ (48 ≤ c ∧ c ≤ 57) := nine (p := fun i => ∀ c ∈ numS i, c = 45 ∨ (48 ≤ c ∧ c ≤ 57)) (by decide +kernel) h
  have := a6 c hc
  omega
theorem keyT_low {k : Ky} (h : KyS k) {c : Nat} (hc : c ∈ keyT k) : c ≤ 122 := by
  cases k with
  | l a =>
    have : c = a := by simpa [keyT] using hc
    subst this
    exact h.2
  | n i =>
    have hi : i ≤ 9 := h
    have : c = 64 ∨ c ∈ numS (i : Nat) := by simpa [keyT] using hc
    rcases this with e | e
    · omega
    · exact numS_low (by omega) e
theorem tabT_low {t : Tab} (h : TxS t) {c : Nat} (hc : c ∈ tabT t) : c ≤ 122 := by
  have pt : ∀ {G : List (List Nat)}, PtS G → c ∈ jS [32] G → c ≤ 122 := fun hG hm => by
    rcases js_mem hm with q | ⟨g, hg, q⟩
    · simp at q
      omega
    · exact (hG.lts g hg c q).2
  rcases js_mem hc with q | ⟨w, hw, q⟩
  · simp at q
    omega
  simp only [List.mem_cons, List.not_mem_nil, or_false] at hw
  rcases hw with rfl | rfl | rfl | rfl
  · exact pt h.lp q
  · exact pt h.rp q
  · rcases js_mem q with q | ⟨w, hw, q⟩
    · simp at q
      omega
    · obtain ⟨r, hr, rfl⟩ := List.mem_map.mp hw
      rcases js_mem q with q | ⟨w, hw, q⟩
      · simp at q
        omega
      · obtain ⟨x, hx, rfl⟩ := List.mem_map.mp hw
        exact numS_low (h.gb r hr x hx) q
  · unfold excsT at q
    split at q
    · simp at q
      omega
    · rcases js_mem q with q | ⟨w, hw, q⟩
      · simp at q
        omega
      · obtain ⟨e, he, rfl⟩ := List.mem_map.mp hw
        unfold excT at q
        rw [List.mem_append, List.mem_append, List.mem_cons] at q
        rcases q with (q | q) | rfl | q
        · exact keyT_low (h.ex.ky e he).1 q
        · exact keyT_low (h.ex.ky e he).2 q
        · omega
        · exact numS_low (h.ex.gap e he) q
theorem tabT_len {t : Tab} (h : TxS t) : (tabT t).length ≤ 100000 := by
  have := js_le (sep := [32, 47, 32]) (k := 24000) (n := 4) (four_len h) (by simp)
  exact Nat.le_trans this (by simp)
theorem tabT_repr {t : Tab} (h : TxS t) (S : Sto) : reprD [.py (tx (tabT t))] S = .ok (.py (.str (tx (tabT t)).shown)) S :=
  (Fit.str (x := st (tabT t)) (n := 100000) (fun c hc => by
    have := tabT_low h (by simpa using hc)
    omega) (by simpa using tabT_len h)).repr (by decide) (by decide) S
end DV

set_option maxHeartbeats 4000000
namespace DV
open PySem
/-! The value that most have, of several the least. -/
abbrev cntZ (vs : List Int) (v : Int) : Int := ((vs.count v : Nat) : Int)
structure IsMost (vs : List Int) (m : Int) : Prop where
  mem : m ∈ vs
  best : ∀ v ∈ vs, cntZ vs v < cntZ vs m ∨ (cntZ vs v = cntZ vs m ∧ m ≤ v)
def pkM (c : Int → Int) (a y : Int) : Int := if -c y < -c a ∨ (-c y = -c a ∧ y < a) then y else a
def mostV (vs : List Int) : Int := match vs with
  | [] => 0
  | v :: r => r.foldl (pkM (cntZ (v :: r))) v
end DV

set_option maxHeartbeats 4000000
namespace DV
open PySem
/-! The least of some sums, none where there is none. -/
def bestS (b : Option Int) (s : Option Int) : Option Int := match s with
  | none => b
  | some c => match b with
    | none => some c
    | some v => if c < v then some c else some v
def bestL (xs : List (Option Int)) : Option Int := xs.foldl bestS none
/-- the least costs from each of the last k words on, the first ahead -/
def prices (f : Face) (P : List Pair) (n : Int) (ws : List (List Nat)) : Nat → List Int
  | 0 => [0]
  | k + 1 => ((bestL ((List.range (k + 1)).map fun i => (cost f P n ws (ws.length - (k + 1)) (ws.length - k + i)).map (· + (prices f P n ws k).getD i 0))).getD 0) :: prices f P n ws k
@[simp ↓] theorem wp_rrng (a b : Ex) {σ : En} {S : Sto} {P : List D → Sto → Prop} {E : Str → Sto → Prop} : (rrngI a b σ S).wp P E = (a σ S).wp (fun x S1 => (b σ S1).wp (fun y S2 => ∃ i j, x = .py (.int i) ∧ y = .py (.int j) ∧ (-(2 ^ 62) ≤ i ∧ j - i ≤ 16777216 ∧ i < 2 ^ 62 ∧ -(2 ^ 62) ≤ j ∧ j < 2 ^ 62) ∧ P (rngV i (j - i).toNat).reverse S2) E) E := by
  unfold rrngI
  rw [wp_bind]
  congr 1
  funext x S1
  rw [wp_bind]
  congr 1
  funext y S2
  split
  · rw [wp_iteR]
    split
    · rename_i h
      exact propext ⟨fun p => ⟨_, _, rfl, rfl, h, p⟩, fun ⟨i, j, e1, e2, _, p⟩ => by cases e1; cases e2; exact p⟩
    · rename_i h
      exact propext ⟨fun p => p.elim, fun ⟨i, j, e1, e2, h', p⟩ => by cases e1; cases e2; exact h h'⟩
  · rename_i hn
    exact propext ⟨fun h => h.elim, fun ⟨i, j, e1, e2, _, _⟩ => (hn i j e1 e2).elim⟩
@[simp ↓] theorem wp_rng2 (a b : Ex) {σ : En} {S : Sto} {P : List D → Sto → Prop} {E : Str → Sto → Prop} : (rng2I a b σ S).wp P E = (a σ S).wp (fun x S1 => (b σ S1).wp (fun y S2 => ∃ i j, x = .py (.int i) ∧ y = .py (.int j) ∧ (-(2 ^ 62) ≤ i ∧ j - i ≤ 16777216 ∧ i < 2 ^ 62 ∧ -(2 ^ 62) ≤ j ∧ j < 2 ^ 62) ∧ P (rngV i (j - i).toNat) S2) E) E := by
  unfold rng2I
  rw [wp_bind]
  congr 1
  funext x S1
  rw [wp_bind]
  congr 1
  funext y S2
  split
  · rw [wp_iteR]
    split
    · rename_i h
      exact propext ⟨fun p => ⟨_, _, rfl, rfl, h, p⟩, fun ⟨i, j, e1, e2, _, p⟩ => by cases e1; cases e2; exact p⟩
    · rename_i h
      exact propext ⟨fun p => p.elim, fun ⟨i, j, e1, e2, h', p⟩ => by cases e1; cases e2; exact h h'⟩
  · rename_i hn
    exact propext ⟨fun h => h.elim, fun ⟨i, j, e1, e2, _, _⟩ => (hn i j e1 e2).elim⟩
end DV

set_option maxHeartbeats 4000000
namespace DV
open PySem
end DV

set_option maxHeartbeats 4000000
namespace DV
open PySem
/-- one more than the greatest -/
def top : List Nat → Nat
  | [] => 0
  | x :: r => max (x + 1) (top r)
def longer (most : Nat) (r : List Nat) : List (List Nat) := (List.range (min (top r + 1) most)).map fun i => r ++ [i]
def parts (most : Nat) : Nat → List (List Nat)
  | 0 => [[]]
  | n + 1 => (parts most n).flatMap (longer most)
end DV

set_option maxHeartbeats 4000000
namespace DV
open PySem
/-! Tables with single exceptions. -/
end DV

set_option maxHeartbeats 4000000
namespace DV
open PySem
/-! with_singles: the exceptions in order. -/
def leP (L : List Nat) (p q : Pair) : Prop := (plc L p.1 : Int) < plc L q.1 ∨ ((plc L p.1 : Int) = plc L q.1 ∧ (plc L p.2.1 : Int) ≤ plc L q.2.1)
instance (L : List Nat) (p q : Pair) : Decidable (leP L p q) := by unfold leP; infer_instance
end DV

set_option maxHeartbeats 4000000
namespace DV
open PySem
/-! singles_in, single_table, with_singles. -/
section
variable {P : List Pair} {g h : List Nat} {gp : Int} {A : List Pair} {s0 s2 s3 s4 s6 s7 s8 s9 s10 s11 s12 s13 : Option D} {S : Sto} {N : K}
end
section
variable {P : List Pair} {g : List Nat} {H : List (List Nat)} {A : List Pair} {s0 s2 s4 s6 s8 s9 s10 s11 s12 s13 : Option D} {S : Sto} {N : K}
end
end DV

set_option maxHeartbeats 4000000
namespace DV
open PySem
/-! Tables with single exceptions: what they tell, and how many there are. -/
/-! ### how many -/
end DV

set_option maxHeartbeats 4000000
namespace DV
open PySem
/-! The partings that need the fewest single exceptions. -/
abbrev encB (m : Int) (G H : List (List Nat)) : PyData := .tuple [.int m, encG G, encG H]
abbrev PT := List (List Nat) × List (List Nat)
/-- what stands as the best of those tried -/
def BestOf (P : List Pair) (tried : List PT) (d : PyData) : Prop :=
  (d = .none ∧ tried = []) ∨ ∃ p ∈ tried, d = encB (needS P p.1 p.2) p.1 p.2 ∧ ∀ q ∈ tried, needS P p.1 p.2 ≤ needS P q.1 q.2
theorem BestOf.new {P : List Pair} {tried : List PT} {d : PyData} (h : BestOf P tried d) (q : PT) : (d = .none ∨ ∃ m G H, d = encB m G H ∧ needS P q.1 q.2 < m) → BestOf P (tried ++ [q]) (encB (needS P q.1 q.2) q.1 q.2) := by
  intro hc
  refine .inr ⟨q, by simp, rfl, fun r hr => ?_⟩
  rcases List.mem_append.mp hr with hr | hr
  · rcases h with ⟨rfl, rfl⟩ | ⟨p, hp, rfl, hl⟩
    · cases hr
    · rcases hc with hc | ⟨m, G, H, e, hlt⟩
      · cases hc
      · have : needS P p.1 p.2 = m := by
          injection e with e
          injection e with e1 e
          injection e1
        have := hl r hr
        omega
  · rw [List.mem_singleton.mp hr]
    exact Int.le_refl _
theorem BestOf.old {P : List Pair} {tried : List PT} {p q : PT} (h : BestOf P tried (encB (needS P p.1 p.2) p.1 p.2)) (hle : needS P p.1 p.2 ≤ needS P q.1 q.2) : BestOf P (tried ++ [q]) (encB (needS P p.1 p.2) p.1 p.2) := by
  rcases h with ⟨h, _⟩ | ⟨r, hr, e, hl⟩
  · cases h
  · have e' : needS P p.1 p.2 = needS P r.1 r.2 := by
      injection e with e
      injection e with e1 e
      injection e1
    refine .inr ⟨r, by simp [hr], e, fun x hx => ?_⟩
    rcases List.mem_append.mp hx with hx | hx
    · exact hl x hx
    · rw [List.mem_singleton.mp hx]
      omega
/-- the least number of single exceptions -/
structure IsLeast (P : List Pair) (A B : List (List (List Nat))) (m : Int) : Prop where
  has : ∃ G ∈ A, ∃ H ∈ B, needS P G H = m
  least : ∀ G ∈ A, ∀ H ∈ B, m ≤ needS P G H
section
variable {f : Face} {P : List Pair} {a b : Nat} {m : Int}
end
end DV

set_option maxHeartbeats 4000000
namespace DV
open PySem
/-! Exceptions of three kinds: blocks of two classes, sets of rows, columns. -/
/-- the gaps of two classes -/
def blkM (P : List Pair) (g h : List Nat) : List (List Int) := g.map fun a => h.map fun b => gapIn P a b
/-- all rows of so many truths, in order -/
def bools : Nat → List (List Bool)
  | 0 => [[]]
  | n + 1 => ((bools n).map fun r => r ++ [false]) ++ (bools n).map fun r => r ++ [true]
/-- a column: what it costs, what is told for it -/
def colC (vs : List Int) (g : Int) : Int × Option Int :=
  if vs = [] then (0, none) else if 1 + needV vs < (vs.length : Int) - (vs.count g : Nat) then (1 + needV vs, some (mostV vs)) else ((vs.length : Int) - (vs.count g : Nat), none)
/-! ### two classes settled: Z = the rows, each with whether it has a gap of its own -/
abbrev Zb := List (List Int × Bool)
def ownZ (Z : Zb) : Int := (Z.map fun z => if z.2 then 1 + needV z.1 else 0).sum
def colZ (Z : Zb) (k : Nat) : List Int := (Z.filter fun z => !z.2).map fun z => z.1.getD k 0
def totZ (Z : Zb) (c : Nat) (g : Int) : Int := ownZ Z + ((List.range c).map fun k => (colC (colZ Z k) g).1).sum
structure OkZ (Z : Zb) (c : Nat) : Prop where
  few : Z.length ≤ 12
  pos : 0 < Z.length
  row : ∀ z ∈ Z, z.1.length = c
  bnd : ∀ z ∈ Z, ∀ x ∈ z.1, -999999999 ≤ x ∧ x ≤ 999999999
/-! ### the best of all -/
def stepZ (c : Nat) (acc : Option (Zb × Int)) (q : Zb × Int) : Option (Zb × Int) := match acc with
  | none => some q
  | some p => if totZ q.1 c q.2 < totZ p.1 c p.2 then some q else some p
def bestZ (c : Nat) (l : List (Zb × Int)) : Option (Zb × Int) := l.foldl (stepZ c) none
def candZ (B : List (List Int)) (vs : List Int) (r : List Bool) : List (Zb × Int) := vs.map fun g => (B.zip r, g)
def allZ (B : List (List Int)) : List (Zb × Int) := (bools B.length).flatMap (candZ B (riseI B.flatten))
structure OkB (B : List (List Int)) (c : Nat) : Prop where
  few : B.length ≤ 12
  pos : 0 < B.length
  row : ∀ r ∈ B, r.length = c
  bnd : ∀ r ∈ B, ∀ x ∈ r, -999999999 ≤ x ∧ x ≤ 999999999
  flat : B.flatten.length < 64
theorem OkB.z {B : List (List Int)} {c : Nat} (h : OkB B c) {r : List Bool} (hr : r.length = B.length) : OkZ (B.zip r) c ∧ (B.zip r).map (·.1) = B ∧ (B.zip r).map (·.2) = r := by
  refine ⟨⟨by rw [List.length_zip]; have := h.few; omega, by rw [List.length_zip]; have := h.pos; omega, fun z hz => h.row _ (List.of_mem_zip hz).1, fun z hz => h.bnd _ (List.of_mem_zip hz).1⟩, ?_, ?_⟩
  · exact List.map_fst_zip (by omega)
  · exact List.map_snd_zip (by omega)
end DV

set_option maxHeartbeats 4000000
namespace DV
open PySem
/-! The law's own search for the fewest exceptions of two classes. -/
def far (vs : List Int) (g : Int) : Int := (vs.length : Int) - (vs.count g : Nat)
end DV

set_option maxHeartbeats 4000000
namespace DV
open PySem
/-! Exceptions of three kinds: what they tell, how few they can be. -/
def dueO (o t : Option Int) (g : Int) : Int := match o with
  | some v => v
  | none => match t with
    | some v => v
    | none => g
def sgO (P : List Pair) (R C : Nat → Option Int) (g0 : Int) (a b : Nat) : Option Exc := if gapIn P a b = dueO (R a) (C b) g0 then none else some (.l a, .l b, gapIn P a b)
def singO (P : List Pair) (R C : Nat → Option Int) (g0 : Int) (g h : List Nat) : List Exc := g.flatMap fun a => h.filterMap fun b => sgO P R C g0 a b
def rowO (R : Nat → Option Int) (g : List Nat) (j : Nat) : List Exc := g.filterMap fun a => (R a).map fun v => (Ky.l a, Ky.n j, v)
def colO (C : Nat → Option Int) (h : List Nat) (i : Nat) : List Exc := h.filterMap fun b => (C b).map fun v => (Ky.n i, Ky.l b, v)
abbrev Blk := List Nat × Nat
def KyP (p : Blk) : Ky → Prop
  | .l a => a ∈ p.1
  | .n i => i = p.2
def blocks (G H : List (List Nat)) (X : Blk → Blk → List Exc) : List Exc := G.zipIdx.flatMap fun p => H.zipIdx.flatMap fun q => X p q
abbrev Apart (p p' : Blk) : Prop := (∀ x ∈ p.1, ∀ y ∈ p'.1, x ≠ y) ∧ p.2 < p'.2
theorem Apart.ne {p p' : Blk} {k k' : Ky} (h : Apart p p') (a : KyP p k) (b : KyP p' k') : k ≠ k' := fun e => by
  subst e
  obtain ⟨h1, h2⟩ := h
  cases k with
  | l c => exact h1 c a c b rfl
  | n i =>
    simp only [KyP] at a b
    omega
abbrev RC := Blk → Blk → Nat → Option Int
def F1 (P : List Pair) (R C : RC) (g0 : Blk → Blk → Int) (G H : List (List Nat)) : List Exc := blocks G H fun p q => singO P (R p q) (C p q) (g0 p q) p.1 q.1
def F2 (R : RC) (G H : List (List Nat)) : List Exc := blocks G H fun p q => rowO (R p q) p.1 q.2
def F3 (C : RC) (G H : List (List Nat)) : List Exc := blocks G H fun p q => colO (C p q) q.1 p.2
section
variable {P : List Pair} {R C : RC} {g0 : Blk → Blk → Int} {G H : List (List Nat)}
/-! ### sums -/
def sm {α : Type} (l : List α) (f : α → Int) : Int := (l.map f).sum
/-! ### what two classes cost -/
def colR (P : List Pair) (R : Nat → Option Int) (g : List Nat) (b : Nat) : List Int := (g.filter fun a => (R a).isNone).map fun a => gapIn P a b
def rowV (P : List Pair) (h : List Nat) (a : Nat) : List Int := h.map fun b => gapIn P a b
/-! ### the best choice, letter by letter -/
def bestP (P : List Pair) (g h : List Nat) : Zb × Int := (bestZ h.length (allZ (blkM P g h))).getD ([], 0)
def ownF (P : List Pair) (g h : List Nat) (a : Nat) : Bool := ((bestP P g h).1.getD (g.idxOf a) ([], false)).2
def gpF (P : List Pair) (g h : List Nat) : Int := (bestP P g h).2
def roF (P : List Pair) (g h : List Nat) (a : Nat) : Option Int := if ownF P g h a then some (mostV (rowV P h a)) else none
def coF (P : List Pair) (g h : List Nat) (b : Nat) : Option Int := (colC (colR P (roF P g h) g b) (gpF P g h)).2
/-! ### all classes -/
end
section
variable {P : List Pair} {L : List Nat} {G H : List (List Nat)}
end
end DV

set_option maxHeartbeats 4000000
namespace DV
open PySem
/-! Exceptions of three kinds in order. -/
def kvI (L : List Nat) : Ky → Int
  | .l a => (plc L a : Nat)
  | .n i => (i : Nat)
def leE (L : List Nat) (e e' : Exc) : Prop := kvI L e.1 < kvI L e'.1 ∨ (kvI L e.1 = kvI L e'.1 ∧ kvI L e.2.1 ≤ kvI L e'.2.1)
instance (L : List Nat) (p q : Exc) : Decidable (leE L p q) := by unfold leE; infer_instance
section
variable {L : List Nat} {P : List Pair} {G H : List (List Nat)}
end
end DV

set_option maxHeartbeats 4000000
namespace DV
open PySem
/-! The walks of told_ones and best_told. -/
/-- S, then lists that are changed, then whatever -/
structure Ls (S T : Sto) (xs : List (List PyData)) : Prop where
  le : S.length + xs.length ≤ T.length
  low : ∀ j, j < S.length → T[j]? = S[j]?
  at_ : ∀ i ds, xs[i]? = some ds → T[S.length + i]? = some (.lst (ds.map .py))
theorem Ls.new (S : Sto) (xs : List (List PyData)) : Ls S (S ++ xs.map fun ds => O.lst (ds.map D.py)) xs := by
  refine ⟨by simp, fun j hj => List.getElem?_append_left hj, fun i ds h => ?_⟩
  rw [List.getElem?_append_right (by omega), List.getElem?_map, show S.length + i - S.length = i by omega, h]
  rfl
theorem Ls.lk {S T : Sto} {xs : List (List PyData)} (h : Ls S T xs) (i : Nat) {ds : List PyData} (hi : xs[i]? = some ds) : lsOk T (.obj (S.length + i)) = true := lsOk_obj (h.at_ i ds hi)
theorem Ls.put {S T : Sto} {xs : List (List PyData)} (h : Ls S T xs) (i : Nat) (hi : i < xs.length) (ds : List PyData) : Ls S (T.set (S.length + i) (.lst (ds.map .py))) (xs.set i ds) := by
  have hl := h.le
  refine ⟨by simpa using hl, fun j hj => ?_, fun k es hk => ?_⟩
  · rw [List.getElem?_set_ne (by omega)]
    exact h.low j hj
  · by_cases e : i = k
    · subst e
      rw [List.getElem?_set_self hi] at hk
      cases hk
      rw [List.getElem?_set_self (by omega)]
    · rw [List.getElem?_set_ne e] at hk
      rw [List.getElem?_set_ne (by omega)]
      exact h.at_ k es hk
theorem Ls.app {S T : Sto} {xs : List (List PyData)} (h : Ls S T xs) (i : Nat) {ds : List PyData} (hi : xs[i]? = some ds) (hz : ds.length < sizeLine) (d : PyData) :
    appendD (.obj (S.length + i)) [.py d] T = .ok (.py .none) (T.set (S.length + i) (.lst ((ds ++ [d]).map .py))) := by
  have := h.at_ i ds hi
  simp only [appendD, this]
  rw [if_pos (by simpa using hz), List.map_append]
  rfl
theorem Ls.ext {S T : Sto} {xs : List (List PyData)} (h : Ls S T xs) (i : Nat) {ds : List PyData} (hi : xs[i]? = some ds) (es : List PyData) (hz : ds.length + es.length ≤ sizeLine) :
    extendD (.obj (S.length + i)) [.py (.list es)] T = .ok (.py .none) (T.set (S.length + i) (.lst ((ds ++ es).map .py))) := by
  have := h.at_ i ds hi
  simp only [extendD, this]
  rw [if_pos (by simpa using hz), List.map_append]
theorem Ls.push {S T : Sto} {xs : List (List PyData)} (h : Ls S T xs) (o : O) : Ls S (T ++ [o]) xs := by
  have hl := h.le
  refine ⟨by simp; omega, fun j hj => ?_, fun k es hk => ?_⟩
  · rw [List.getElem?_append_left (by omega)]
    exact h.low j hj
  · have hk' := (List.getElem?_eq_some_iff.mp hk).1
    rw [List.getElem?_append_left (by omega)]
    exact h.at_ k es hk
theorem Ls.over {S T : Sto} {xs : List (List PyData)} (h : Ls S T xs) {m : Nat} (hm : S.length + xs.length ≤ m) (o : O) : Ls S (T.set m o) xs := by
  have hl := h.le
  refine ⟨by simpa using hl, fun j hj => ?_, fun k es hk => ?_⟩
  · rw [List.getElem?_set_ne (by omega)]
    exact h.low j hj
  · have hk' := (List.getElem?_eq_some_iff.mp hk).1
    rw [List.getElem?_set_ne (by omega)]
    exact h.at_ k es hk
theorem Ls.cut {S T : Sto} {xs : List (List PyData)} (h : Ls S T xs) : Cut S T S := Cut.low (by have := h.le; omega) h.low
theorem Ls.tab {S T : Sto} {xs : List (List PyData)} (h : Ls S T xs) {p : Nat} {q : Str} (ht : tabIn p q S) : tabIn p q T := by
  obtain ⟨i, hi⟩ := ht
  exact ⟨i, by rw [h.low i (List.getElem?_eq_some_iff.mp hi).1]; exact hi⟩
end DV

set_option maxHeartbeats 4000000
namespace DV
open PySem
structure Lm (S T : Sto) (xs : List (List PyData)) (m : Nat) (l : List PyData) : Prop where
  ls : Ls S T xs
  hm : S.length + xs.length ≤ m
  at_ : T[m]? = some (.lst (l.map .py))
theorem Lm.put {S T : Sto} {xs : List (List PyData)} {m : Nat} {l : List PyData} (h : Lm S T xs m l) (i : Nat) (hi : i < xs.length) (ds : List PyData) : Lm S (T.set (S.length + i) (.lst (ds.map .py))) (xs.set i ds) m l :=
  ⟨h.ls.put i hi ds, by rw [List.length_set]; exact h.hm, by rw [List.getElem?_set_ne (by have := h.hm; omega)]; exact h.at_⟩
theorem Lm.app {S T : Sto} {xs : List (List PyData)} {m : Nat} {l : List PyData} (h : Lm S T xs m l) (hz : l.length < sizeLine) (d : PyData) : appendD (.obj m) [.py d] T = .ok (.py .none) (T.set m (.lst ((l ++ [d]).map .py))) ∧ Lm S (T.set m (.lst ((l ++ [d]).map .py))) xs m (l ++ [d]) := by
  refine ⟨?_, h.ls.over h.hm _, h.hm, ?_⟩
  · simp only [appendD, h.at_]
    rw [if_pos (by simpa using hz), List.map_append]
    rfl
  · rw [List.getElem?_set_self (List.getElem?_eq_some_iff.mp h.at_).1]
theorem Lm.lk {S T : Sto} {xs : List (List PyData)} {m : Nat} {l : List PyData} (h : Lm S T xs m l) : lsOk T (.obj m) = true := lsOk_obj h.at_
abbrev x1 (P : List Pair) (p q : Blk) : List Exc := singO P (roF P p.1 q.1) (coF P p.1 q.1) (gpF P p.1 q.1) p.1 q.1
abbrev x2 (P : List Pair) (p q : Blk) : List Exc := rowO (roF P p.1 q.1) p.1 q.2
end DV

set_option maxHeartbeats 4000000
namespace DV
open PySem
/-! The law's own block; bounds; classes of five. -/
end DV

set_option maxHeartbeats 4000000
namespace DV
open PySem
/-! How many have which value. -/
def encC (p : Int × Int) : PyData := tupI [p.1, p.2]
def cntF (vs : List Int) (v : Int) : Int × Int := (v, (vs.count v : Nat))
def cts (vs : List Int) : List (Int × Int) := (dedI (sortI vs)).map (cntF vs)
/-! ### sums and greatest ones -/
/-! ### the gaps of two classes -/
end DV

set_option maxHeartbeats 4000000
namespace DV
open PySem
/-! Single exceptions: papers of counts. -/
def blk (P : List Pair) (g h : List Nat) : PyData := .tuple ((cts (valsP P g h)).map encC)
end DV

set_option maxHeartbeats 4000000
namespace DV
open PySem
/-! A list turned about, and its tables. -/
/-! ### rows for columns -/
section
variable {L : List Nat} {P Q : List Pair} {G H : List (List Nat)}
/-! ### single exceptions changed about -/
def leT (L : List Nat) (p q : Pair) : Prop := (plc L p.1 : Int) < plc L q.1 ∨ ((plc L p.1 : Int) = plc L q.1 ∧ ((plc L p.2.1 : Int) < plc L q.2.1 ∨ ((plc L p.2.1 : Int) = plc L q.2.1 ∧ p.2.2 ≤ q.2.2)))
instance (L : List Nat) (p q : Pair) : Decidable (leT L p q) := by unfold leT; infer_instance
end
end DV

set_option maxHeartbeats 4000000
namespace DV
open PySem
/-! The law's own look at tables that are ones. -/
end DV

set_option maxHeartbeats 4000000
namespace DV
open PySem
/-! The walks of the law of lists turned about. -/
end DV

set_option maxHeartbeats 4000000
namespace DV
open PySem
theorem pt_txs {L : List Nat} {G : List (List Nat)} (hG : IsPart L G) (h0 : 0 < L.length) (h1 : L.length ≤ 10) (b : ∀ c ∈ L, 97 ≤ c ∧ c ≤ 122) : PtS G := by
  refine ⟨by have := hG.len2; omega, fun g hg => by have := hG.len1 hg; omega, fun e => ?_, hG.ne, fun g hg c hc => b c (hG.mem g hg c hc)⟩
  have := hG.perm.length_eq
  rw [e] at this
  simp at this
  omega
/-- a table in order may be written and read -/
theorem tab_txs {f : Face} {t : Tab} (hT : TabIn f.lets t) (h0 : 0 < f.ls.length) (h1 : f.ls.length ≤ 10) (b : ∀ c ∈ f.lets, 97 ≤ c ∧ c ≤ 122) : TxS t ∧ ∀ e ∈ t.exc, KyPair e.1 e.2.1 := by
  have llen : f.lets.length = f.ls.length := by simp
  have b122 : ∀ c ∈ f.lets, c ≤ 122 := fun c hc => (b c hc).2
  have lG := hT.ok.lp.len2
  have lH := hT.ok.rp.len2
  have p1 := pt_txs hT.ok.lp (by omega) (by omega) b
  have p2 := pt_txs hT.ok.rp (by omega) (by omega) b
  have eo := hT.ex.ok (by omega) (by omega) (by omega) b122
  refine ⟨⟨p1, p2, by rw [hT.ok.gl]; omega, fun e => ?_, fun r hr => ⟨by rw [hT.ok.gr r hr]; omega, fun e => ?_⟩, hT.ok.gb, ⟨eo, eo.len, fun e he => ?_, eo.gap⟩⟩, fun e he => ?_⟩
  · have := hT.ok.gl
    rw [e] at this
    have := List.length_pos_iff.mpr p1.pos
    simp at *
    omega
  · have := hT.ok.gr r hr
    rw [e] at this
    have := List.length_pos_iff.mpr p2.pos
    simp at *
    omega
  · have := hT.ex.kyin he
    obtain ⟨x, y, g⟩ := e
    cases this with
    | ll ha hb => exact ⟨b _ ha, b _ hb⟩
    | ln ha hb => exact ⟨b _ ha, show _ ≤ 9 by omega⟩
    | nl ha hb => exact ⟨show _ ≤ 9 by omega, b _ hb⟩
  · have := hT.ex.kyin he
    obtain ⟨x, y, g⟩ := e
    cases this with
    | ll ha hb => exact .ll
    | ln ha hb => exact .ln
    | nl ha hb => exact .nl
end DV

set_option maxHeartbeats 4000000
namespace DV.k28
open PySem DV
-- slots: 0 _law_script, 1 _law_k, 2 _law_box_here, 3 _law_face_here, 4 _law_letters_here, 5 _law_lefts, 6 _law_rights, 7 _law_gaps, 8 _law_table, 9 _law_beyond, 10 _law_text, 11 _law_left, 12 _law_right
theorem add_tupD {xs ys : List PyData} (h : xs.length + ys.length ≤ sizeLine) (S : Sto) : addD (.py (.tuple xs)) (.py (.tuple ys)) S = .ok (.py (.tuple (xs ++ ys))) S := if_pos h
theorem true_law (ns : List Int) (h : ns.length ≤ 63) : ∃ S', F_law [.py (.list (ns.map .int))] [] = .ok (.py (.bool true)) S' := by
  refine law_all (n := 10) (c := 2) (by decide) (by decide) ?_
  intro k ys S n hB hy hk
  obtain ⟨y3, r3, rfl, h3⟩ := explode hy
  obtain ⟨y4, r4, rfl, h4⟩ := explode h3
  obtain ⟨y5, r5, rfl, h5⟩ := explode h4
  obtain ⟨y6, r6, rfl, h6⟩ := explode h5
  obtain ⟨y7, r7, rfl, h7⟩ := explode h6
  obtain ⟨y8, r8, rfl, h8⟩ := explode h7
  obtain ⟨y9, r9, rfl, h9⟩ := explode h8
  obtain ⟨y10, r10, rfl, h10⟩ := explode h9
  obtain ⟨y11, r11, rfl, h11⟩ := explode h10
  obtain ⟨y12, r12, rfl, h12⟩ := explode h11
  obtain rfl := nil_of h12
  have hn := hB.lt
  clear h3 h4 h5 h6 h7 h8 h9 h10 h11 h12 hy
  have tk : ∀ {T : Sto} (m : Int), Ch n S T → 0 < m → m < 1073741824 → (F_law_take [.obj n, .py (.int m)] T).wp (fun d S2 => ∃ r, d = .py (PyData.int r) ∧ (0 ≤ r ∧ r < m) ∧ Ch n T S2) noE := fun m c a b =>
    (take_ok c.box a b).to fun d S2 ⟨r, e, r0, r1, c2, _⟩ => ⟨r, e, ⟨r0, r1⟩, c2⟩
  simp

  refine (face_ok (n := n) (lo := 8) (hi := 10) hB (by decide) (by decide) (by decide)).to ?_
  rintro _ S2 ⟨f, rfl, gf, c2, _⟩
  have lo := gf.lo
  have hi := gf.hi
  have b122 : ∀ c ∈ f.lets, 97 ≤ c ∧ c ≤ 122 := fun c hc => gf.mem hc
  have b2 : ∀ c ∈ f.lets, c ≤ 122 := fun c hc => (b122 c hc).2
  have nd : f.lets.Nodup := gf.nd
  have h20 : f.ls.length ≤ 20 := by omega
  have llen : f.lets.length = f.ls.length := by simp
  simp [law_letters_eq]
  refine (law_fine_ok (n := n) c2.box nd h20).to ?_
  rintro _ S3 ⟨G, rfl, pG, c3⟩
  have c23 := c2.trans c3
  refine (law_fine_ok (n := n) c23.box nd h20).to ?_
  rintro _ S4 ⟨H, rfl, pH, c4⟩
  have c24 := c23.trans c4
  have lG := pG.len2
  have lH := pH.len2
  simp [pysOf]
  refine (draws (n := n) tupI (fun r => r.length = H.length ∧ ∀ x ∈ r, gapB x) c24.box fun x S' hx c => ?_).to ?_
  · simp
    refine (draws (n := n) PyData.int gapB c.box fun y S'' _ c' => ?_).to ?_
    · simp [pysOf]
      refine (tk 19 (c24.trans (c.trans c')) (by decide) (by decide)).to ?_
      rintro _ S3 ⟨r5, rfl, hr5, c4⟩
      simp
      refine ⟨?_, c4⟩
      show -9 ≤ r5 - 9 ∧ r5 - 9 ≤ 9
      omega
    · rintro _ S3 ⟨rs, rfl, hl, hb, c3⟩
      simp
      exact ⟨rs, rfl, ⟨by simpa using hl, hb⟩, c3⟩
  rintro _ S5 ⟨R, rfl, lR, bR, c5⟩
  have c25 := c24.trans c5
  have lR : R.length = G.length := by simpa using lR
  simp
  refine (law_few_ok (n := n) c25.box pG pH (by omega) h20 b2).to ?_
  rintro _ S6 ⟨es, rfl, he, c6⟩
  have c26 := c25.trans c6
  simp only []
  obtain ⟨t, ht⟩ : ∃ t : Tab, t = ⟨G, H, R, es⟩ := ⟨_, rfl⟩
  have hT : TabIn f.lets t := by rw [ht]; exact ⟨⟨pG, pH, lR, fun r hr => (bR r hr).1, fun r hr => (bR r hr).2⟩, he⟩
  obtain ⟨tp, htp⟩ : ∃ tp, tp = PyData.tuple [encG G, encG H, PyData.tuple (List.map tupI R), PyData.tuple (List.map encE es)] := ⟨_, rfl⟩
  have tpy : t.py = tp := by rw [htp, ht]
  rw [← htp]
  have ist := fun T => is_table_eq hT nd b2 h20 T
  have gr := fun T => gaps_right_eq hT nd b2 h20 T
  have lr := fun {T : Sto} (hB : BoxAt T n) => list_right_ok (S := T) (n := n) hB hT nd b2 (by omega) h20
  obtain ⟨xs, xp⟩ := tab_txs hT (by omega) (by omega) b122
  have ltt := fun T => law_table_text_eq xs T
  have tte := fun T => table_text_eq xs hT nd b2 h20 T
  have trd := fun T => table_read_eq xs xp hT nd b2 h20 T
  have tr := fun T => tabT_repr xs T
  have tl := tabT_len xs
  have tf := tab_py_fit hT h20 b2
  rw [tpy] at ist gr lr ltt tte trd tf
  have rp := fun T => tf.repr (by decide) (by decide) T
  obtain ⟨z0, hz0, j0⟩ : ∃ z0, z0 ∈ f.lets ∧ ∀ T, itemD (.py (.list (f.lets.map lt))) (.py (.int 0)) T = .ok (.py (lt z0)) T := by
    have hl : 0 < f.lets.length := by omega
    exact ⟨f.lets[0], List.getElem_mem hl, fun T => itemD_listI (by decide) (by simp [hl])⟩
  have g1 : gapB 1 := by show -9 ≤ (1 : Int) ∧ (1 : Int) ≤ 9; omega
  have no1 : ∀ T, F_is_table [.py f.py, .py (.tuple [encG G, encG H, .tuple (R.map tupI), .tuple [.tuple [lt z0, .int (H.length : Nat), .int 1]]])] T = .ok (.py (.bool false)) T := fun T => is_table_no (f := f) (e := .tuple [lt z0, .int (H.length : Nat), .int 1]) pG pH lR (fun r hr => (bR r hr).1) (fun r hr => (bR r hr).2) nd b2 h20 (fun T => key_ln_no hz0 g1 T) T
  have no2 : ∀ T, F_is_table [.py f.py, .py (.tuple [encG G, encG H, .tuple (R.map tupI), .tuple [.tuple [.int (G.length : Nat), lt z0, .int 1]]])] T = .ok (.py (.bool false)) T := fun T => is_table_no (f := f) (e := .tuple [.int (G.length : Nat), lt z0, .int 1]) pG pH lR (fun r hr => (bR r hr).1) (fun r hr => (bR r hr).2) nd b2 h20 (fun T => key_nl_no hz0 g1 T) T
  have sl3 : ∀ T, sliceV (.py tp) none (some 3) T = .ok (.py (.tuple [encG G, encG H, .tuple (R.map tupI)])) T := fun T => by
    rw [htp]
    exact slice_to (n := 3) T
  have ad3 : ∀ (e : PyData) T, addD (.py (.tuple [encG G, encG H, .tuple (R.map tupI)])) (.py (.tuple [.tuple [e]])) T = .ok (.py (.tuple [encG G, encG H, .tuple (R.map tupI), .tuple [e]])) T := fun e T => add_tupD (by rw [sl_big']; simp) T
  have lG' : ∀ T, lenD [.py (encG G)] T = .ok (.py (.int (G.length : Nat))) T := fun T => by simp [lenD, seqOf]
  have lH' : ∀ T, lenD [.py (encG H)] T = .ok (.py (.int (H.length : Nat))) T := fun T => by simp [lenD, seqOf]
  simp [q_law_0, ist, notBD, q_law_2, -wp_forL_cons, j0, lG', lH', pysOf]
  have neS : ∀ (x : Str) T, neD (.py (.str x)) (.py (.str x)) T = .ok (.py (.bool false)) T := fun x T => by
    show DV.R.ok (D.py (.bool (!decide (x = x)))) T = _
    simp
  have lenT : ∀ T, lenD [.py (tx (tabT t))] T = .ok (.py (.int ((tabT t).length : Nat))) T := fun T => by
    have : (tabT t).length ≤ sizeLine := by rw [sl_big']; omega
    simp [lenD, Str.length, this]
  simp [q_law_1, sl3, ad3, no1, no2, notBD, pysOf]
  simp [q_law_3, gr]
  refine (lr c26.box).to ?_
  rintro _ S7 ⟨rfl, c7⟩
  obtain ⟨txx, htx⟩ : ∃ txx, txx = tx (tabT t) := ⟨_, rfl⟩
  rw [← htx] at ltt tte trd tr lenT
  simp [ltt, q_law_4, tte, tr, neS, q_law_5, lenT]
  by_cases hl : ((tabT t).length : Int) < 1001
  · simp [hl, trd, rp, neS]
    exact .inr (Keep0.mk rfl)
  · simp [hl]
    exact ⟨by omega, Keep0.mk rfl⟩
end DV.k28

open PySem PySem.W PyProof.Rows
set_option maxHeartbeats 0 in
theorem PySem.Challenge.cw_stampgaps_k28_tables_of_many_classes_holds : PySem.Challenge.rw_stampgaps_k28_tables_of_many_classes.Holds := by
  w_on; o_law; k_head; (case hw => w_witness2)
  k_fill
  refine DV.walk_ofD (l := PySem.Challenge.rw_stampgaps_k28_tables_of_many_classes) (n := 63) (k := 9) (x := "_law_script") (F := DV.k28.F_law) rfl (by decide) rfl ⟨rfl, by decide, by decide⟩ (fun w h Y => PySem.W.kIn_of Y) ?F DV.k28.true_law
  case F =>
    intro w mg fa h KX G hmg
    refine' DV.k28.all_mk KX G hmg ?a0 ?l0 ?c0 ?k0 ?a1 ?l1 ?c1 ?k1 ?a2 ?l2 ?c2 ?k2 ?a3 ?l3 ?c3 ?k3 ?a4 ?l4 ?c4 ?k4 ?a5 ?l5 ?c5 ?k5 ?a6 ?l6 ?c6 ?k6 ?a7 ?l7 ?c7 ?k7 ?a8 ?l8 ?c8 ?k8 ?a9 ?l9 ?c9 ?k9 ?a10 ?l10 ?c10 ?k10 ?a11 ?l11 ?c11 ?k11 ?a12 ?l12 ?c12 ?k12 ?a13 ?l13 ?c13 ?k13 ?a14 ?l14 ?c14 ?k14 ?a15 ?l15 ?c15 ?k15 ?a16 ?l16 ?c16 ?k16 ?a17 ?l17 ?c17 ?k17 ?a18 ?l18 ?c18 ?k18 ?a19 ?l19 ?c19 ?k19 ?a20 ?l20 ?c20 ?k20 ?a21 ?l21 ?c21 ?k21 ?a22 ?l22 ?c22 ?k22 ?a23 ?l23 ?c23 ?k23 ?a24 ?l24 ?c24 ?k24 ?a25 ?l25 ?c25 ?k25 ?a26 ?l26 ?c26 ?k26 ?a27 ?l27 ?c27 ?k27 ?a28 ?l28 ?c28 ?k28 ?a29 ?l29 ?c29 ?k29 ?a30 ?l30 ?c30 ?k30 ?a31 ?l31 ?c31 ?k31 ?a32 ?l32 ?c32 ?k32 ?a33 ?l33 ?c33 ?k33 ?a34 ?l34 ?c34 ?k34 ?a35 ?l35 ?c35 ?k35 ?a36 ?l36 ?c36 ?k36 ?a37 ?l37 ?c37 ?k37 ?a38 ?l38 ?c38 ?k38 ?a39 ?l39 ?c39 ?k39 ?a40 ?l40 ?c40 ?k40 ?a41 ?l41 ?c41 ?k41 ?a42 ?l42 ?c42 ?k42 ?a43 ?l43 ?c43 ?k43 ?a44 ?l44 ?c44 ?k44 ?a45 ?l45 ?c45 ?k45 ?xa_NoLetter ?h1_NoLetter ?q1_NoLetter ?q2_NoLetter ?q3_NoLetter ?q4_NoLetter ?h2_NoLetter ?q5_NoLetter ?n1_NoLetter ?h3_NoLetter ?q6_NoLetter ?h4_NoLetter ?q7_NoLetter ?n2_NoLetter ?xk_NoLetter ?xb_NoLetter ?xt_NoLetter ?xa_NoTable ?h1_NoTable ?q1_NoTable ?q2_NoTable ?q3_NoTable ?q4_NoTable ?h2_NoTable ?q5_NoTable ?n1_NoTable ?h3_NoTable ?q6_NoTable ?h4_NoTable ?q7_NoTable ?n2_NoTable ?xk_NoTable ?xb_NoTable ?xt_NoTable ?xa_NoText ?h1_NoText ?q1_NoText ?q2_NoText ?q3_NoText ?q4_NoText ?h2_NoText ?q5_NoText ?n1_NoText ?h3_NoText ?q6_NoText ?h4_NoText ?q7_NoText ?n2_NoText ?xk_NoText ?xb_NoText ?xt_NoText ?zc_FAR ?zc_FIGURES ?z_isinstance ?z_int ?z_bool ?z_tuple ?z_enumerate ?z_zip ?z_sorted ?z_sum ?z_list ?z_range ?z_len ?z_all ?z_str ?z_abs ?z_divmod ?z_repr ?z_min ?z_max
    (case a0 => k_is); (case l0 => k_is); (case c0 => k_is); (case k0 => k_is); (case a1 => k_is); (case l1 => k_is); (case c1 => k_is); (case k1 => k_is); (case a2 => k_is); (case l2 => k_is); (case c2 => k_is); (case k2 => k_is); (case a3 => k_is); (case l3 => k_is); (case c3 => k_is); (case k3 => k_is); (case a4 => k_is); (case l4 => k_is); (case c4 => k_is); (case k4 => k_is); (case a5 => k_is); (case l5 => k_is); (case c5 => k_is); (case k5 => k_is); (case a6 => k_is); (case l6 => k_is); (case c6 => k_is); (case k6 => k_is); (case a7 => k_is); (case l7 => k_is); (case c7 => k_is); (case k7 => k_is); (case a8 => k_is); (case l8 => k_is); (case c8 => k_is); (case k8 => k_is); (case a9 => k_is); (case l9 => k_is); (case c9 => k_is); (case k9 => k_is); (case a10 => k_is); (case l10 => k_is); (case c10 => k_is); (case k10 => k_is); (case a11 => k_is); (case l11 => k_is); (case c11 => k_is); (case k11 => k_is); (case a12 => k_is); (case l12 => k_is); (case c12 => k_is); (case k12 => k_is); (case a13 => k_is); (case l13 => k_is); (case c13 => k_is); (case k13 => k_is); (case a14 => k_is); (case l14 => k_is); (case c14 => k_is); (case k14 => k_is); (case a15 => k_is); (case l15 => k_is); (case c15 => k_is); (case k15 => k_is); (case a16 => k_is); (case l16 => k_is); (case c16 => k_is); (case k16 => k_is); (case a17 => k_is); (case l17 => k_is); (case c17 => k_is); (case k17 => k_is); (case a18 => k_is); (case l18 => k_is); (case c18 => k_is); (case k18 => k_is); (case a19 => k_is); (case l19 => k_is); (case c19 => k_is); (case k19 => k_is); (case a20 => k_is); (case l20 => k_is); (case c20 => k_is); (case k20 => k_is); (case a21 => k_is); (case l21 => k_is); (case c21 => k_is); (case k21 => k_is); (case a22 => k_is); (case l22 => k_is); (case c22 => k_is); (case k22 => k_is); (case a23 => k_is); (case l23 => k_is); (case c23 => k_is); (case k23 => k_is); (case a24 => k_is); (case l24 => k_is); (case c24 => k_is); (case k24 => k_is); (case a25 => k_is); (case l25 => k_is); (case c25 => k_is); (case k25 => k_is); (case a26 => k_is); (case l26 => k_is); (case c26 => k_is); (case k26 => k_is); (case a27 => k_is); (case l27 => k_is); (case c27 => k_is); (case k27 => k_is); (case a28 => k_is); (case l28 => k_is); (case c28 => k_is); (case k28 => k_is); (case a29 => k_is); (case l29 => k_is); (case c29 => k_is); (case k29 => k_is); (case a30 => k_is); (case l30 => k_is); (case c30 => k_is); (case k30 => k_is); (case a31 => k_is); (case l31 => k_is); (case c31 => k_is); (case k31 => k_is); (case a32 => k_is); (case l32 => k_is); (case c32 => k_is); (case k32 => k_is); (case a33 => k_is); (case l33 => k_is); (case c33 => k_is); (case k33 => k_is); (case a34 => k_is); (case l34 => k_is); (case c34 => k_is); (case k34 => k_is); (case a35 => k_is); (case l35 => k_is); (case c35 => k_is); (case k35 => k_is); (case a36 => k_is); (case l36 => k_is); (case c36 => k_is); (case k36 => k_is); (case a37 => k_is); (case l37 => k_is); (case c37 => k_is); (case k37 => k_is); (case a38 => k_is); (case l38 => k_is); (case c38 => k_is); (case k38 => k_is); (case a39 => k_is); (case l39 => k_is); (case c39 => k_is); (case k39 => k_is); (case a40 => k_is); (case l40 => k_is); (case c40 => k_is); (case k40 => k_is); (case a41 => k_is); (case l41 => k_is); (case c41 => k_is); (case k41 => k_is); (case a42 => k_is); (case l42 => k_is); (case c42 => k_is); (case k42 => k_is); (case a43 => k_is); (case l43 => k_is); (case c43 => k_is); (case k43 => k_is); (case a44 => k_is); (case l44 => k_is); (case c44 => k_is); (case k44 => k_is); (case a45 => k_is); (case l45 => k_is); (case c45 => k_is); (case k45 => k_is); (case xa_NoLetter => k_is); (case h1_NoLetter => k_is); (case q1_NoLetter => exact rfl); (case q2_NoLetter => exact rfl); (case q3_NoLetter => exact rfl); (case q4_NoLetter => exact rfl); (case h2_NoLetter => k_is); (case q5_NoLetter => exact rfl); (case n1_NoLetter => k_is); (case h3_NoLetter => k_is); (case q6_NoLetter => exact rfl); (case h4_NoLetter => k_is); (case q7_NoLetter => exact rfl); (case n2_NoLetter => k_is); (case xk_NoLetter => k_is); (case xb_NoLetter => k_is); (case xt_NoLetter => k_is); (case xa_NoTable => k_is); (case h1_NoTable => k_is); (case q1_NoTable => exact rfl); (case q2_NoTable => exact rfl); (case q3_NoTable => exact rfl); (case q4_NoTable => exact rfl); (case h2_NoTable => k_is); (case q5_NoTable => exact rfl); (case n1_NoTable => k_is); (case h3_NoTable => k_is); (case q6_NoTable => exact rfl); (case h4_NoTable => k_is); (case q7_NoTable => exact rfl); (case n2_NoTable => k_is); (case xk_NoTable => k_is); (case xb_NoTable => k_is); (case xt_NoTable => k_is); (case xa_NoText => k_is); (case h1_NoText => k_is); (case q1_NoText => exact rfl); (case q2_NoText => exact rfl); (case q3_NoText => exact rfl); (case q4_NoText => exact rfl); (case h2_NoText => k_is); (case q5_NoText => exact rfl); (case n1_NoText => k_is); (case h3_NoText => k_is); (case q6_NoText => exact rfl); (case h4_NoText => k_is); (case q7_NoText => exact rfl); (case n2_NoText => k_is); (case xk_NoText => k_is); (case xb_NoText => k_is); (case xt_NoText => k_is); (case zc_FAR => k_is); (case zc_FIGURES => k_is); (case z_isinstance => k_is); (case z_int => k_is); (case z_bool => k_is); (case z_tuple => k_is); (case z_enumerate => k_is); (case z_zip => k_is); (case z_sorted => k_is); (case z_sum => k_is); (case z_list => k_is); (case z_range => k_is); (case z_len => k_is); (case z_all => k_is); (case z_str => k_is); (case z_abs => k_is); (case z_divmod => k_is); (case z_repr => k_is); (case z_min => k_is); (case z_max => k_is)
