import PyProof.Rows.All
import Wide.All
import OpenK.AllK
import Wide.FinOn
import HandS.ForMost
import HandS.ForExc
import HandS.IsInst
import HandS.Zip
import HandS.Lambda
import HandS.TupAny
import HandS.TupLe
import HandS.Deep
import HandS.RevRange
import HandS.Rev
import HandS.Conv
import HandS.NoneIn
import HandS.CallLocal
import HandS.WideBits
import HandS.Flow
import HandS.More
import KE.GoesNew
import KE.GoesMore
import HandS.Dict
import PyProof.NeKinds
import PyProof.EqKinds
import PyProof.EqAt
import HandS.TupMul
import HandS.SortInts
import HandS.ExcOwn
import HandS.ExcValue
import HandS.Style
import HandS.Sort
import KE.DataCmp
import HandS.ExcIs
import HandS.HotCalls
import PyProof.StrOps2
import PyProof.Rows.StrRev
import PyProof.SetRoads
import HandS.Strs
import HandS.TupSets
import KE.DataMinMax
import KE.KTupSum
import KE.SortKeyed
import KE.SortData
import HandS.SetFor
import KE.KDictPairs
import HandS.Text
import HandS.ReplaceLit
import KE.IntTextLaws
import HandS.Call
import HandS.ReplaceList
import HandS.Codes
import PySem.Challenge.RW_stampgaps_k76_faces_written_and_read
set_option Elab.async false
set_option linter.all false
set_option maxRecDepth 100000
set_option maxHeartbeats 4000000
/-! Data-level meaning of the programs: values by data, lists that are changed by their number in a store. -/
namespace DV
open PySem

inductive D where
  | py (d : PyData)
  | obj (n : Nat)
  /-- the thing at an address, of which nothing is told -/
  | raw (a : Nat)
inductive O where
  | lst (ds : List D)
  | gone
  /-- the law's table of code objects stands at P, each of them bears the name q (number 0 alone) -/
  | tab (P : Nat) (q : Str)
  /-- a dict with tuple keys, one with plain keys -/
  | dt (kvs : List (List (Sum Int Str) × PyData))
  | dk (kvs : List (Sum Int Str × PyData))
  /-- an instance of a class of the module; a tuple in which there are things of the store -/
  | ins (c : Str) (fs : List (Str × D))
  | tpl (ds : List D)
abbrev Sto := List O
inductive R (α : Type) where
  | ok (a : α) (S : Sto)
  | ex (c : Str) (S : Sto)
  | no
abbrev En := List (Option D)
abbrev Ex := En → Sto → R D
abbrev Tx := En → Sto → R Bool
abbrev Ax := En → Sto → R (List D)
inductive F where
  | nx (σ : En) (S : Sto)
  | rt (d : D) (S : Sto)
  | bk (σ : En) (S : Sto)
  | ct (σ : En) (S : Sto)
  | ex (c : Str) (S : Sto)
  | no
abbrev Sx := En → Sto → F
/-- a target -/
abbrev Tg := D → En → Sto → R En

def R.bind {α β : Type} (r : R α) (k : α → Sto → R β) : R β :=
  match r with
  | .ok a S => k a S
  | .ex c S => .ex c S
  | .no => .no
def R.run {α : Type} (r : R α) (k : α → Sto → F) : F :=
  match r with
  | .ok a S => k a S
  | .ex c S => .ex c S
  | .no => .no
@[simp] theorem bind_ok {α β : Type} (a : α) (S : Sto) (k : α → Sto → R β) : (R.ok a S).bind k = k a S := rfl
@[simp] theorem bind_ex {α β : Type} (c : Str) (S : Sto) (k : α → Sto → R β) : (R.ex c S : R α).bind k = .ex c S := rfl
@[simp] theorem bind_no {α β : Type} (k : α → Sto → R β) : (R.no : R α).bind k = .no := rfl
@[simp] theorem run_ok {α : Type} (a : α) (S : Sto) (k : α → Sto → F) : (R.ok a S).run k = k a S := rfl
@[simp] theorem run_ex {α : Type} (c : Str) (S : Sto) (k : α → Sto → F) : (R.ex c S : R α).run k = .ex c S := rfl
@[simp] theorem run_no {α : Type} (k : α → Sto → F) : (R.no : R α).run k = .no := rfl

/-! ### sequences -/
def pysOf : List D → Option (List PyData)
  | [] => some []
  | d :: ds => match d, pysOf ds with
    | .py p, some ps => some (p :: ps)
    | _, _ => none
def seqOf (S : Sto) : D → Option (List D)
  | .py (.list ds) => some (ds.map .py)
  | .py (.tuple ds) => some (ds.map .py)
  | .obj n => match S[n]? with
    | some (.lst ds) => some ds
    | _ => none
  | _ => none
@[simp] theorem pysOf_nil : pysOf [] = some [] := rfl
@[simp] theorem pysOf_map (ds : List PyData) : pysOf (ds.map D.py) = some ds := by
  induction ds with
  | nil => rfl
  | cons d ds ih => simp [pysOf, ih]
@[simp] theorem pysOf_cons (p : PyData) (ds : List D) : pysOf (D.py p :: ds) = (pysOf ds).map (p :: ·) := by
  cases h : pysOf ds <;> simp [pysOf, h]

/-! ### expressions -/
def varE (i : Nat) : Ex := fun σ S => match σ[i]? with
  | some (some d) => .ok d S
  | _ => .no
def cE (d : PyData) : Ex := fun _ S => .ok (.py d) S
def nilA : Ax := fun _ S => .ok [] S
def consA (e : Ex) (r : Ax) : Ax := fun σ S => (e σ S).bind fun d S1 => (r σ S1).bind fun ds S2 => .ok (d :: ds) S2
def tupE (a : Ax) : Ex := fun σ S => (a σ S).bind fun ds S1 => match pysOf ds with
  | some ps => .ok (.py (.tuple ps)) S1
  | none => .no
/-- a new list as a value that is not changed -/
def frz (r : R (List D)) : R D := r.bind fun ds S => match pysOf ds with
  | some ps => .ok (.py (.list ps)) S
  | none => .no
/-- a new list that may be changed -/
def thw (r : R (List D)) : R D := r.bind fun ds S => .ok (.obj S.length) (S ++ [.lst ds])
def frzE (a : Ax) : Ex := fun σ S => frz (a σ S)
def thwE (a : Ax) : Ex := fun σ S => thw (a σ S)
def opE (g : D → D → Sto → R D) (a b : Ex) : Ex := fun σ S => (a σ S).bind fun x S1 => (b σ S1).bind fun y S2 => g x y S2
def op1 (g : D → Sto → R D) (a : Ex) : Ex := fun σ S => (a σ S).bind fun x S1 => g x S1
/-- a call of a function upon its arguments' values -/
def callE (g : List D → Sto → R D) (a : Ax) : Ex := fun σ S => (a σ S).bind fun ds S1 => g ds S1
def lsOk (S : Sto) : D → Bool
  | .py (.list _) => true
  | .obj n => match S[n]? with
    | some (.lst _) => true
    | _ => false
  | _ => false
/-- a list's method, a text's -/
def methL (g : D → List D → Sto → R D) (o : Ex) (a : Ax) : Ex := fun σ S => (o σ S).bind fun x S1 => if lsOk S1 x = true then (a σ S1).bind fun ds S2 => g x ds S2 else .no
def methS (g : D → List D → Sto → R D) (o : Ex) (a : Ax) : Ex := fun σ S => (o σ S).bind fun x S1 => match x with
  | .py (.str _) => (a σ S1).bind fun ds S2 => g x ds S2
  | _ => .no
def ifE (c : Tx) (a b : Ex) : Ex := fun σ S => (c σ S).bind fun k S1 => if k = true then a σ S1 else b σ S1
/-- and, or, not of truths -/
def andE (a b : Ex) : Ex := fun σ S => (a σ S).bind fun x S1 => match x with
  | .py (.bool true) => b σ S1
  | .py (.bool false) => .ok (.py (.bool false)) S1
  | _ => .no
def orE (a b : Ex) : Ex := fun σ S => (a σ S).bind fun x S1 => match x with
  | .py (.bool false) => b σ S1
  | .py (.bool true) => .ok (.py (.bool true)) S1
  | _ => .no
def notE (a : Ex) : Ex := fun σ S => (a σ S).bind fun x S1 => match x with
  | .py (.bool k) => .ok (.py (.bool (!k))) S1
  | _ => .no
/-! ### tests -/
def valT (a : Ex) : Tx := fun σ S => (a σ S).bind fun x S1 => match x with
  | .py (.bool k) => .ok k S1
  | _ => .no
def andT (a b : Tx) : Tx := fun σ S => (a σ S).bind fun k S1 => if k = true then b σ S1 else .ok false S1
def orT (a b : Tx) : Tx := fun σ S => (a σ S).bind fun k S1 => if k = true then .ok true S1 else b σ S1
def notT (a : Tx) : Tx := fun σ S => (a σ S).bind fun k S1 => .ok (!k) S1
def yesT : Tx := fun _ S => .ok true S
/-- a chain a < b < c -/
def chainE (g g' : D → D → Sto → R D) (a b c : Ex) : Ex := fun σ S => (a σ S).bind fun x S1 => (b σ S1).bind fun y S2 => (g x y S2).bind fun z S3 => match z with
  | .py (.bool true) => (c σ S3).bind fun w S4 => g' y w S4
  | .py (.bool false) => .ok (.py (.bool false)) S3
  | _ => .no

/-! ### operators by values -/
def addD : D → D → Sto → R D
  | .py (.int i), .py (.int j), S => .ok (.py (.int (i + j))) S
  | .py (.str x), .py (.str y), S => if x.length + y.length ≤ sizeLine then .ok (.py (.str (x ++ y))) S else .no
  | .py (.list xs), .py (.list ys), S => if xs.length + ys.length ≤ sizeLine then .ok (.py (.list (xs ++ ys))) S else .no
  | .py (.tuple xs), .py (.tuple ys), S => if xs.length + ys.length ≤ sizeLine then .ok (.py (.tuple (xs ++ ys))) S else .no
  | _, _, _ => .no
def subD : D → D → Sto → R D
  | .py (.int i), .py (.int j), S => .ok (.py (.int (i - j))) S
  | _, _, _ => .no
def mulD : D → D → Sto → R D
  | .py (.int i), .py (.int j), S => if (-(2 ^ 64) < i ∧ i < 2 ^ 64) ∨ (-(2 ^ 64) < j ∧ j < 2 ^ 64) then .ok (.py (.int (i * j))) S else .no
  | _, _, _ => .no
def fdivD : D → D → Sto → R D
  | .py (.int i), .py (.int j), S => if 0 < j ∧ j < 1073741824 then .ok (.py (.int (i / j))) S else .no
  | _, _, _ => .no
def modD : D → D → Sto → R D
  | .py (.int i), .py (.int j), S => if 0 < j then .ok (.py (.int (i % j))) S else .no
  | _, _, _ => .no
def powD : D → D → Sto → R D
  | .py (.int i), .py (.int j), S => if 0 ≤ j ∧ j ≤ 1000000 ∧ i.natAbs < 2 ^ 64 then .ok (.py (.int (i ^ j.toNat))) S else .no
  | _, _, _ => .no
def negD : D → Sto → R D
  | .py (.int i), S => .ok (.py (.int (-i))) S
  | _, _ => .no
/-- == of whole numbers, truths, texts and None, without any look at their texts -/
def flatD : PyData → PyData → Option Bool
  | .none, .none => some true
  | .none, .int _ => some false
  | .int _, .none => some false
  | .none, .bool _ => some false
  | .bool _, .none => some false
  | .none, .str _ => some false
  | .str _, .none => some false
  | .int i, .int j => some (decide (i = j))
  | .str x, .str y => some (decide (x = y))
  | .bool a, .bool b => some (decide (a = b))
  | .int _, .str _ => some false
  | .str _, .int _ => some false
  | .bool _, .str _ => some false
  | .str _, .bool _ => some false
  | _, _ => none
/-- a text and a dict -/
def dkTx : PyData → PyData → Bool
  | .str _, .dict _ => true
  | .dict _, .str _ => true
  | _, _ => false
/-- surely unlike, whatever stands within -/
def offB : PyData → PyData → Bool
  | .str _, .list _ => true
  | .list _, .str _ => true
  | .str _, .tuple _ => true
  | .tuple _, .str _ => true
  | .tuple ds, .tuple es => ds.isEmpty != es.isEmpty
  | .list ds, .list es => ds.length != es.length
  | d, e => dkTx d e
def eqB (d e : PyData) : Option Bool := match flatD d e with
  | some k => some k
  | none => if SeqAt.shaped d = true ∧ SeqAt.shaped e = true then some (PyData.eqv d e) else if offB d e = true then some false else none
def eqD : D → D → Sto → R D
  | .py d, .py e, S => (match eqB d e with
    | some k => .ok (.py (.bool k)) S
    | none => .no)
  | _, _, _ => .no
def neD : D → D → Sto → R D
  | .py d, .py e, S => (match eqB d e with
    | some k => .ok (.py (.bool (!k))) S
    | none => .no)
  | _, _, _ => .no
def cmpI (p : Int → Int → Bool) : D → D → Sto → R D
  | .py (.int i), .py (.int j), S => .ok (.py (.bool (p i j))) S
  | _, _, _ => .no
def isNon : PyData → Bool
  | .none => true
  | _ => false
def isND : D → D → Sto → R D
  | .py d, .py .none, S => .ok (.py (.bool (isNon d))) S
  | _, _, _ => .no
def notND : D → D → Sto → R D
  | .py d, .py .none, S => .ok (.py (.bool (!isNon d))) S
  | _, _, _ => .no
def itemD : D → D → Sto → R D
  | .py (.str x), .py (.int i), S => if x.length ≤ sizeLine then (match L2.atI x.cps.toList i with
    | some c => .ok (.py (.str ⟨#[c]⟩)) S
    | none => .no) else .no
  | x, .py (.int i), S => match seqOf S x with
    | some ds => (match L2.atI ds i with
      | some d => .ok d S
      | none => .no)
    | none => .no
  | _, _, _ => .no

/-! ### built-ins by values -/
def lenD : List D → Sto → R D
  | [.py (.str x)], S => if x.length ≤ sizeLine then .ok (.py (.int (x.length : Nat))) S else .no
  | [d], S => (match seqOf S d with
    | some ds => .ok (.py (.int (ds.length : Nat))) S
    | none => .no)
  | _, _ => .no
def max2D : List D → Sto → R D
  | [.py (.int i), .py (.int j)], S => .ok (.py (.int (if j > i then j else i))) S
  | _, _ => .no
def min2D : List D → Sto → R D
  | [.py (.int i), .py (.int j)], S => .ok (.py (.int (if j < i then j else i))) S
  | _, _ => .no
def absD : List D → Sto → R D
  | [.py (.int i)], S => .ok (.py (.int (if i < 0 then -i else i))) S
  | _, _ => .no
def divmodD : List D → Sto → R D
  | [.py (.int i), .py (.int j)], S => if 0 < j ∧ j < 1073741824 then .ok (.py (.tuple [.int (i / j), .int (i % j)])) S else .no
  | _, _ => .no
def tupleD : List D → Sto → R D
  | [d], S => (match seqOf S d with
    | some ds => (match pysOf ds with
      | some ps => .ok (.py (.tuple ps)) S
      | none => .no)
    | none => .no)
  | _, _ => .no
/-- a new list of the items -/
def listD : List D → Sto → R (List D)
  | [.py (.str x)], S => if x.length ≤ sizeLine then .ok (x.cps.toList.map fun c => D.py (.str ⟨#[c]⟩)) S else .no
  | [d], S => (match seqOf S d with
    | some ds => .ok ds S
    | none => .no)
  | _, _ => .no
/-- the data of a value, the lists of the store within it as they stand -/
def deep (S : Sto) : Nat → D → Option PyData
  | 0, _ => none
  | _ + 1, .py d => some d
  | n + 1, .obj m => match S[m]? with
    | some (.lst ds) => (ds.mapM (deep S n)).map PyData.list
    | _ => none
  | _ + 1, .raw _ => none
def reprD : List D → Sto → R D
  | [d], S => (match deep S 8 d with
    | some p => if p.showable = true ∧ p.hasDict = false ∧ p.depth ≤ 60 ∧ p.shown.length ≤ sizeLine then .ok (.py (.str p.shown)) S else .no
    | none => .no)
  | _, _ => .no
/-- a call that makes a new list -/
def callL (g : List D → Sto → R (List D)) (a : Ax) : Ax := fun σ S => (a σ S).bind fun ds S1 => g ds S1
/-! ### methods by values -/
def appendD : D → List D → Sto → R D
  | .obj n, [d], S => (match S[n]? with
    | some (.lst ds) => if ds.length < sizeLine then .ok (.py .none) (S.set n (.lst (ds ++ [d]))) else .no
    | _ => .no)
  | _, _, _ => .no
def popD : D → List D → Sto → R D
  | .obj n, [], S => (match S[n]? with
    | some (.lst ds) => (match ds[ds.length - 1]? with
      | some d => .ok d (S.set n (.lst ds.dropLast))
      | none => .no)
    | _ => .no)
  | .obj n, [.py (.int i)], S => (match S[n]? with
    | some (.lst ds) => if 0 ≤ i ∧ i < 2 ^ 62 then (match ds[i.toNat]? with
      | some d => .ok d (S.set n (.lst (ds.eraseIdx i.toNat)))
      | none => .no) else .no
    | _ => .no)
  | _, _, _ => .no
/-- xs.extend(a new list) -/
def extE (o : Ex) (a : Ax) : Ex := fun σ S => (o σ S).bind fun x S1 => match x with
  | .obj n => (match S1[n]? with
    | some (.lst _) => (a σ S1).bind fun ds S2 => (match S2[n]? with
      | some (.lst es) => if es.length + ds.length ≤ sizeLine then .ok (.py .none) (S2.set n (.lst (es ++ ds))) else .no
      | _ => .no)
    | _ => .no)
  | _ => .no

/-! ### targets -/
def nmG (i : Nat) : Tg := fun d σ S => .ok (σ.set i (some d)) S
def nilG : List D → En → Sto → R En := fun ds σ S => match ds with
  | [] => .ok σ S
  | _ => .no
def consG (g : Tg) (r : List D → En → Sto → R En) : List D → En → Sto → R En := fun ds σ S => match ds with
  | d :: ds => (g d σ S).bind fun σ1 S1 => r ds σ1 S1
  | [] => .no
/-- a tuple to several targets -/
def tupG (n : Nat) (r : List D → En → Sto → R En) : Tg := fun d σ S => match d with
  | .py (.tuple ps) => if ps.length = n then r (ps.map .py) σ S else .no
  | _ => .no
/-- o[i] = d, of a list that may be changed -/
def ixG (o i : Ex) : Tg := fun d σ S => (o σ S).bind fun x S1 => (i σ S1).bind fun k S2 => match x, k with
  | .obj n, .py (.int k) => (match S2[n]? with
    | some (.lst ds) => (match L2.ixN ds.length k with
      | some j => .ok σ (S2.set n (.lst (ds.set j d)))
      | none => .no)
    | _ => .no)
  | _, _ => .no

/-! ### what is walked -/
abbrev It := En → Sto → R (List D)
def seqI (e : Ex) : It := fun σ S => (e σ S).bind fun d S1 => match d with
  | .py (.list ds) => .ok (ds.map .py) S1
  | .py (.tuple ds) => .ok (ds.map .py) S1
  | _ => .no
def txtI (e : Ex) : It := fun σ S => (e σ S).bind fun d S1 => match d with
  | .py (.str x) => if x.length ≤ 16777216 then .ok (x.cps.toList.map fun c => D.py (.str ⟨#[c]⟩)) S1 else .no
  | _ => .no
def rngV (lo : Int) (n : Nat) : List D := (List.range n).map fun (k : Nat) => D.py (.int (lo + (k : Int)))
def rng1I (e : Ex) : It := fun σ S => (e σ S).bind fun d S1 => match d with
  | .py (.int j) => if -(2 ^ 62) ≤ j ∧ j ≤ 16777216 then .ok (rngV 0 j.toNat) S1 else .no
  | _ => .no
def rng2I (a b : Ex) : It := fun σ S => (a σ S).bind fun x S1 => (b σ S1).bind fun y S2 => match x, y with
  | .py (.int i), .py (.int j) => if -(2 ^ 62) ≤ i ∧ j - i ≤ 16777216 ∧ i < 2 ^ 62 ∧ -(2 ^ 62) ≤ j ∧ j < 2 ^ 62 then .ok (rngV i (j - i).toNat) S2 else .no
  | _, _ => .no
def pyWalk (S : Sto) : D → Option (List PyData)
  | .py (.str x) => if x.length ≤ 16777216 then some (x.cps.toList.map fun c => PyData.str ⟨#[c]⟩) else none
  | .py (.list ds) => some ds
  | .py (.tuple ds) => some ds
  | _ => none
def zipI (a b : Ex) : It := fun σ S => (a σ S).bind fun x S1 => (b σ S1).bind fun y S2 => match pyWalk S2 x, pyWalk S2 y with
  | some xs, some ys => .ok ((xs.zip ys).map fun p => D.py (.tuple [p.1, p.2])) S2
  | _, _ => .no
def zip3I (a b c : Ex) : It := fun σ S => (a σ S).bind fun x S1 => (b σ S1).bind fun y S2 => (c σ S2).bind fun z S3 => match pyWalk S3 x, pyWalk S3 y, pyWalk S3 z with
  | some xs, some ys, some zs => .ok ((xs.zip (ys.zip zs)).map fun p => D.py (.tuple [p.1, p.2.1, p.2.2])) S3
  | _, _, _ => .no
def enumI (a : Ex) : It := fun σ S => (a σ S).bind fun x S1 => match pyWalk S1 x with
  | some xs => .ok (xs.zipIdx.map fun p => D.py (.tuple [.int (p.2 : Nat), p.1])) S1
  | none => .no
def rrngI (a b : Ex) : It := fun σ S => (a σ S).bind fun x S1 => (b σ S1).bind fun y S2 => match x, y with
  | .py (.int i), .py (.int j) => if -(2 ^ 62) ≤ i ∧ j - i ≤ 16777216 ∧ i < 2 ^ 62 ∧ -(2 ^ 62) ≤ j ∧ j < 2 ^ 62 then .ok (rngV i (j - i).toNat).reverse S2 else .no
  | _, _ => .no

def rrng1I (b : Ex) : It := fun σ S => (b σ S).bind fun y S2 => match y with
  | .py (.int j) => if -(2 ^ 62) ≤ j ∧ j ≤ 16777216 then .ok (rngV 0 j.toNat).reverse S2 else .no
  | _ => .no

/-! ### comprehensions -/
def wipeD (σ : En) : List Nat → En
  | [] => σ
  | v :: vs => (wipeD σ vs).set v none
def lcL (g : Tg) (c : Tx) (e : Ex) (σ : En) : List D → Sto → R (List D)
  | [], S => .ok [] S
  | x :: xs, S => match g x σ S with
    | .ok σ1 S1 => (match c σ1 S1 with
      | .ok k S2 => if k = true then (match e σ1 S2 with
        | .ok d S3 => (lcL g c e σ xs S3).bind fun ds S4 => .ok (d :: ds) S4
        | _ => .no) else lcL g c e σ xs S2
      | _ => .no)
    | _ => .no
def lcX (it : It) (vs : List Nat) (g : Tg) (c : Tx) (e : Ex) : Ax := fun σ S => (it σ S).bind fun xs S1 => lcL g c e (wipeD σ vs) xs S1
abbrev lcF (it : It) (vs : List Nat) (g : Tg) (c : Tx) (e : Ex) : Ex := frzE (lcX it vs g c e)
/-! ### statements -/
def passS : Sx := fun σ S => .nx σ S
def brkS : Sx := fun σ S => .bk σ S
def cntS : Sx := fun σ S => .ct σ S
def seqS (a b : Sx) : Sx := fun σ S => match a σ S with
  | .nx σ1 S1 => b σ1 S1
  | r => r
def asgS (e : Ex) (g : Tg) : Sx := fun σ S => (e σ S).run fun d S1 => (g d σ S1).run fun σ2 S2 => .nx σ2 S2
/-- a, b = x, y -/
def setAll : List Nat → List D → En → En
  | i :: is, d :: ds, σ => setAll is ds (σ.set i (some d))
  | _, _, σ => σ
def parS (is : List Nat) (a : Ax) : Sx := fun σ S => (a σ S).run fun ds S1 => .nx (setAll is ds σ) S1
def exprS (e : Ex) : Sx := fun σ S => (e σ S).run fun _ S1 => .nx σ S1
def retS (e : Ex) : Sx := fun σ S => (e σ S).run fun d S1 => .rt d S1
def ifS (c : Tx) (a b : Sx) : Sx := fun σ S => (c σ S).run fun k S1 => if k = true then a σ S1 else b σ S1
def raiseS (c : Str) : Sx := fun _ S => .ex c S
def forL (g : Tg) (b : Sx) : List D → En → Sto → F
  | [], σ, S => .nx σ S
  | x :: xs, σ, S => match g x σ S with
    | .ok σ1 S1 => (match b σ1 S1 with
      | .nx σ2 S2 => forL g b xs σ2 S2
      | .ct σ2 S2 => forL g b xs σ2 S2
      | .bk σ2 S2 => .nx σ2 S2
      | .rt d S2 => .rt d S2
      | .ex c S2 => .ex c S2
      | .no => .no)
    | .ex c S1 => .ex c S1
    | .no => .no
def forS (it : It) (g : Tg) (b : Sx) : Sx := fun σ S => (it σ S).run fun xs S1 => forL g b xs σ S1
def whileL (c : Tx) (b : Sx) : Nat → En → Sto → F
  | 0, _, _ => .no
  | n + 1, σ, S => (c σ S).run fun k S1 => if k = true then (match b σ S1 with
      | .nx σ2 S2 => whileL c b n σ2 S2
      | .ct σ2 S2 => whileL c b n σ2 S2
      | .bk σ2 S2 => .nx σ2 S2
      | .rt d S2 => .rt d S2
      | .ex c S2 => .ex c S2
      | .no => .no) else .nx σ S1
def whileS (n : Nat) (c : Tx) (b : Sx) : Sx := whileL c b n
/-- the list of a slot is not changed from here on -/
def fixS (i : Nat) : Sx := fun σ S => match σ[i]? with
  | some (some (.obj n)) => (match S[n]? with
    | some (.lst ds) => (match pysOf ds with
      | some ps => .nx (σ.set i (some (.py (.list ps)))) (S.set n .gone)
      | none => .no)
    | _ => .no)
  | _ => .no

/-- .. and its items, which are lists of the store -/
def fixL (S : Sto) : List D → Option (List PyData × Sto)
  | [] => some ([], S)
  | .py p :: ds => (fixL S ds).map fun r => (p :: r.1, r.2)
  | .obj n :: ds => match S[n]? with
    | some (.lst es) => (match pysOf es with
      | some ps => (fixL (S.set n .gone) ds).map fun r => (.list ps :: r.1, r.2)
      | none => none)
    | _ => none
  | .raw _ :: _ => none
def fix2S (i : Nat) : Sx := fun σ S => match σ[i]? with
  | some (some (.obj n)) => (match S[n]? with
    | some (.lst ds) => (match fixL (S.set n .gone) ds with
      | some (ps, S1) => .nx (σ.set i (some (.py (.list ps)))) S1
      | none => .no)
    | _ => .no)
  | _ => .no

/-! ### defs -/
def D.pure : D → Bool
  | .py _ => true
  | _ => false
def O.pure : O → Bool
  | .lst ds => ds.all D.pure
  | .gone => true
  | .tab _ _ => true
  | .dt _ => true
  | .dk _ => true
  | .ins _ fs => fs.all fun p => p.2.pure
  | .tpl ds => ds.all D.pure
open Classical in
/-- what a def has made for itself is forgotten where nothing leads to it -/
noncomputable def gc {α : Type} (p : Prop) (S S' : Sto) (k : Sto → α) : α :=
  if p ∧ S.length ≤ S'.length ∧ ∀ (i : Nat) (o : O), i < S.length → S'[i]? = some o → S[i]? = some o ∨ o.pure = true then k (S'.take S.length) else k S'
def init (n : Nat) (ds : List D) : En := ds.map some ++ List.replicate (n - ds.length) none
noncomputable def fnR (S : Sto) : F → R D
  | .nx _ S' => gc True S S' fun T => .ok (.py .none) T
  | .rt d S' => gc (d.pure = true) S S' fun T => .ok d T
  | .ex c S' => gc True S S' fun T => .ex c T
  | _ => .no
noncomputable def fnF (n : Nat) (b : Sx) : List D → Sto → R D := fun ds S => fnR S (b (init n ds) S)
end DV

set_option maxHeartbeats 4000000
/-! The data-level meaning holds of the model: relations. -/
namespace DV
open PySem PySem.Spec PyProof.Rows L2

/-! ### what is the same in a later heap -/
structure Keep (H H' : Hp) : Prop where
  tups : ∀ b xs, H b = some (.tup xs) → H' b = some (.tup xs)
  frzs : ∀ b o u, H b = some (.frz o u) → H' b = some (.frz o u)
theorem Keep.refl (H : Hp) : Keep H H := ⟨fun _ _ h => h, fun _ _ _ h => h⟩
theorem Keep.trans {H H1 H2 : Hp} (a : Keep H H1) (b : Keep H1 H2) : Keep H H2 :=
  ⟨fun c xs h => b.tups c xs (a.tups c xs h), fun c o u h => b.frzs c o u (a.frzs c o u h)⟩
/-- all but lists stays -/
theorem Keep.of {H H' : Hp} (h : ∀ b o, H b = some o → (∀ xs, o ≠ .lst xs) → H' b = some o) : Keep H H' where
  tups := fun b xs e => h b _ e (fun _ z => by cases z)
  frzs := fun b o u e => h b _ e (fun _ z => by cases z)
theorem Keep.new {H : Hp} {p : Addr} {o : HO} (h : H p = none) : Keep H (upd H p o) := .of fun b u e _ => by rw [upd_ne (ne_of_none e h)]; exact e
theorem Keep.list {H : Hp} {p : Addr} {xs : List V} {o : HO} (h : H p = some (.lst xs)) : Keep H (upd H p o) := .of fun b u e n => by
  rw [upd_ne (fun z => by subst z; rw [h] at e; cases e; exact n xs rfl)]
  exact e
/-- .. and the tables of code objects, too -/
structure KeepA (H H' : Hp) : Prop extends Keep H H' where
  tabs : ∀ P q, LamX.TabS H P q → LamX.TabS H' P q
instance {H H' : Hp} : Coe (KeepA H H') (Keep H H') := ⟨KeepA.toKeep⟩
theorem KeepA.refl (H : Hp) : KeepA H H := ⟨.refl H, fun _ _ h => h⟩
theorem KeepA.of {H H' : Hp} (h : ∀ b o, H b = some o → (∀ xs, o ≠ .lst xs) → H' b = some o) : KeepA H H' := ⟨.of h, fun P q ⟨ps, h1, h2, h3⟩ => ⟨ps, h _ _ h1 (fun _ z => by cases z), h2, fun pos cv hc => by
    obtain ⟨c, e1, e2⟩ := h3 pos cv hc
    exact ⟨c, e1, h _ _ e2 (fun _ z => by unfold LamX.CodeO at z; cases z)⟩⟩⟩
theorem KeepA.new {H : Hp} {p : Addr} {o : HO} (h : H p = none) : KeepA H (upd H p o) := .of fun b u e _ => by rw [upd_ne (ne_of_none e h)]; exact e
theorem KeepA.list {H : Hp} {p : Addr} {xs : List V} {o : HO} (h : H p = some (.lst xs)) : KeepA H (upd H p o) := .of fun b u e n => by
  rw [upd_ne (fun z => by subst z; rw [h] at e; cases e; exact n xs rfl)]
  exact e

/-- what may be changed in the heap: lists, dicts -/
inductive MO where
  | lst (vs : List V)
  | dt (kvs : List (List Key × V))
  | dk (kvs : List (Key × V))
  | ins (C dx : Addr) (fs : List (Str × V))
def MO.ho : MO → HO
  | .lst vs => .lst vs
  | .dt kvs => .dT kvs
  | .dk kvs => .dK kvs
  | .ins C dx fs => .ins C dx fs

/-! ### values -/
section
variable (K : PySem.W.Frag)
/-- a list that is never changed -/
def FL (H : Hp) (a : Addr) (xs : List V) : Prop := (∃ o, H a = some (.frz o (.lst xs))) ∨
  ∃ (o : Obj) (its : Array Value) (n : Nat), K.lookup a = some o ∧ o.cls = .type "list" ∧ o.dict = none ∧ o.data = .seq its n ∧ o.slots = #[] ∧ its.size ≤ sizeLine ∧ Vals xs its.toList
/-- a tuple whose object is known to have no dict -/
def FT (H : Hp) (a : Addr) (xs : List V) : Prop := (∃ o, H a = some (.frz o (.tup xs)) ∧ o.dict = none) ∨
  ∃ (o : Obj) (its : Array Value) (n : Nat), K.lookup a = some o ∧ o.cls = .type "tuple" ∧ o.dict = none ∧ o.data = .seq its n ∧ its.size ≤ sizeLine ∧ Vals xs its.toList
/-- a key as a datum -/
def keyP : Key → PyData
  | .inl i => .int i
  | .inr x => .str x
mutual
inductive Pp (H : Hp) : V → PyData → Prop
  | non : Pp H .non .none
  | bl (b : Bool) : Pp H (.bl b) (.bool b)
  | int (i : Int) : Pp H (.int i) (.int i)
  | str (x : Str) : Pp H (.str x) (.str x)
  | lst {a : Addr} {xs : List V} {ds : List PyData} : FL K H a xs → ds.length ≤ sizeLine → PpAll H xs ds → Pp H (.ref a) (.list ds)
  | tup {a : Addr} {xs : List V} {ds : List PyData} : FT K H a xs → ds.length ≤ sizeLine → PpAll H xs ds → Pp H (.ref a) (.tuple ds)
  | dic {a : Addr} {o : Obj} {kvs : List (Key × V)} {ds : List PyData} : H a = some (.frz o (.dK kvs)) → kvs.length ≤ sizeLine → PpAll H (kvs.map Prod.snd) ds → Pp H (.ref a) (.dict ((kvs.map fun kv => keyP kv.1).zip ds))
inductive PpAll (H : Hp) : List V → List PyData → Prop
  | nil : PpAll H [] []
  | cons {v : V} {vs : List V} {d : PyData} {ds : List PyData} : Pp H v d → PpAll H vs ds → PpAll H (v :: vs) (d :: ds)
end
end
section
variable {K : PySem.W.Frag} {H H' : Hp}
theorem FL.keep {a : Addr} {xs : List V} (k : Keep H H') (h : FL K H a xs) : FL K H' a xs := by
  rcases h with ⟨o, h⟩ | h
  · exact .inl ⟨o, k.frzs _ _ _ h⟩
  · exact .inr h
theorem FL.sq {a : Addr} {xs : List V} (h : FL K H a xs) : SqL K H a xs := by
  rcases h with ⟨o, h⟩ | ⟨o, its, n, h1, h2, h3, h4, _, h5⟩
  · exact .inl (.inr ⟨o, h⟩)
  · exact .inr ⟨o, its, n, h1, h2, h3, h4, h5⟩
theorem FT.keep {a : Addr} {xs : List V} (k : Keep H H') (h : FT K H a xs) : FT K H' a xs := by
  rcases h with ⟨o, h, d⟩ | h
  · exact .inl ⟨o, k.frzs _ _ _ h, d⟩
  · exact .inr h
theorem FT.sq {a : Addr} {xs : List V} (h : FT K H a xs) : SqT K H a xs := by
  rcases h with ⟨o, h, _⟩ | ⟨o, its, n, h1, h2, _, h3⟩
  · exact .inl (.inr ⟨o, h⟩)
  · exact .inr ⟨o, its, n, h1, h2, h3⟩
theorem FT.new {p : Addr} {xs : List V} {o : Obj} (d : o.dict = none) : FT K (upd H p (.frz o (.tup xs))) p xs := .inl ⟨o, upd_same, d⟩
theorem sqT_keep {a : Addr} {xs : List V} (k : Keep H H') (h : SqT K H a xs) : SqT K H' a xs := by
  rcases h with (h | ⟨o, h⟩) | h
  · exact .inl (.inl (k.tups _ _ h))
  · exact .inl (.inr ⟨o, k.frzs _ _ _ h⟩)
  · exact .inr h
mutual
theorem Pp.keep (k : Keep H H') : ∀ {v : V} {d : PyData}, Pp K H v d → Pp K H' v d
  | _, _, .non => .non
  | _, _, .bl b => .bl b
  | _, _, .int i => .int i
  | _, _, .str x => .str x
  | _, _, .lst h z hs => .lst (h.keep k) z (PpAll.keep k hs)
  | _, _, .tup h z hs => .tup (h.keep k) z (PpAll.keep k hs)
  | _, _, .dic h z hs => .dic (k.frzs _ _ _ h) z (PpAll.keep k hs)
theorem PpAll.keep (k : Keep H H') : ∀ {vs : List V} {ds : List PyData}, PpAll K H vs ds → PpAll K H' vs ds
  | _, _, .nil => .nil
  | _, _, .cons h hs => .cons (h.keep k) (hs.keep k)
end
mutual
theorem Pp.dp : ∀ {v : V} {d : PyData}, Pp K H v d → d.hasDict = false → Dp K H v d
  | _, _, .non, _ => .non
  | _, _, .bl b, _ => .bl b
  | _, _, .int i, _ => .int i
  | _, _, .str x, _ => .str x
  | _, _, .lst h _ hs, q => .lst h.sq (PpAll.dp hs (by rw [PyData.hasDict.eq_5] at q; exact q))
  | _, _, .tup h _ hs, q => .tup h.sq (PpAll.dp hs (by rw [PyData.hasDict.eq_6] at q; exact q))
  | _, _, .dic _ _ _, q => by rw [PyData.hasDict.eq_7] at q; cases q
theorem PpAll.dp : ∀ {vs : List V} {ds : List PyData}, PpAll K H vs ds → PyData.hasDictAll ds = false → DpAll K H vs ds
  | _, _, .nil, _ => .nil
  | _, _, .cons h hs, q => by
    rw [PyData.hasDictAll.eq_2, Bool.or_eq_false_iff] at q
    exact .cons (h.dp q.1) (hs.dp q.2)
end
theorem noDict_of {d : PyData} (h : SeqAt.shaped d = true) : d.hasDict = false := PyData.hasDict_of_canLay d (SeqAt.canLay_of_shaped h)
theorem PpAll.length : ∀ {vs : List V} {ds : List PyData}, PpAll K H vs ds → vs.length = ds.length
  | _, _, .nil => rfl
  | _, _, .cons _ hs => by rw [List.length_cons, List.length_cons, hs.length]
theorem PpAll.append : ∀ {vs ws : List V} {ds es : List PyData}, PpAll K H vs ds → PpAll K H ws es → PpAll K H (vs ++ ws) (ds ++ es)
  | _, _, _, _, .nil, q => q
  | _, _, _, _, .cons h hs, q => .cons h (hs.append q)
end

/-- a datum under the numbers of the store -/
inductive Rd (K : PySem.W.Frag) (ι : List Addr) (H : Hp) : V → D → Prop
  | py {v : V} {d : PyData} : Pp K H v d → Rd K ι H v (.py d)
  | obj {n : Nat} {a : Addr} : ι[n]? = some a → Rd K ι H (.ref a) (.obj n)
  | raw (a : Addr) : Rd K ι H (.ref a) (.raw a)
abbrev RdAll (K : PySem.W.Frag) (ι : List Addr) (H : Hp) : List V → List D → Prop := Paired (Rd K ι H)
inductive ObR (K : PySem.W.Frag) (ι : List Addr) (H : Hp) (a : Addr) : O → Prop
  | lst {vs : List V} {ds : List D} : H a = some (.lst vs) → RdAll K ι H vs ds → ObR K ι H a (.lst ds)
  | gone : ObR K ι H a .gone
  | tab {q : Str} : ObR K ι H a (.tab a q)
  | dt {kvs : List (List Key × V)} {es : List (List Key × PyData)} : H a = some (.dT kvs) → kvs.map Prod.fst = es.map Prod.fst → PpAll K H (kvs.map Prod.snd) (es.map Prod.snd) → ObR K ι H a (.dt es)
  | dk {kvs : List (Key × V)} {es : List (Key × PyData)} : H a = some (.dK kvs) → kvs.map Prod.fst = es.map Prod.fst → PpAll K H (kvs.map Prod.snd) (es.map Prod.snd) → ObR K ι H a (.dk es)
  | ins {c : Str} {C dx : Addr} {vs : List (Str × V)} {fs : List (Str × D)} : PySem.W.nsIn K mainGlobals c = some (some (.ref C)) → H a = some (.ins C dx vs) → vs.map Prod.fst = fs.map Prod.fst → RdAll K ι H (vs.map Prod.snd) (fs.map Prod.snd) → ObR K ι H a (.ins c fs)
  | tpl {o : Obj} {vs : List V} {ds : List D} : H a = some (.frz o (.tup vs)) → RdAll K ι H vs ds → ObR K ι H a (.tpl ds)
structure StR (K : PySem.W.Frag) (ι : List Addr) (H : Hp) (S : Sto) : Prop where
  len : ι.length = S.length
  nd : ι.Nodup
  there : ∀ (n : Nat) (a : Addr), ι[n]? = some a → H a ≠ none
  at_ : ∀ (n : Nat) (o : O) (a : Addr), S[n]? = some o → ι[n]? = some a → ObR K ι H a o
  tb : ∀ (n P : Nat) (q : Str), S[n]? = some (.tab P q) → LamX.TabS H P q
structure EnR (K : PySem.W.Frag) (ι : List Addr) (H : Hp) (σ : L2.St) (σd : En) : Prop where
  len : σ.length = σd.length
  at_ : ∀ (i : Nat) (d : D), σd[i]? = some (some d) → ∃ v, σ[i]? = some (some v) ∧ Rd K ι H v d
section
variable {K : PySem.W.Frag} {H H' H1 H2 : Hp} {ι ι' ι1 ι2 : List Addr} {v : V} {d : D} {S S' : Sto} {σ : L2.St} {σd : En}
theorem pre_get {α : Type} {l l' : List α} {n : Nat} {a : α} (p : l <+: l') (h : l[n]? = some a) : l'[n]? = some a := by
  obtain ⟨t, rfl⟩ := p
  obtain ⟨hn, e⟩ := List.getElem?_eq_some_iff.mp h
  rw [List.getElem?_append_left hn]
  exact h
theorem Rd.mono (p : ι <+: ι') (k : Keep H H') (h : Rd K ι H v d) : Rd K ι' H' v d := by
  cases h with
  | py h => exact .py (h.keep k)
  | obj h => exact .obj (pre_get p h)
  | raw a => exact .raw a
theorem RdAll.mono (p : ι <+: ι') (k : Keep H H') : ∀ {vs : List V} {ds : List D}, RdAll K ι H vs ds → RdAll K ι' H' vs ds
  | _, _, .nil => .nil
  | _, _, .cons h hs => .cons (h.mono p k) (RdAll.mono p k hs)
theorem EnR.mono (p : ι <+: ι') (k : Keep H H') (h : EnR K ι H σ σd) : EnR K ι' H' σ σd :=
  ⟨h.len, fun i d e => let ⟨v, e1, r⟩ := h.at_ i d e; ⟨v, e1, r.mono p k⟩⟩
theorem RdAll.pys : ∀ {vs : List V} {ds : List D} {ps : List PyData}, RdAll K ι H vs ds → pysOf ds = some ps → PpAll K H vs ps
  | _, _, _, .nil, e => by cases e; exact .nil
  | _, _, _, .cons (b := d) h hs, e => by
    cases h with
    | py h =>
      rw [pysOf_cons] at e
      rw [Option.map_eq_some_iff] at e
      obtain ⟨ps, e1, e2⟩ := e
      subst e2
      exact .cons h (RdAll.pys hs e1)
    | obj h => simp [pysOf] at e
    | raw a => simp [pysOf] at e
theorem RdAll.of_pys : ∀ {vs : List V} {ps : List PyData}, PpAll K H vs ps → RdAll K ι H vs (ps.map D.py)
  | _, _, .nil => .nil
  | _, _, .cons h hs => .cons (.py h) (RdAll.of_pys hs)
theorem RdAll.length : ∀ {vs : List V} {ds : List D}, RdAll K ι H vs ds → vs.length = ds.length := fun h => Paired.length h
theorem pysOf_length : ∀ {ds : List D} {ps : List PyData}, pysOf ds = some ps → ps.length = ds.length
  | [], _, e => by cases e; rfl
  | .py d :: ds, _, e => by
    rw [pysOf_cons, Option.map_eq_some_iff] at e
    obtain ⟨ps, e1, e2⟩ := e
    subst e2
    rw [List.length_cons, List.length_cons, pysOf_length e1]
  | .obj n :: ds, _, e => by simp [pysOf] at e
  | .raw n :: ds, _, e => by simp [pysOf] at e
theorem Paired.getR {α β : Type} {G : α → β → Prop} : ∀ {l₁ : List α} {l₂ : List β} {i : Nat} {y : β}, Paired G l₁ l₂ → l₂[i]? = some y → ∃ x, l₁[i]? = some x ∧ G x y
  | _, _, _, _, .nil, e => by simp at e
  | _, _, 0, _, .cons r _, e => by simp at e; subst e; exact ⟨_, rfl, r⟩
  | _, _, i + 1, y, .cons r t, e => by
    obtain ⟨x, h1, h2⟩ := Paired.getR (i := i) t (by simpa using e)
    exact ⟨x, by simpa using h1, h2⟩
theorem Paired.setB {α β : Type} {G : α → β → Prop} {x : α} {y : β} (r : G x y) : ∀ {l₁ : List α} {l₂ : List β} (i : Nat), Paired G l₁ l₂ → Paired G (l₁.set i x) (l₂.set i y)
  | _, _, _, .nil => .nil
  | _, _, 0, .cons _ t => .cons r t
  | _, _, i + 1, .cons q t => .cons q (Paired.setB r i t)
theorem Paired.app {α β : Type} {G : α → β → Prop} : ∀ {l₁ m₁ : List α} {l₂ m₂ : List β}, Paired G l₁ l₂ → Paired G m₁ m₂ → Paired G (l₁ ++ m₁) (l₂ ++ m₂)
  | _, _, _, _, .nil, q => q
  | _, _, _, _, .cons h hs, q => .cons h (Paired.app hs q)

theorem tab_set {S : Sto} {n m : Nat} {o : O} {P : Nat} {q : Str} (e : (S.set n o)[m]? = some (.tab P q)) (h : o ≠ .tab P q) : S[m]? = some (.tab P q) := by
  by_cases z : n = m
  · subst z
    have hl : n < S.length := by simpa using (List.getElem?_eq_some_iff.mp e).1
    rw [List.getElem?_set_self hl] at e
    exact absurd (Option.some.inj e) h
  · rwa [List.getElem?_set_ne z] at e
theorem tab_app {S : Sto} {m : Nat} {o : O} {P : Nat} {q : Str} (e : (S ++ [o])[m]? = some (.tab P q)) (h : o ≠ .tab P q) : S[m]? = some (.tab P q) := by
  by_cases z : m < S.length
  · rwa [List.getElem?_append_left z] at e
  · rw [List.getElem?_append_right (by omega)] at e
    have hz : m - S.length = 0 := by
      have := (List.getElem?_eq_some_iff.mp e).1
      simp at this
      omega
    rw [hz] at e
    exact absurd (Option.some.inj e) h
theorem ObR.mono {a : Addr} {o : O} (p : ι <+: ι') (k : Keep H H') (hl : ∀ vs : MO, H a = some vs.ho → H' a = some vs.ho) (h : ObR K ι H a o) : ObR K ι' H' a o := by
  cases h with
  | lst e r => exact .lst (hl (.lst _) e) (r.mono p k)
  | gone => exact .gone
  | tab => exact .tab
  | dt e f r => exact .dt (hl (.dt _) e) f (r.keep k)
  | dk e f r => exact .dk (hl (.dk _) e) f (r.keep k)
  | ins hc e f r => exact .ins hc (hl (.ins _ _ _) e) f (r.mono p k)
  | tpl e r => exact .tpl (k.frzs _ _ _ e) (r.mono p k)
/-- a heap in which the lists are as they were -/
theorem StR.keep (h : StR K ι H S) (k : KeepA H H') (hl : ∀ (b : Addr) (vs : MO), H b = some vs.ho → H' b = some vs.ho) (hn : ∀ b, H b ≠ none → H' b ≠ none) : StR K ι H' S :=
  ⟨h.len, h.nd, fun n a e => hn a (h.there n a e), fun n o a e1 e2 => (h.at_ n o a e1 e2).mono (List.prefix_refl _) k (hl a), fun n P q e => k.tabs P q (h.tb n P q e)⟩
theorem StR.new (h : StR K ι H S) {p : Addr} {o : HO} (hp : H p = none) : StR K ι (upd H p o) S :=
  h.keep (.new hp) (fun b vs e => by rw [upd_ne (ne_of_none e hp)]; exact e) fun b e => by
    unfold upd
    split
    · simp
    · exact e
/-- a list that is at no number is written -/
theorem StR.other (h : StR K ι H S) {p : Addr} {xs : List V} {o : HO} (hp : H p = some (.lst xs)) (hn : p ∉ ι) : StR K ι (upd H p o) S := by
  have ne : ∀ (n : Nat) (a : Addr), ι[n]? = some a → a ≠ p := fun n a e z => by
    subst z
    exact hn (List.mem_of_getElem? e)
  refine ⟨h.len, h.nd, fun n a e => ?_, fun n u a e1 e2 => ?_, fun n P q e => (KeepA.list hp).tabs P q (h.tb n P q e)⟩
  · rw [upd_ne (ne n a e)]
    exact h.there n a e
  · refine (h.at_ n u a e1 e2).mono (List.prefix_refl _) (.list hp) fun vs e => ?_
    rw [upd_ne (ne n a e2)]
    exact e
theorem StR.notin (h : StR K ι H S) {p : Addr} (hp : H p = none) : p ∉ ι := fun hm => by
  obtain ⟨n, e⟩ := List.mem_iff_getElem?.mp hm
  exact h.there n p e hp
/-- a list that stands at no number gets one -/
theorem StR.push (h : StR K ι H S) {p : Addr} {vs : List V} {ds : List D} (hp : H p = some (.lst vs)) (hn : p ∉ ι) (r : RdAll K ι H vs ds) : StR K (ι ++ [p]) H (S ++ [.lst ds]) := by
  refine ⟨by rw [List.length_append, List.length_append, h.len]; rfl, ?_, fun n a e => ?_, fun n o a e1 e2 => ?_, fun n P q e => ?_⟩
  · rw [List.nodup_append]
    exact ⟨h.nd, by simp, fun a ha b hb z => by
      rw [List.mem_singleton] at hb
      exact hn (hb ▸ z ▸ ha)⟩
  · by_cases hlt : n < ι.length
    · rw [List.getElem?_append_left hlt] at e
      exact h.there n a e
    · rw [List.getElem?_append_right (by omega)] at e
      have hz : n - ι.length = 0 := by
        have := (List.getElem?_eq_some_iff.mp e).1
        simp at this
        omega
      rw [hz] at e
      simp at e
      subst e
      rw [hp]
      simp
  · by_cases hlt : n < S.length
    · rw [List.getElem?_append_left hlt] at e1
      rw [List.getElem?_append_left (by rw [h.len]; exact hlt)] at e2
      exact (h.at_ n o a e1 e2).mono (List.prefix_append _ _) (.refl _) fun _ e => e
    · rw [List.getElem?_append_right (by omega)] at e1
      rw [List.getElem?_append_right (by rw [h.len]; omega), h.len] at e2
      have hz : n - S.length = 0 := by
        have := (List.getElem?_eq_some_iff.mp e1).1
        simp at this
        omega
      rw [hz] at e1 e2
      simp at e1 e2
      subst e1 e2
      exact .lst hp (r.mono (List.prefix_append _ _) (.refl _))
  · exact h.tb n P q (tab_app e fun z => by cases z)
theorem nodup_at {l : List Addr} {i j : Nat} {a : Addr} (nd : l.Nodup) (a1 : l[i]? = some a) (a2 : l[j]? = some a) : i = j := by
  obtain ⟨h1, e1⟩ := List.getElem?_eq_some_iff.mp a1
  obtain ⟨h2, e2⟩ := List.getElem?_eq_some_iff.mp a2
  exact (List.getElem_inj nd).mp (e1.trans e2.symm)
/-- a list of the store is written -/
theorem StR.set (h : StR K ι H S) {n : Nat} {p : Addr} {vs ws : List V} {ds : List D} (e : ι[n]? = some p) (hp : H p = some (.lst vs)) (r : RdAll K ι H ws ds) : StR K ι (upd H p (.lst ws)) (S.set n (.lst ds)) := by
  refine ⟨by rw [List.length_set, h.len], h.nd, fun m a e1 => ?_, fun m o a e1 e2 => ?_, fun n P q e1 => (KeepA.list hp).tabs P q (h.tb n P q (tab_set e1 fun z => by cases z))⟩
  · unfold upd
    split
    · simp
    · exact h.there m a e1
  · by_cases hm : m = n
    · subst hm
      rw [e] at e2
      cases e2
      have hlt : m < S.length := by
        have := (List.getElem?_eq_some_iff.mp e1).1
        simpa using this
      rw [List.getElem?_set_self hlt] at e1
      cases e1
      exact .lst upd_same (r.mono (List.prefix_refl _) (.list hp))
    · rw [List.getElem?_set_ne (Ne.symm hm)] at e1
      refine (h.at_ m o a e1 e2).mono (List.prefix_refl _) (.list hp) fun vs' e3 => ?_
      rw [upd_ne (fun z => hm (by subst z; exact nodup_at h.nd e2 e))]
      exact e3
/-- a list of the store is not changed from here on -/
theorem StR.fix (h : StR K ι H S) {n : Nat} {p : Addr} {vs : List V} {o : HO} (e : ι[n]? = some p) (hp : H p = some (.lst vs)) : StR K ι (upd H p o) (S.set n .gone) := by
  refine ⟨by rw [List.length_set, h.len], h.nd, fun m a e1 => ?_, fun m u a e1 e2 => ?_, fun n P q e1 => (KeepA.list hp).tabs P q (h.tb n P q (tab_set e1 fun z => by cases z))⟩
  · unfold upd
    split
    · simp
    · exact h.there m a e1
  · by_cases hm : m = n
    · subst hm
      have hlt : m < S.length := by
        have := (List.getElem?_eq_some_iff.mp e1).1
        simpa using this
      rw [List.getElem?_set_self hlt] at e1
      cases e1
      exact .gone
    · rw [List.getElem?_set_ne (Ne.symm hm)] at e1
      refine (h.at_ m u a e1 e2).mono (List.prefix_refl _) (.list hp) fun vs' e3 => ?_
      rw [upd_ne (fun z => hm (by subst z; exact nodup_at h.nd e2 e))]
      exact e3
end

/-! ### what is wanted behind a part -/
structure Post (K : PySem.W.Frag) (ι : List Addr) (H : Hp) (ι' : List Addr) (H' : Hp) (S' : Sto) : Prop where
  pre : ι <+: ι'
  keep : Keep H H'
  sto : StR K ι' H' S'
  frame : ∀ b vs, b ∉ ι → H b = some (.lst vs) → H' b = some (.lst vs) ∧ b ∉ ι'
  dom : ∀ b, H b ≠ none → H' b ≠ none
section
variable {K : PySem.W.Frag} {ι ι1 ι2 : List Addr} {H H1 H2 : Hp} {S S1 S2 : Sto}
theorem Post.refl (h : StR K ι H S) : Post K ι H ι H S := ⟨List.prefix_refl _, .refl _, h, fun _ _ n e => ⟨e, n⟩, fun _ e => e⟩
theorem Post.trans (a : Post K ι H ι1 H1 S1) (b : Post K ι1 H1 ι2 H2 S2) : Post K ι H ι2 H2 S2 :=
  ⟨a.pre.trans b.pre, a.keep.trans b.keep, b.sto, fun c vs n e => let ⟨e1, n1⟩ := a.frame c vs n e; b.frame c vs n1 e1, fun c e => b.dom c (a.dom c e)⟩
theorem upd_dom {H : Hp} {p : Addr} {o : HO} : ∀ b, H b ≠ none → upd H p o b ≠ none := fun b e => by
  unfold upd
  split
  · simp
  · exact e
theorem Post.new (h : StR K ι H S) {p : Addr} {o : HO} (hp : H p = none) : Post K ι H ι (upd H p o) S :=
  ⟨List.prefix_refl _, .new hp, h.new hp, fun b vs n e => ⟨by rw [upd_ne (ne_of_none e hp)]; exact e, n⟩, upd_dom⟩
/-- a list of the store is written -/
theorem Post.wr {n : Nat} {p : Addr} {vs : List V} {o : HO} (e : ι[n]? = some p) (hp : H p = some (.lst vs)) (h : StR K ι (upd H p o) S) : Post K ι H ι (upd H p o) S :=
  ⟨List.prefix_refl _, .list hp, h, fun b ws m q => ⟨by rw [upd_ne (fun z => m (by subst z; exact List.mem_of_getElem? e))]; exact q, m⟩, upd_dom⟩
/-- a list that is new since H is written, fixed -/
theorem Post.fixNew (a : Post K ι H ι1 H1 S1) {p : Addr} {vs : List V} {o : HO} (hp : H1 p = some (.lst vs)) (hn : p ∉ ι1) (h0 : H p = none) : Post K ι H ι1 (upd H1 p o) S1 :=
  ⟨a.pre, a.keep.trans (.list hp), a.sto.other hp hn, fun b ws m q => let ⟨e1, n1⟩ := a.frame b ws m q; ⟨by rw [upd_ne (ne_of_none q h0)]; exact e1, n1⟩, fun b e => upd_dom b (a.dom b e)⟩
end

/-- the class of an error by its name -/
def clsV (mg : Str → Option Value) (c : Str) : Value := (mg c).getD .none
section
variable (K : PySem.W.Frag) (mg : Str → Option Value) (E : XK) (ι : List Addr) (H : Hp)
def Wp {α β : Type} (rel : List Addr → Hp → α → β → Prop) (r : R β) (Q : α → Hp → Prop) : Prop := match r with
  | .ok d S' => ∀ v H' ι', Post K ι H ι' H' S' → rel ι' H' v d → Q v H'
  | .ex c S' => ∀ H' ι', Post K ι H ι' H' S' → E (clsV mg c) none H'
  | .no => False
def WpF (r : F) (N : Ends) : Prop := match r with
  | .nx σd S' => ∀ σ' H' ι', Post K ι H ι' H' S' → EnR K ι' H' σ' σd → N.nx σ' H'
  | .bk σd S' => ∀ σ' H' ι', Post K ι H ι' H' S' → EnR K ι' H' σ' σd → N.bk σ' H'
  | .ct σd S' => ∀ σ' H' ι', Post K ι H ι' H' S' → EnR K ι' H' σ' σd → N.ct σ' H'
  | .rt d S' => ∀ v H' ι', Post K ι H ι' H' S' → Rd K ι' H' v d → N.rt v H'
  | .ex c S' => ∀ H' ι', Post K ι H ι' H' S' → E (clsV mg c) none H'
  | .no => False
end
abbrev relD (K : PySem.W.Frag) : List Addr → Hp → V → D → Prop := fun ι H v d => Rd K ι H v d
abbrev relB : List Addr → Hp → Bool → Bool → Prop := fun _ _ b k => b = k
abbrev relA (K : PySem.W.Frag) : List Addr → Hp → List V → List D → Prop := fun ι H vs ds => RdAll K ι H vs ds
/-- a new list (since H0) that has no number yet -/
abbrev relL (K : PySem.W.Frag) (H0 : Hp) : List Addr → Hp → V → List D → Prop := fun ι H v ds => ∃ p vs, H0 p = none ∧ v = .ref p ∧ H p = some (.lst vs) ∧ p ∉ ι ∧ vs.length ≤ sizeLine ∧ RdAll K ι H vs ds
section
variable {K : PySem.W.Frag} {mg : Str → Option Value} {E : XK} {ι ι' : List Addr} {H H' : Hp} {S S' : Sto} {α β γ δ : Type} {rel : List Addr → Hp → α → β → Prop} {rel' : List Addr → Hp → γ → δ → Prop} {r : R β} {Q Q' : α → Hp → Prop}
theorem Wp.re (p : Post K ι H ι' H' S') (h : Wp K mg E ι H rel r Q) : Wp K mg E ι' H' rel r Q := by
  cases r with
  | ok d S1 => exact fun v H1 ι1 q => h v H1 ι1 (p.trans q)
  | ex c S1 => exact fun H1 ι1 q => h H1 ι1 (p.trans q)
  | no => exact h
theorem WpF.re {r : F} {N : Ends} (p : Post K ι H ι' H' S') (h : WpF K mg E ι H r N) : WpF K mg E ι' H' r N := by
  cases r with
  | nx d S1 => exact fun v H1 ι1 q => h v H1 ι1 (p.trans q)
  | bk d S1 => exact fun v H1 ι1 q => h v H1 ι1 (p.trans q)
  | ct d S1 => exact fun v H1 ι1 q => h v H1 ι1 (p.trans q)
  | rt d S1 => exact fun v H1 ι1 q => h v H1 ι1 (p.trans q)
  | ex c S1 => exact fun H1 ι1 q => h H1 ι1 (p.trans q)
  | no => exact h
theorem Wp.mono (h : Wp K mg E ι H rel r Q) (q : ∀ v H', Q v H' → Q' v H') : Wp K mg E ι H rel r Q' := by
  cases r with
  | ok d S1 => exact fun v H1 ι1 p x => q _ _ (h v H1 ι1 p x)
  | ex c S1 => exact h
  | no => exact h
theorem Wp.sub {rel2 : List Addr → Hp → α → β → Prop} (h : Wp K mg E ι H rel r Q) (s : ∀ ι H v d, rel2 ι H v d → rel ι H v d) : Wp K mg E ι H rel2 r Q := by
  cases r with
  | ok d S1 => exact fun v H1 ι1 p x => h v H1 ι1 p (s _ _ _ _ x)
  | ex c S1 => exact h
  | no => exact h
/-- a part, then the rest -/
theorem Wp.bind {k : β → Sto → R δ} {P : γ → Hp → Prop} (h : Wp K mg E ι H rel' (r.bind k) P) (q : ∀ d S', r = .ok d S' → ∀ v H' ι', Post K ι H ι' H' S' → rel ι' H' v d → Wp K mg E ι' H' rel' (k d S') P → Q v H') : Wp K mg E ι H rel r Q := by
  cases r with
  | ok d S1 => exact fun v H1 ι1 p x => q d S1 rfl v H1 ι1 p x (h.re p)
  | ex c S1 => exact h
  | no => exact h
/-- .. the rest as it was wanted ahead of it -/
theorem Wp.bind0 {k : β → Sto → R δ} {P : γ → Hp → Prop} (h : Wp K mg E ι H rel' (r.bind k) P) (q : ∀ d S', r = .ok d S' → ∀ v H' ι', Post K ι H ι' H' S' → rel ι' H' v d → Wp K mg E ι H rel' (k d S') P → Q v H') : Wp K mg E ι H rel r Q := by
  cases r with
  | ok d S1 => exact fun v H1 ι1 p x => q d S1 rfl v H1 ι1 p x h
  | ex c S1 => exact h
  | no => exact h
theorem Wp.run {k : β → Sto → F} {N : Ends} (h : WpF K mg E ι H (r.run k) N) (q : ∀ d S', r = .ok d S' → ∀ v H' ι', Post K ι H ι' H' S' → rel ι' H' v d → WpF K mg E ι' H' (k d S') N → Q v H') : Wp K mg E ι H rel r Q := by
  cases r with
  | ok d S1 => exact fun v H1 ι1 p x => q d S1 rfl v H1 ι1 p x (WpF.re p h)
  | ex c S1 => exact h
  | no => exact h
end
end DV

set_option maxHeartbeats 4000000
/-! The data-level meaning holds of the model: judgements, expressions, statements. -/
namespace DV
open PySem PySem.Spec PyProof.Rows L2

structure Okx (k : Nat) (X : Cx) (E : XK) : Prop where
  calm : X.calm = true
  nd : X.N.Nodup
  room : Room k X.A
  gd : X.A.guards = some []
  pass : Passes (L2.CX X.prog X.w) X E
  take : Takes X (fun cls d _ H => E cls d H)
  own : PassesOwn (model X.prog X.w) X.A X.env X.xe
theorem Okx.blk {k : Nat} {X : Cx} {E : XK} (o : Okx k X E) (s : Shared) (H : Hp) (scope : Scope) (cenv : Env) (fp : List Addr) : Okx k (X.blk s H scope cenv fp) E0 :=
  ⟨o.calm, o.nd, o.room, o.gd, passL, takes0, .never⟩

def DE (X : Cx) (E : XK) (e : Expr) (f : Ex) : Prop := ∃ t, PE X e t ∧ ∀ σ H σd S ι Q, EnR X.K ι H σ σd → StR X.K ι H S → Wp X.K X.mg E ι H (relD X.K) (f σd S) Q → t σ H Q
def DT (X : Cx) (E : XK) (e : Expr) (f : Tx) : Prop := ∃ t, PT X e t ∧ ∀ σ H σd S ι Q, EnR X.K ι H σ σd → StR X.K ι H S → Wp X.K X.mg E ι H relB (f σd S) Q → t σ H Q
def DW (X : Cx) (E : XK) (e : Expr) (f : Tx) : Prop := ∃ t, PW X e t ∧ ∀ σ H σd S ι Q, EnR X.K ι H σ σd → StR X.K ι H S → Wp X.K X.mg E ι H relB (f σd S) Q → t σ H Q
/-- a new list -/
def DL (X : Cx) (E : XK) (e : Expr) (f : Ax) : Prop := ∃ t, PE X e t ∧ ∀ σ H σd S ι Q, EnR X.K ι H σ σd → StR X.K ι H S → Wp X.K X.mg E ι H (relL X.K H) (f σd S) Q → t σ H Q
def DA (X : Cx) (E : XK) (es : List Expr) (f : Ax) : Prop := (∀ σ S ds S', f σ S = .ok ds S' → ds.length = es.length) ∧
  ∃ t, PA X es t ∧ ∀ σ H σd S ι Q, EnR X.K ι H σ σd → StR X.K ι H S → Wp X.K X.mg E ι H (relA X.K) (f σd S) Q → t σ H Q
def DS (X : Cx) (E : XK) (st : Stmt) (f : Sx) : Prop := ∃ t, PS X st t ∧ ∀ σ H σd S ι N, EnR X.K ι H σ σd → StR X.K ι H S → WpF X.K X.mg E ι H (f σd S) N → t N σ H
def DSs (X : Cx) (E : XK) (st : List Stmt) (f : Sx) : Prop := ∃ t, PSs X st t ∧ ∀ σ H σd S ι N, EnR X.K ι H σ σd → StR X.K ι H S → WpF X.K X.mg E ι H (f σd S) N → t N σ H
/-- a target; it sets the slots vs alone -/
def DG (X : Cx) (E : XK) (vs : List Nat) (tg : Expr) (g : Tg) : Prop := ∃ t, PG X tg t ∧ ∀ v d σ H σd S ι Q, EnR X.K ι H σ σd → StR X.K ι H S → Rd X.K ι H v d →
  Wp X.K X.mg E ι H (fun ι' H' σ' σd' => EnR X.K ι' H' σ' σd' ∧ wipe σ' vs = wipe σ vs) (g d σd S) Q → t v σ H Q
def DGs (X : Cx) (E : XK) (vs : List Nat) (tgs : List Expr) (g : List D → En → Sto → R En) : Prop := ∃ t, PGs X tgs t ∧ ∀ ws ds σ H σd S ι Q, EnR X.K ι H σ σd → StR X.K ι H S → RdAll X.K ι H ws ds →
  Wp X.K X.mg E ι H (fun ι' H' σ' σd' => EnR X.K ι' H' σ' σd' ∧ wipe σ' vs = wipe σ vs) (g ds σd S) Q → t ws σ H Q


/-! ### kinds of values -/
section
variable {K : PySem.W.Frag} {ι : List Addr} {H : Hp} {S : Sto} {v : V} {d : D}
theorem int_of {i : Int} (r : Rd K ι H v (.py (.int i))) : v = .int i := by
  cases r with
  | py r => cases r; rfl
theorem str_of {i : Str} (r : Rd K ι H v (.py (.str i))) : v = .str i := by
  cases r with
  | py r => cases r; rfl
/-- a sequence is read -/
theorem seq_of (hS : StR K ι H S) (r : Rd K ι H v d) {ds : List D} (h : seqOf S d = some ds) : ∃ a vs, v = .ref a ∧ (SqL K H a vs ∨ (FT K H a vs ∧ ∃ ps, d = .py (.tuple ps) ∧ ps.length ≤ sizeLine)) ∧ RdAll K ι H vs ds := by
  cases r with
  | py r =>
    cases r with
    | lst hf hz hs =>
      cases h
      exact ⟨_, _, rfl, .inl hf.sq, .of_pys hs⟩
    | tup hf hz hs =>
      cases h
      exact ⟨_, _, rfl, .inr ⟨hf, _, rfl, hz⟩, .of_pys hs⟩
    | _ => cases h
  | obj e =>
    rename_i n a
    simp only [seqOf] at h
    split at h
    · rename_i ds' he
      cases h
      cases hS.at_ _ _ _ he e with
      | lst ha rr => exact ⟨a, _, rfl, .inl (.of ha), rr⟩
    · cases h
  | raw a => cases h
theorem tyL (hS : StR K ι H S) (r : Rd K ι H v d) (h : lsOk S d = true) : tyV K "list" v H := by
  cases r with
  | py r =>
    cases r with
    | lst hf hz hs => exact .inl ⟨rfl, _, hf.sq⟩
    | _ => cases h
  | obj e =>
    rename_i n a
    simp only [lsOk] at h
    split at h
    · rename_i ds' he
      cases hS.at_ _ _ _ he e with
      | lst ha rr => exact .inl ⟨rfl, _, .of ha⟩
    · cases h
  | raw a => cases h
theorem atI_read {vs : List V} {ds : List D} {i : Int} {d : D} (r : RdAll K ι H vs ds) (h : atI ds i = some d) : ∃ v, atI vs i = some v ∧ Rd K ι H v d := by
  unfold atI at h ⊢
  rw [r.length]
  cases e : ixN ds.length i with
  | none => rw [e] at h; cases h
  | some j =>
    rw [e] at h
    obtain ⟨v, e1, e2⟩ := Paired.getR r h
    exact ⟨v, e1, e2⟩
theorem item_read {mg : Str → Option Value} {E : XK} {x y : V} {d e : D} {Q : VK} (hS : StR K ι H S) (rx : Rd K ι H x d) (ry : Rd K ι H y e) (h : Wp K mg E ι H (relD K) (itemD d e S) Q) : rIx K x y H Q := by
  unfold itemD at h
  split at h
  · rename_i z i
    split at h
    · rename_i hz
      split at h
      · rename_i c hc
        exact .inr (.inr ⟨z, i, c, str_of rx, int_of ry, hz, hc, h _ _ _ (.refl hS) (.py (.str _))⟩)
      · exact h.elim
    · exact h.elim
  · rename_i i hne
    split at h
    · rename_i ds hds
      split at h
      · rename_i d' hd'
        obtain ⟨a, vs, rfl, hq, rr⟩ := seq_of hS rx hds
        obtain ⟨v, hv, rv⟩ := atI_read rr hd'
        have q := h v H ι (.refl hS) rv
        rcases hq with hq | hq
        · exact .inl ⟨a, vs, i, v, rfl, int_of ry, hq, hv, q⟩
        · exact .inr (.inl ⟨a, vs, i, v, rfl, int_of ry, hq.1.sq, hv, q⟩)
      · exact h.elim
    · exact h.elim
  · exact h.elim
end
section
variable {X : Cx} {E : XK} {k : Nat} {e a b c : Expr} {f g h : Ex} {es : List Expr} {fs : Ax} {pos : Pos}
theorem De.mk {t : TE} (p : PE X e t) (q : ∀ σ H σd S ι Q, EnR X.K ι H σ σd → StR X.K ι H S → Wp X.K X.mg E ι H (relD X.K) (f σd S) Q → t σ H Q) : DE X E e f := ⟨t, p, q⟩

/-! ### names, constants -/
theorem de_var (i : Nat) {x : Str} (hN : X.N[i]? = some x := by rfl) (hv : Vis X.env.scope x := by first | exact Or.inl rfl | exact Or.inr (Or.inl rfl) | exact Or.inr (Or.inr rfl)) (hd : (x == ("__debug__" : Str)) = false := by decide)
    (hcd : (x == ("__classdict__" : Str)) = false := by decide) : DE X E (.Name x pos) (varE i) := by
  refine ⟨_, pe_var hN hv hd hcd, fun σ H σd S ι Q hE hS h => ?_⟩
  unfold varE at h
  split at h
  · rename_i d hd'
    obtain ⟨v, e1, r⟩ := hE.at_ i d hd'
    exact ⟨v, e1, h v H ι (.refl hS) r⟩
  · exact h.elim
theorem de_int {i : Int} {j : Nat} : DE X E (.Constant (.int i) j pos) (cE (.int i)) := ⟨_, pe_int, fun σ H σd S ι Q hE hS h => h _ _ _ (.refl hS) (.py (.int i))⟩
theorem de_bl {i : Bool} {j : Nat} : DE X E (.Constant (.bool i) j pos) (cE (.bool i)) := ⟨_, pe_bl, fun σ H σd S ι Q hE hS h => h _ _ _ (.refl hS) (.py (.bl i))⟩
theorem de_non {j : Nat} : DE X E (.Constant .none j pos) (cE .none) := ⟨_, pe_non, fun σ H σd S ι Q hE hS h => h _ _ _ (.refl hS) (.py .non)⟩
theorem de_str {x : Str} {j : Nat} : DE X E (.Constant (.str x) j pos) (cE (.str x)) := ⟨_, pe_str, fun σ H σd S ι Q hE hS h => h _ _ _ (.refl hS) (.py (.str x))⟩

/-! ### argument lists, displays -/
theorem da_nil : DA X E [] nilA := ⟨fun _ _ ds _ e => by cases e; rfl, _, pa_nil, fun σ H σd S ι Q hE hS h => h _ _ _ (.refl hS) .nil⟩
theorem da_cons (ha : DE X E e f) (hr : DA X E es fs) (hs : starEach (e :: es) X.env = (false, eval e X.env) :: starEach es X.env := by rfl) : DA X E (e :: es) (consA f fs) := by
  obtain ⟨t, p, q⟩ := ha
  obtain ⟨l, u, pu, qu⟩ := hr
  refine ⟨fun σ S ds S' h => ?_, _, pa_cons p pu hs, fun σ H σd S ι Q hE hS h => ?_⟩
  · unfold consA at h
    cases h1 : f σ S with
    | ok d S1 =>
      rw [h1, bind_ok] at h
      cases h2 : fs σ S1 with
      | ok dr S2 =>
        rw [h2, bind_ok] at h
        cases h
        rw [List.length_cons, List.length_cons, l _ _ _ _ h2]
      | ex c S2 => rw [h2] at h; cases h
      | no => rw [h2] at h; cases h
    | ex c S2 => rw [h1] at h; cases h
    | no => rw [h1] at h; cases h
  · refine q σ H σd S ι _ hE hS (Wp.bind h fun d S1 _ v H1 ι1 p1 r1 h1 => ?_)
    refine qu σ H1 σd S1 ι1 _ (hE.mono p1.pre p1.keep) p1.sto (Wp.bind h1 fun ds S2 _ vs H2 ι2 p2 r2 h2 => ?_)
    exact h2 _ _ _ (.refl p2.sto) (.cons (r1.mono p2.pre p2.keep) r2)
theorem small_line {n : Nat} (h : n ≤ 1000) : n ≤ sizeLine := Nat.le_trans h (by decide)
/-- a tuple that was made just now: its object is known -/
theorem tupF_ok {P : Program} {w : World} {H : Hp} {h : Heap} {a : Addr} {xs : List V} {us : List Value} {o : Obj} (hz : xs.length ≤ sizeLine) (r : Vals xs us) (e : h.get? a = some o) (hc : o.cls = .type "tuple") {n : Nat} (hd : o.data = .seq us.toArray n) : ObjOk P w H h a (.frz o (.tup xs)) :=
  ⟨e, hz, us, r, ⟨o, e, hc, n, hd⟩⟩
def tTupF (t : TA) : TE := fun σ H Q => t σ H fun xs H1 => xs.length ≤ sizeLine ∧ ∀ p (o : Obj), o.dict = none → H1 p = none → Q (.ref p) (upd H1 p (.frz o (.tup xs)))
theorem pe_tupF {x1 : Nat} {t : TA} (h : PA X es t) : PE X (.Tuple es x1 pos) (tTupF t) := by
  refine ⟨fun pins s σ H Q I hq => ?_⟩
  refine wpAny_Tuple_spliced (thn (h.run pos pins s σ H _ I hq) fun us s1 ⟨xs, H1, I1, r, z, q⟩ => ⟨by rw [← r.length]; exact z, ?_⟩)
  have hf : H1 s1.heap.objs.size = none := I1.hok.fresh (Nat.le_refl _)
  refine ⟨.ref s1.heap.objs.size, _, I1.laid (t' := s1.toks) (fun b u e => Heap.get?_push_of_some _ e) (Nat.le_refl _) ?_, rfl, q _ { cls := .type "tuple", data := .seq us.toArray } rfl hf⟩
  exact tupF_ok z r (Heap.get?_push_size _ rfl) rfl rfl
theorem de_tup {x1 : Nat} (ha : DA X E es fs) (hl : es.length ≤ 1000 := by decide) : DE X E (.Tuple es x1 pos) (tupE fs) := by
  obtain ⟨l, t, p, q⟩ := ha
  refine ⟨_, pe_tupF p, fun σ H σd S ι Q hE hS h => ?_⟩
  refine q σ H σd S ι _ hE hS (Wp.bind h fun ds S1 e1 vs H1 ι1 p1 r1 h1 => ?_)
  have hlen : ds.length ≤ sizeLine := by rw [l _ _ _ _ e1]; exact small_line hl
  cases hp : pysOf ds with
  | none => rw [hp] at h1; exact h1.elim
  | some ps =>
    rw [hp] at h1
    refine ⟨by rw [r1.length]; exact hlen, fun a o ho na => ?_⟩
    refine h1 _ _ _ (.new p1.sto na) (.py (.tup (.new ho) (by rw [pysOf_length hp]; exact hlen) ?_))
    exact (RdAll.pys r1 hp).keep (.new na)
theorem dl_lst (ha : DA X E es fs) (hl : es.length ≤ 1000 := by decide) : DL X E (.List es pos) fs := by
  obtain ⟨l, t, p, q⟩ := ha
  refine ⟨_, pe_lst p, fun σ H σd S ι Q hE hS h => ?_⟩
  refine q σ H σd S ι _ hE hS ?_
  cases hf : fs σd S with
  | no => rw [hf] at h; exact h.elim
  | ex c S1 => rw [hf] at h; exact h
  | ok ds S1 =>
    rw [hf] at h
    intro vs H1 ι1 p1 r1
    have hz : vs.length ≤ sizeLine := by rw [r1.length, l _ _ _ _ hf]; exact small_line hl
    refine ⟨hz, fun a na => ?_⟩
    refine h _ _ _ (p1.trans (.new p1.sto na)) ⟨a, vs, ?_, rfl, upd_same, p1.sto.notin na, hz, r1.mono (List.prefix_refl _) (.new na)⟩
    cases q0 : H a with
    | none => rfl
    | some u => exact absurd na (p1.dom a (by rw [q0]; simp))

/-! ### a list that is not changed from here on -/
def tFz (t : TE) : TE := fun σ H Q => t σ H fun v H1 => ∃ a xs, v = .ref a ∧ H1 a = some (.lst xs) ∧ ∀ o, Q v (upd H1 a (.frz o (.lst xs)))
theorem pe_frz {t : TE} (p : PE X e t) : PE X e (tFz t) := by
  refine ⟨fun pins s σ H Q I h => thn (p.run pins s σ H _ I h) fun u s1 ⟨v, H1, I1, r, a, xs, ev, ha, q⟩ => ?_⟩
  obtain ⟨o, I2⟩ := I1.lock ha trivial
  exact ⟨v, _, I2, r, q o⟩
/-- a new list, then fixed -/
theorem frz_post {ι ι1 : List Addr} {H H1 : Hp} {S1 : Sto} {v : V} {ds : List D} {ps : List PyData} (p1 : Post X.K ι H ι1 H1 S1) (r : relL X.K H ι1 H1 v ds) (hp : pysOf ds = some ps) :
    ∃ a xs, v = .ref a ∧ H1 a = some (.lst xs) ∧ ∀ o, Post X.K ι H ι1 (upd H1 a (.frz o (.lst xs))) S1 ∧ Pp X.K (upd H1 a (.frz o (.lst xs))) (.ref a) (.list ps) := by
  obtain ⟨a, vs, h0, rfl, ha, hn, hz, r⟩ := r
  refine ⟨a, vs, rfl, ha, fun o => ⟨p1.fixNew ha hn h0, .lst (.inl ⟨o, upd_same⟩) ?_ ?_⟩⟩
  · rw [pysOf_length hp, ← r.length]
    exact hz
  · exact (RdAll.pys r hp).keep (.list ha)
theorem de_frz {fl : Ax} (hl : DL X E e fl) : DE X E e (frzE fl) := by
  obtain ⟨t, p, q⟩ := hl
  refine ⟨_, pe_frz p, fun σ H σd S ι Q hE hS h => ?_⟩
  refine q σ H σd S ι _ hE hS (Wp.bind0 h fun ds S1 e1 v H1 ι1 p1 r1 h1 => ?_)
  cases hp : pysOf ds with
  | none => rw [hp] at h1; exact h1.elim
  | some ps =>
    rw [hp] at h1
    obtain ⟨a, xs, rfl, ha, z⟩ := frz_post p1 r1 hp
    exact ⟨a, xs, rfl, ha, fun o => h1 _ _ _ (z o).1 (.py (z o).2)⟩
theorem thw_post {ι ι1 : List Addr} {H H1 : Hp} {S1 : Sto} {v : V} {ds : List D} (p1 : Post X.K ι H ι1 H1 S1) (r : relL X.K H ι1 H1 v ds) : ∃ ι2, Post X.K ι H ι2 H1 (S1 ++ [.lst ds]) ∧ Rd X.K ι2 H1 v (.obj S1.length) := by
  obtain ⟨a, vs, h0, rfl, ha, hn, hz, r⟩ := r
  refine ⟨ι1 ++ [a], ⟨p1.pre.trans (List.prefix_append _ _), p1.keep, p1.sto.push ha hn r, fun b ws m q => ?_, p1.dom⟩, .obj ?_⟩
  · obtain ⟨e1, n1⟩ := p1.frame b ws m q
    refine ⟨e1, fun hm => ?_⟩
    rcases List.mem_append.mp hm with hm | hm
    · exact n1 hm
    · rw [List.mem_singleton] at hm
      exact ne_of_none q h0 hm
  · rw [← p1.sto.len]
    simp
theorem de_thw {fl : Ax} (hl : DL X E e fl) : DE X E e (thwE fl) := by
  obtain ⟨t, p, q⟩ := hl
  refine ⟨_, p, fun σ H σd S ι Q hE hS h => ?_⟩
  refine q σ H σd S ι _ hE hS (Wp.bind0 h fun ds S1 e1 v H1 ι1 p1 r1 h1 => ?_)
  obtain ⟨ι2, p2, r2⟩ := thw_post p1 r1
  exact h1 _ _ _ p2 r2
/-! ### operators by values -/
/-- an operator of the model does what g says -/
def DOp (X : Cx) (o : Value → Value → Sem Value) (g : D → D → Sto → R D) : Prop := ∃ r, OpR X o r ∧ ∀ x y d e H S ι E Q, StR X.K ι H S → Rd X.K ι H x d → Rd X.K ι H y e → Wp X.K X.mg E ι H (relD X.K) (g d e S) Q → r x y H Q
def DUn (X : Cx) (o : Value → Sem Value) (g : D → Sto → R D) : Prop := ∃ r, UnR X o r ∧ ∀ x d H S ι E Q, StR X.K ι H S → Rd X.K ι H x d → Wp X.K X.mg E ι H (relD X.K) (g d S) Q → r x H Q
/-- a built-in upon its arguments -/
def DC (X : Cx) (o : Value) (g : List D → Sto → R D) : Prop := ∃ r, CallR X o r ∧ ∀ xs ds H S ι E Q, StR X.K ι H S → RdAll X.K ι H xs ds → Wp X.K X.mg E ι H (relD X.K) (g ds S) Q → r xs H Q
/-- a built-in type's method -/
def DM (X : Cx) (T : String) (id : String) (g : D → List D → Sto → R D) : Prop := ∃ r, MtR X id r ∧ ∀ x xs d ds H S ι E Q, StR X.K ι H S → Rd X.K ι H x d → RdAll X.K ι H xs ds → Wp X.K X.mg E ι H (relD X.K) (g d ds S) Q → r x xs H Q
theorem op_read {o : Value → Value → Sem Value} {gg : D → D → Sto → R D} {r : R2} {ta tb : TE} (q : ∀ σ H σd S ι Q, EnR X.K ι H σ σd → StR X.K ι H S → Wp X.K X.mg E ι H (relD X.K) (f σd S) Q → ta σ H Q)
    (qu : ∀ σ H σd S ι Q, EnR X.K ι H σ σd → StR X.K ι H S → Wp X.K X.mg E ι H (relD X.K) (g σd S) Q → tb σ H Q)
    (qr : ∀ x y d e H S ι E Q, StR X.K ι H S → Rd X.K ι H x d → Rd X.K ι H y e → Wp X.K X.mg E ι H (relD X.K) (gg d e S) Q → r x y H Q)
    {σ : L2.St} {H : Hp} {σd : En} {S : Sto} {ι : List Addr} {Q : VK} (hE : EnR X.K ι H σ σd) (hS : StR X.K ι H S) (h : Wp X.K X.mg E ι H (relD X.K) (opE gg f g σd S) Q) : tOp r ta tb σ H Q := by
  refine q σ H σd S ι _ hE hS (Wp.bind h fun d S1 _ v H1 ι1 p1 r1 h1 => ?_)
  refine qu σ H1 σd S1 ι1 _ (hE.mono p1.pre p1.keep) p1.sto (Wp.bind h1 fun d2 S2 _ v2 H2 ι2 p2 r2 h2 => ?_)
  exact qr _ _ _ _ _ _ _ E _ p2.sto (r1.mono p2.pre p2.keep) r2 h2
/-- a truth, as a test of its own -/
theorem bool_of {K : PySem.W.Frag} {ι : List Addr} {H : Hp} {v : V} {c : Bool} (r : Rd K ι H v (.py (.bool c))) : v = .bl c := by
  cases r with
  | py r => cases r; rfl
theorem Wp.val {K : PySem.W.Frag} {mg : Str → Option Value} {ι : List Addr} {H : Hp} {r : R D} {Q : Bool → Hp → Prop} (h : Wp K mg E ι H relB (r.bind fun x S1 => match x with
    | .py (.bool k) => .ok k S1
    | _ => .no) Q) : Wp K mg E ι H (relD K) r (fun v H' => ∃ k, v = .bl k ∧ Q k H') := by
  refine Wp.bind h fun d3 S3 _ v3 H3 ι3 p3 r3 h3 => ?_
  split at h3
  · exact ⟨_, bool_of r3, h3 _ _ _ (.refl p3.sto) rfl⟩
  · exact h3.elim
theorem de_bin {op : Operator} {gg : D → D → Sto → R D} (ho : DOp X (binaryOp op) gg) (ha : DE X E a f) (hb : DE X E b g) : DE X E (.BinOp a op b pos) (opE gg f g) := by
  obtain ⟨t, p, q⟩ := ha
  obtain ⟨u, pu, qu⟩ := hb
  obtain ⟨r, hr, qr⟩ := ho
  exact ⟨_, pe_op hr p pu, fun σ H σd S ι Q hE hS h => op_read (o := binaryOp op) q qu qr hE hS h⟩
theorem de_cmp {op : CmpOp} {gg : D → D → Sto → R D} (ho : DOp X (compareOp op) gg) (ha : DE X E a f) (hb : DE X E b g) (hm : behindInMarks op b = false := by rfl) : DE X E (.Compare a [op] [b] pos) (opE gg f g) := by
  obtain ⟨t, p, q⟩ := ha
  obtain ⟨u, pu, qu⟩ := hb
  obtain ⟨r, hr, qr⟩ := ho
  exact ⟨_, pe_cmpR hr p pu hm, fun σ H σd S ι Q hE hS h => op_read (o := compareOp op) q qu qr hE hS h⟩
theorem dt_cmp {op : CmpOp} {gg : D → D → Sto → R D} (ho : DOp X (compareOp op) gg) (ha : DE X E a f) (hb : DE X E b g) (hm : behindInMarks op b = false := by rfl) : DT X E (.Compare a [op] [b] pos) (valT (opE gg f g)) := by
  obtain ⟨t, p, q⟩ := ha
  obtain ⟨u, pu, qu⟩ := hb
  obtain ⟨r, hr, qr⟩ := ho
  exact ⟨_, pt_cmpR hr p pu hm, fun σ H σd S ι Q hE hS h => op_read (o := compareOp op) q qu qr hE hS (Wp.val h)⟩
theorem de_un {op : UnaryOp} {gg : D → Sto → R D} (ho : DUn X (unaryOp op) gg) (ha : DE X E a f) : DE X E (.UnaryOp op a pos) (op1 gg f) := by
  obtain ⟨t, p, q⟩ := ha
  obtain ⟨r, hr, qr⟩ := ho
  refine ⟨_, pe_un hr p, fun σ H σd S ι Q hE hS h => ?_⟩
  refine q σ H σd S ι _ hE hS (Wp.bind h fun d S1 _ v H1 ι1 p1 r1 h1 => ?_)
  exact qr _ _ _ _ _ E _ p1.sto r1 h1
theorem dt_val (ha : DE X E a f) (he : ∀ whole, isTrue a X.env whole = (do let v ← whole; standAt a.pos; holding [v] (truthy v)) := by intro _; rfl) : DT X E a (valT f) := by
  obtain ⟨t, p, q⟩ := ha
  exact ⟨_, pt_val p he, fun σ H σd S ι Q hE hS h => q σ H σd S ι _ hE hS (Wp.val h)⟩

/-! ### and, or, not -/
variable {ft gt : Tx} {rest : List Expr}
theorem dw_and1 (ha : DT X E a ft) : DW X E (.BoolOp .And [a] pos) ft := by
  obtain ⟨t, p, q⟩ := ha
  exact ⟨_, pw_and1 p, q⟩
theorem dw_or1 (ha : DT X E a ft) : DW X E (.BoolOp .Or [a] pos) ft := by
  obtain ⟨t, p, q⟩ := ha
  exact ⟨_, pw_or1 p, q⟩
theorem dw_and (ha : DT X E a ft) (hb : DW X E (.BoolOp .And (b :: rest) pos) gt) : DW X E (.BoolOp .And (a :: b :: rest) pos) (andT ft gt) := by
  obtain ⟨t, p, q⟩ := ha
  obtain ⟨u, pu, qu⟩ := hb
  refine ⟨_, pw_and p pu, fun σ H σd S ι Q hE hS h => ?_⟩
  refine q σ H σd S ι _ hE hS (Wp.bind h fun d S1 _ v H1 ι1 p1 r1 h1 => ?_)
  cases r1
  cases d with
  | true => exact qu σ H1 σd S1 ι1 _ (hE.mono p1.pre p1.keep) p1.sto h1
  | false => exact h1 _ _ _ (.refl p1.sto) rfl
theorem dw_or (ha : DT X E a ft) (hb : DW X E (.BoolOp .Or (b :: rest) pos) gt) : DW X E (.BoolOp .Or (a :: b :: rest) pos) (orT ft gt) := by
  obtain ⟨t, p, q⟩ := ha
  obtain ⟨u, pu, qu⟩ := hb
  refine ⟨_, pw_or p pu, fun σ H σd S ι Q hE hS h => ?_⟩
  refine q σ H σd S ι _ hE hS (Wp.bind h fun d S1 _ v H1 ι1 p1 r1 h1 => ?_)
  cases r1
  cases d with
  | false => exact qu σ H1 σd S1 ι1 _ (hE.mono p1.pre p1.keep) p1.sto h1
  | true => exact h1 _ _ _ (.refl p1.sto) rfl
theorem dt_w (h : DW X E e ft) : DT X E e ft := by
  obtain ⟨t, p, q⟩ := h
  exact ⟨_, p.pt, q⟩
theorem dt_not (ha : DT X E a ft) : DT X E (.UnaryOp .Not a pos) (notT ft) := by
  obtain ⟨t, p, q⟩ := ha
  refine ⟨_, pt_not p, fun σ H σd S ι Q hE hS h => ?_⟩
  refine q σ H σd S ι _ hE hS (Wp.bind h fun d S1 _ v H1 ι1 p1 r1 h1 => ?_)
  cases r1
  exact h1 _ _ _ (.refl p1.sto) rfl
theorem de_one {op} (ha : DE X E a f) : DE X E (.BoolOp op [a] pos) f := by
  obtain ⟨t, p, q⟩ := ha
  exact ⟨_, pe_one p, q⟩
theorem de_and (ha : DE X E a f) (hb : DE X E (.BoolOp .And (b :: rest) pos) g) : DE X E (.BoolOp .And (a :: b :: rest) pos) (andE f g) := by
  obtain ⟨t, p, q⟩ := ha
  obtain ⟨u, pu, qu⟩ := hb
  refine ⟨_, pe_and p pu, fun σ H σd S ι Q hE hS h => ?_⟩
  refine q σ H σd S ι _ hE hS (Wp.bind h fun d S1 _ v H1 ι1 p1 r1 h1 => ?_)
  split at h1
  · exact ⟨_, bool_of r1, qu σ H1 σd S1 ι1 _ (hE.mono p1.pre p1.keep) p1.sto h1⟩
  · exact ⟨_, bool_of r1, h1 _ _ _ (.refl p1.sto) (.py (.bl false))⟩
  · exact h1.elim
theorem de_not (ha : DE X E a f) : DE X E (.UnaryOp .Not a pos) (notE f) := by
  obtain ⟨t, p, q⟩ := ha
  refine ⟨_, pe_not p, fun σ H σd S ι Q hE hS h => ?_⟩
  refine q σ H σd S ι _ hE hS (Wp.bind h fun d S1 _ v H1 ι1 p1 r1 h1 => ?_)
  split at h1
  · exact ⟨_, bool_of r1, h1 _ _ _ (.refl p1.sto) (.py (.bl _))⟩
  · exact h1.elim
theorem de_ife (hc : DT X E c ft) (ha : DE X E a f) (hb : DE X E b g) : DE X E (.IfExp c a b pos) (ifE ft f g) := by
  obtain ⟨t, p, q⟩ := hc
  obtain ⟨ta, pa, qa⟩ := ha
  obtain ⟨tb, pb, qb⟩ := hb
  refine ⟨_, pe_ifExp p pa pb, fun σ H σd S ι Q hE hS h => ?_⟩
  refine q σ H σd S ι _ hE hS (Wp.bind h fun d S1 _ v H1 ι1 p1 r1 h1 => ?_)
  cases r1
  cases d with
  | true => exact qa σ H1 σd S1 ι1 _ (hE.mono p1.pre p1.keep) p1.sto h1
  | false => exact qb σ H1 σd S1 ι1 _ (hE.mono p1.pre p1.keep) p1.sto h1
theorem chain_read {gg gg' : D → D → Sto → R D} {r r' : R2} {ta tb tc : TE} (q : ∀ σ H σd S ι Q, EnR X.K ι H σ σd → StR X.K ι H S → Wp X.K X.mg E ι H (relD X.K) (f σd S) Q → ta σ H Q)
    (qu : ∀ σ H σd S ι Q, EnR X.K ι H σ σd → StR X.K ι H S → Wp X.K X.mg E ι H (relD X.K) (g σd S) Q → tb σ H Q) (qw : ∀ σ H σd S ι Q, EnR X.K ι H σ σd → StR X.K ι H S → Wp X.K X.mg E ι H (relD X.K) (h σd S) Q → tc σ H Q)
    (qr : ∀ x y d e H S ι E Q, StR X.K ι H S → Rd X.K ι H x d → Rd X.K ι H y e → Wp X.K X.mg E ι H (relD X.K) (gg d e S) Q → r x y H Q)
    (qr' : ∀ x y d e H S ι E Q, StR X.K ι H S → Rd X.K ι H x d → Rd X.K ι H y e → Wp X.K X.mg E ι H (relD X.K) (gg' d e S) Q → r' x y H Q)
    {σ : L2.St} {H : Hp} {σd : En} {S : Sto} {ι : List Addr} {Q : VK} (hE : EnR X.K ι H σ σd) (hS : StR X.K ι H S) (h : Wp X.K X.mg E ι H (relD X.K) (chainE gg gg' f g h σd S) Q) : tChain r r' ta tb tc σ H Q := by
  refine q σ H σd S ι _ hE hS (Wp.bind h fun d S1 _ v H1 ι1 p1 r1 h1 => ?_)
  refine qu σ H1 σd S1 ι1 _ (hE.mono p1.pre p1.keep) p1.sto (Wp.bind h1 fun d2 S2 _ v2 H2 ι2 p2 r2 h2 => ?_)
  refine qr _ _ _ _ _ _ _ E _ p2.sto (r1.mono p2.pre p2.keep) r2 (Wp.bind h2 fun d3 S3 _ v3 H3 ι3 p3 r3 h3 => ?_)
  split at h3
  · refine ⟨_, bool_of r3, ?_⟩
    rw [if_pos rfl]
    refine qw σ H3 σd S3 ι3 _ (((hE.mono p1.pre p1.keep).mono p2.pre p2.keep).mono p3.pre p3.keep) p3.sto (Wp.bind h3 fun d4 S4 _ v4 H4 ι4 p4 r4 h4 => ?_)
    exact qr' _ _ _ _ _ _ _ E _ p4.sto ((r2.mono p3.pre p3.keep).mono p4.pre p4.keep) r4 h4
  · refine ⟨_, bool_of r3, ?_⟩
    rw [if_neg Bool.false_ne_true]
    exact h3 _ _ _ (.refl p3.sto) (.py (.bl false))
  · exact h3.elim
theorem de_chain {op op' : CmpOp} {gg gg' : D → D → Sto → R D} (ho : DOp X (compareOp op) gg) (ho' : DOp X (compareOp op') gg') (ha : DE X E a f) (hb : DE X E b g) (hc : DE X E c h) (hm : lastMarks [op, op'] [b, c] = false := by with_unfolding_all rfl) : DE X E (.Compare a [op, op'] [b, c] pos) (chainE gg gg' f g h) := by
  obtain ⟨t, p, q⟩ := ha
  obtain ⟨u, pu, qu⟩ := hb
  obtain ⟨w, pw, qw⟩ := hc
  obtain ⟨r, hr, qr⟩ := ho
  obtain ⟨r', hr', qr'⟩ := ho'
  exact ⟨_, pe_chain hr hr' p pu pw hm, fun σ H σd S ι Q hE hS h => chain_read q qu qw qr qr' hE hS h⟩
theorem dt_chain {op op' : CmpOp} {gg gg' : D → D → Sto → R D} (ho : DOp X (compareOp op) gg) (ho' : DOp X (compareOp op') gg') (ha : DE X E a f) (hb : DE X E b g) (hc : DE X E c h) (hm : lastMarks [op, op'] [b, c] = false := by with_unfolding_all rfl) : DT X E (.Compare a [op, op'] [b, c] pos) (valT (chainE gg gg' f g h)) := by
  obtain ⟨t, p, q⟩ := ha
  obtain ⟨u, pu, qu⟩ := hb
  obtain ⟨w, pw, qw⟩ := hc
  obtain ⟨r, hr, qr⟩ := ho
  obtain ⟨r', hr', qr'⟩ := ho'
  exact ⟨_, pt_chain hr hr' p pu pw hm, fun σ H σd S ι Q hE hS h => chain_read q qu qw qr qr' hE hS (Wp.val h)⟩

/-! ### calls of built-ins, methods, items -/
variable {p : Pos} {x : Str}
theorem de_callB {id : String} {gg : List D → Sto → R D} (hc : DC X (.builtin id) gg) (hm : X.mg x = none) (hv : bootBuiltins x = some (.builtin id)) (ha : DA X E (e :: es) fs) (hg : Gl X x := by rfl) (hn : x ≠ "__name__" := by decide) (hdb : (x == ("__debug__" : Str)) = false := by decide)
    (he : starEach (e :: es) X.env = (false, eval e X.env) :: starEach es X.env := by rfl) (hpl : (backTo pos (starEach es X.env)).any (·.1) = false := by rfl) : DE X E (.Call (.Name x p) (e :: es) [] pos) (callE gg fs) := by
  obtain ⟨l, t, pt, q⟩ := ha
  obtain ⟨r, hr, qr⟩ := hc
  refine ⟨_, pe_callB hr hg hm hv pt hn hdb he hpl, fun σ H σd S ι Q hE hS h => ?_⟩
  refine q σ H σd S ι _ hE hS (Wp.bind h fun ds S1 _ vs H1 ι1 p1 r1 h1 => ?_)
  exact qr _ _ _ _ _ E _ p1.sto r1 h1
theorem de_callTy {T : String} {gg : List D → Sto → R D} (hc : DC X (.type T) gg) (hm : X.mg x = none) (hv : bootBuiltins x = some (.type T)) (ha : DA X E (e :: es) fs) (hg : Gl X x := by rfl) (hn : x ≠ "__name__" := by decide) (hdb : (x == ("__debug__" : Str)) = false := by decide)
    (he : starEach (e :: es) X.env = (false, eval e X.env) :: starEach es X.env := by rfl) (hpl : (backTo pos (starEach es X.env)).any (·.1) = false := by rfl) : DE X E (.Call (.Name x p) (e :: es) [] pos) (callE gg fs) := by
  obtain ⟨l, t, pt, q⟩ := ha
  obtain ⟨r, hr, qr⟩ := hc
  refine ⟨_, pe_callTy hr hg hm hv pt hn hdb he hpl, fun σ H σd S ι Q hE hS h => ?_⟩
  refine q σ H σd S ι _ hE hS (Wp.bind h fun ds S1 _ vs H1 ι1 p1 r1 h1 => ?_)
  exact qr _ _ _ _ _ E _ p1.sto r1 h1

/-! ### methods, items -/
variable {o : Expr} {apos cpos : Pos} {name : Str} {id : String}
theorem de_methL {gg : D → List D → Sto → R D} (slot : Slot "list" name id) (hty : typeOf (.builtin id) = pure (.type "method_descriptor")) (hm : DM X "list" id gg) (ho : DE X E o f) (ha : DA X E (e :: es) fs)
    (hbase : attributeBase o name X.env (eval o X.env) = eval o X.env := by rfl)
    (hfew : ((backTo cpos (starEach (e :: es) X.env)).all (fun x => !x.1) && (backToKw cpos (keywordEach [] X.env)).all (fun x => x.1.isSome)
      && decide ((e :: es).length + ([] : List Keyword).length + (if ([] : List Keyword).isEmpty then 0 else 1) < 30)) = true := by rfl)
    (hline : (apos.endLine == cpos.line) = true := by rfl) (hs : starEach (e :: es) X.env = (false, eval e X.env) :: starEach es X.env := by rfl) (hplain : (backTo cpos (starEach es X.env)).any (·.1) = false := by rfl) :
    DE X E (.Call (.Attribute o name apos) (e :: es) [] cpos) (methL gg f fs) := by
  obtain ⟨t, p, q⟩ := ho
  obtain ⟨l, u, pu, qu⟩ := ha
  obtain ⟨r, hr, qr⟩ := hm
  refine ⟨_, pe_bm PySem.F.plainAttrs_list slot hty hr p pu hbase hfew hline hs hplain, fun σ H σd S ι Q hE hS h => ?_⟩
  refine q σ H σd S ι _ hE hS (Wp.bind h fun d S1 _ v H1 ι1 p1 r1 h1 => ?_)
  split at h1
  · rename_i hl
    refine ⟨tyL p1.sto r1 hl, ?_⟩
    refine qu σ H1 σd S1 ι1 _ (hE.mono p1.pre p1.keep) p1.sto (Wp.bind h1 fun d2 S2 _ v2 H2 ι2 p2 r2 h2 => ?_)
    exact qr _ _ _ _ _ _ _ E _ p2.sto (r1.mono p2.pre p2.keep) r2 h2
  · exact h1.elim
theorem de_methS {gg : D → List D → Sto → R D} (slot : Slot "str" name id) (hty : typeOf (.builtin id) = pure (.type "method_descriptor")) (hm : DM X "str" id gg) (ho : DE X E o f) (ha : DA X E (e :: es) fs)
    (hbase : attributeBase o name X.env (eval o X.env) = eval o X.env := by rfl)
    (hfew : ((backTo cpos (starEach (e :: es) X.env)).all (fun x => !x.1) && (backToKw cpos (keywordEach [] X.env)).all (fun x => x.1.isSome)
      && decide ((e :: es).length + ([] : List Keyword).length + (if ([] : List Keyword).isEmpty then 0 else 1) < 30)) = true := by rfl)
    (hline : (apos.endLine == cpos.line) = true := by rfl) (hs : starEach (e :: es) X.env = (false, eval e X.env) :: starEach es X.env := by rfl) (hplain : (backTo cpos (starEach es X.env)).any (·.1) = false := by rfl) :
    DE X E (.Call (.Attribute o name apos) (e :: es) [] cpos) (methS gg f fs) := by
  obtain ⟨t, p, q⟩ := ho
  obtain ⟨l, u, pu, qu⟩ := ha
  obtain ⟨r, hr, qr⟩ := hm
  refine ⟨_, pe_bm PySem.F.plainAttrs_str slot hty hr p pu hbase hfew hline hs hplain, fun σ H σd S ι Q hE hS h => ?_⟩
  refine q σ H σd S ι _ hE hS (Wp.bind h fun d S1 _ v H1 ι1 p1 r1 h1 => ?_)
  split at h1
  · rename_i z
    refine ⟨by cases r1 with | py r1 => cases r1; rfl, ?_⟩
    refine qu σ H1 σd S1 ι1 _ (hE.mono p1.pre p1.keep) p1.sto (Wp.bind h1 fun d2 S2 _ v2 H2 ι2 p2 r2 h2 => ?_)
    exact qr _ _ _ _ _ _ _ E _ p2.sto (r1.mono p2.pre p2.keep) r2 h2
  · exact h1.elim
theorem de_methS0 {gg : D → List D → Sto → R D} (slot : Slot "str" name id) (hty : typeOf (.builtin id) = pure (.type "method_descriptor")) (hm : DM X "str" id gg) (ho : DE X E o f)
    (hbase : attributeBase o name X.env (eval o X.env) = eval o X.env := by rfl) (hline : (apos.endLine == cpos.line) = true := by rfl) :
    DE X E (.Call (.Attribute o name apos) [] [] cpos) (methS gg f nilA) := by
  obtain ⟨t, p, q⟩ := ho
  obtain ⟨r, hr, qr⟩ := hm
  refine ⟨_, pe_bm0 PySem.F.plainAttrs_str slot hty hr p hbase hline, fun σ H σd S ι Q hE hS h => ?_⟩
  refine q σ H σd S ι _ hE hS (Wp.bind h fun d S1 _ v H1 ι1 p1 r1 h1 => ?_)
  split at h1
  · exact ⟨by cases r1 with | py r1 => cases r1; rfl, qr _ _ _ _ _ _ _ E _ p1.sto r1 .nil h1⟩
  · exact h1.elim
/-- an item by its index -/
theorem de_item (ha : DE X E a f) (hb : DE X E b g) (hs : PlainIx b := by intro _ _; rfl) : DE X E (.Subscript a b pos) (opE itemD f g) := by
  obtain ⟨t, p, q⟩ := ha
  obtain ⟨u, pu, qu⟩ := hb
  refine ⟨_, pe_ix ix_seq p pu hs, fun σ H σd S ι Q hE hS h => op_read (o := binaryOp .Add) q qu (fun x y d e H S ι E Q hS rx ry h => ?_) hE hS h⟩
  exact item_read hS rx ry h
end
end DV

set_option maxHeartbeats 4000000
/-! Targets, statements, loops, comprehensions. -/
namespace DV
open PySem PySem.Spec PyProof.Rows L2
section
variable {X : Cx} {E : XK} {k : Nat} {e a b c : Expr} {f g h : Ex} {es : List Expr} {fs : Ax} {pos : Pos}

/-! ### targets -/
theorem EnR.set {K : PySem.W.Frag} {ι : List Addr} {H : Hp} {σ : L2.St} {σd : En} {v : V} {d : D} (h : EnR K ι H σ σd) (i : Nat) (r : Rd K ι H v d) : EnR K ι H (σ.set i (some v)) (σd.set i (some d)) := by
  refine ⟨by rw [List.length_set, List.length_set, h.len], fun j d' e => ?_⟩
  by_cases hj : j = i
  · subst hj
    have hlt : j < σd.length := by
      have := (List.getElem?_eq_some_iff.mp e).1
      simpa using this
    rw [List.getElem?_set_self hlt] at e
    cases e
    exact ⟨v, List.getElem?_set_self (by rw [h.len]; exact hlt), r⟩
  · rw [List.getElem?_set_ne (Ne.symm hj)] at e
    obtain ⟨v', e1, r'⟩ := h.at_ j d' e
    exact ⟨v', by rw [List.getElem?_set_ne (Ne.symm hj)]; exact e1, r'⟩
theorem wipe_get {i : Nat} {σ : L2.St} : ∀ {vs : List Nat}, i ∈ vs → i < σ.length → (wipe σ vs)[i]? = some none
  | v :: vs, hm, hl => by
    unfold wipe
    by_cases hi : v = i
    · subst hi
      rw [List.getElem?_set_self (by rw [wipe_length]; exact hl)]
    · rw [List.getElem?_set_ne hi]
      exact wipe_get ((List.mem_cons.mp hm).resolve_left (Ne.symm hi)) hl
theorem wipe_set_in {i : Nat} {x : Option V} {σ : L2.St} {vs : List Nat} (hm : i ∈ vs) : wipe (σ.set i x) vs = wipe σ vs := by
  apply List.ext_getElem?
  intro j
  by_cases hj : j ∈ vs
  · by_cases hl : j < σ.length
    · rw [wipe_get hj (by rw [List.length_set]; exact hl), wipe_get hj hl]
    · rw [List.getElem?_eq_none (by rw [wipe_length, List.length_set]; omega), List.getElem?_eq_none (by rw [wipe_length]; omega)]
  · rw [wipe_out hj, wipe_out hj, List.getElem?_set_ne (fun z => hj (by subst z; exact hm))]
theorem dg_name {vs : List Nat} (i : Nat) {x : Str} (hN : X.N.Nodup) (hi : X.N[i]? = some x := by rfl) (hx : Loc X.env.scope x := by first | exact Or.inl rfl | exact Or.inr rfl) (hf : X.fn x = true ∨ X.env.scope.names.lookup x = some .local := by first | exact .inl rfl | exact .inr rfl) (hm : i ∈ vs := by decide) : DG X E vs (.Name x pos) (nmG i) :=
  ⟨_, pg_name hN hi hx hf, fun v d σ H σd S ι Q hE hS r h => h _ _ _ (.refl hS) ⟨hE.set i r, wipe_set_in hm⟩⟩
theorem dgs_nil {vs : List Nat} : DGs X E vs [] nilG := ⟨_, pgs_nil, fun ws ds σ H σd S ι Q hE hS r h => by
  cases r with
  | nil => exact ⟨rfl, h _ _ _ (.refl hS) ⟨hE, rfl⟩⟩
  | cons _ _ => exact h.elim⟩
theorem dgs_cons {vs : List Nat} {tg : Expr} {tgs : List Expr} {gg : Tg} {gs : List D → En → Sto → R En} (h1 : DG X E vs tg gg) (h2 : DGs X E vs tgs gs) (hs : ∀ env, assignEach (tg :: tgs) env = (false, assign tg env) :: assignEach tgs env := by intro _; rfl) : DGs X E vs (tg :: tgs) (consG gg gs) := by
  obtain ⟨t, p, q⟩ := h1
  obtain ⟨u, pu, qu⟩ := h2
  refine ⟨_, pgs_cons p pu (by rw [hs]; rfl), fun ws ds σ H σd S ι Q hE hS r h => ?_⟩
  cases r with
  | nil => exact h.elim
  | cons r rs =>
    refine ⟨_, _, rfl, q _ _ σ H σd S ι _ hE hS r (Wp.bind h fun σ1 S1 _ v H1 ι1 p1 r1 h1 => ?_)⟩
    refine qu _ _ v H1 σ1 S1 ι1 _ r1.1 p1.sto (RdAll.mono p1.pre p1.keep rs) (Wp.sub h1 fun ι' H' v' σ2 z => ⟨z.1, z.2.trans r1.2⟩)
theorem dg_tup {vs : List Nat} {n kk : Nat} {tgs : List Expr} {gs : List D → En → Sto → R En} (hc : X.calm = true) (h : DGs X E vs tgs gs) (hn : (assignEach tgs X.env).length = n := by rfl) (hst : (assignEach tgs X.env).findIdx? (·.1) = none := by rfl) : DG X E vs (.Tuple tgs kk pos) (tupG n gs) := by
  obtain ⟨t, p, q⟩ := h
  refine ⟨_, pg_tup hc p hn hst, fun v d σ H σd S ι Q hE hS r h => ?_⟩
  unfold tupG at h
  split at h
  · split at h
    · rename_i ps hl
      cases r with
      | py r =>
        cases r with
        | tup hq hz hs => exact ⟨_, _, rfl, hq.sq, by rw [hs.length]; exact hl, q _ _ σ H σd S ι _ hE hS (.of_pys hs) h⟩
    · exact h.elim
  · exact h.elim
/-- o[i] = v of a list of the store -/
theorem dg_ix {vs : List Nat} {o i : Expr} (ho : DE X E o f) (hi : DE X E i g)
    (hz : ∀ v, assign (.Subscript o i pos) X.env v = (do let ov ← holding [v] (eval o X.env); let iv ← holding [v, ov] (eval i X.env); standAt pos; holding [v, ov, iv] (setItem ov iv v); release [v, ov, iv] []) := by intro _; rfl) : DG X E vs (.Subscript o i pos) (ixG f g) := by
  obtain ⟨t, p, q⟩ := ho
  obtain ⟨u, pu, qu⟩ := hi
  refine ⟨_, pg_sub p pu set_list hz, fun v d σ H σd S ι Q hE hS r h => ?_⟩
  refine q σ H σd S ι _ hE hS (Wp.bind h fun d1 S1 _ v1 H1 ι1 p1 r1 h1 => ?_)
  refine qu σ H1 σd S1 ι1 _ (hE.mono p1.pre p1.keep) p1.sto (Wp.bind h1 fun d2 S2 _ v2 H2 ι2 p2 r2 h2 => ?_)
  have r1' := r1.mono p2.pre p2.keep
  have r' := (r.mono p1.pre p1.keep).mono p2.pre p2.keep
  split at h2
  · split at h2
    · rename_i ds hds
      split at h2
      · rename_i j hj
        cases r1' with
        | obj e1 =>
          rename_i a
          cases p2.sto.at_ _ _ _ hds e1 with
          | lst ha rr =>
            rename_i ws
            refine ⟨a, ws, _, j, rfl, int_of r2, ha, by rw [rr.length]; exact hj, ?_⟩
            refine h2 _ _ _ (.wr e1 ha (p2.sto.set e1 ha (Paired.setB r' j rr))) ⟨?_, rfl⟩
            exact ((hE.mono p1.pre p1.keep).mono p2.pre p2.keep).mono (List.prefix_refl _) (.list ha)
      · exact h2.elim
    · exact h2.elim
  · exact h2.elim

/-! ### statements -/
theorem dss_nil : DSs X E [] passS := ⟨_, pss_nil, fun σ H σd S ι N hE hS h => h _ _ _ (.refl hS) hE⟩
theorem dss_cons {st : Stmt} {sts : List Stmt} {u w : Sx} (h1 : DS X E st u) (h2 : DSs X E sts w) : DSs X E (st :: sts) (seqS u w) := by
  obtain ⟨t, p, q⟩ := h1
  obtain ⟨t2, p2, q2⟩ := h2
  refine ⟨_, pss_cons p p2, fun σ H σd S ι N hE hS h => ?_⟩
  refine q σ H σd S ι _ hE hS ?_
  unfold seqS at h
  cases hu : u σd S with
  | nx σ1 S1 =>
    rw [hu] at h
    exact fun σ' H' ι' pp r => q2 σ' H' σ1 S1 ι' N r pp.sto (WpF.re pp h)
  | rt d S1 => rw [hu] at h; exact h
  | bk σ1 S1 => rw [hu] at h; exact h
  | ct σ1 S1 => rw [hu] at h; exact h
  | ex c S1 => rw [hu] at h; exact h
  | no => rw [hu] at h; exact h.elim
theorem dss_one {st : Stmt} {u : Sx} (h1 : DS X E st u) : DSs X E [st] u := by
  obtain ⟨t, p, q⟩ := h1
  exact ⟨_, pss_one p, q⟩
theorem ds_expr (ha : DE X E e f) (hs : swapsWith e none pos.line X.env = pure false := by rfl) : DS X E (.Expr e pos) (exprS f) := by
  obtain ⟨t, p, q⟩ := ha
  refine ⟨_, ps_expr p hs, fun σ H σd S ι N hE hS h => ?_⟩
  exact q σ H σd S ι _ hE hS (Wp.run h fun d S1 _ v H1 ι1 p1 r1 h1 => h1 _ _ _ (.refl p1.sto) (hE.mono p1.pre p1.keep))
theorem ds_ret (ha : DE X E e f) : DS X E (.Return (some e) pos) (retS f) := by
  obtain ⟨t, p, q⟩ := ha
  refine ⟨_, ps_ret p, fun σ H σd S ι N hE hS h => ?_⟩
  exact q σ H σd S ι _ hE hS (Wp.run h fun d S1 _ v H1 ι1 p1 r1 h1 => h1 _ _ _ (.refl p1.sto) r1)
theorem ds_if {ft : Tx} {u w : Sx} {as bs : List Stmt} (hc : DT X E c ft) (ha : DSs X E as u) (hb : DSs X E bs w) : DS X E (.If c as bs pos) (ifS ft u w) := by
  obtain ⟨t, p, q⟩ := hc
  obtain ⟨ta, pa, qa⟩ := ha
  obtain ⟨tb, pb, qb⟩ := hb
  refine ⟨_, ps_if p pa pb, fun σ H σd S ι N hE hS h => ?_⟩
  refine q σ H σd S ι _ hE hS (Wp.run h fun d S1 _ v H1 ι1 p1 r1 h1 => ?_)
  cases r1
  cases d with
  | true => exact qa σ H1 σd S1 ι1 _ (hE.mono p1.pre p1.keep) p1.sto h1
  | false => exact qb σ H1 σd S1 ι1 _ (hE.mono p1.pre p1.keep) p1.sto h1
/-- target = value, whatever the target -/
theorem ds_asg {vs : List Nat} {tg : Expr} {gg : Tg} (he : DE X E e f) (hg : DG X E vs tg gg) (hs : swapsWithSole [tg] e pos.line X.env = pure false := by rfl) (hw : swappedStores [tg] e X.env = pure none := by rfl)
    (h1 : (assignEach [tg] X.env).map (·.2) = [assign tg X.env] := by rfl) : DS X E (.Assign [tg] e pos) (asgS f gg) := by
  obtain ⟨t, p, q⟩ := he
  obtain ⟨u, pu, qu⟩ := hg
  refine ⟨_, ps_asg p pu hs hw h1, fun σ H σd S ι N hE hS h => ?_⟩
  refine q σ H σd S ι _ hE hS (Wp.run h fun d S1 _ v H1 ι1 p1 r1 h1 => ?_)
  exact qu v d σ H1 σd S1 ι1 _ (hE.mono p1.pre p1.keep) p1.sto r1 (Wp.run h1 fun σ2 S2 _ v2 H2 ι2 p2 r2 h2 => h2 _ _ _ (.refl p2.sto) r2.1)
/-- name = value -/
theorem ds_set (i : Nat) {x : Str} {pos' : Pos} (hN : X.N.Nodup) (he : DE X E e f) (hi : X.N[i]? = some x := by rfl) (hx : Loc X.env.scope x := by first | exact Or.inl rfl | exact Or.inr rfl) (hs : swapsWith e (some (.Name x pos')) pos.line X.env = pure false := by rfl)
    (hf : X.fn x = true ∨ X.env.scope.names.lookup x = some .local := by first | exact .inl rfl | exact .inr rfl) : DS X E (.Assign [.Name x pos'] e pos) (asgS f (nmG i)) := by
  obtain ⟨t, p, q⟩ := he
  refine ⟨_, ps_set hN hi hx p hs hf, fun σ H σd S ι N hE hS h => ?_⟩
  refine q σ H σd S ι _ hE hS (Wp.run h fun d S1 _ v H1 ι1 p1 r1 h1 => ?_)
  exact h1 _ _ _ (.refl p1.sto) ((hE.mono p1.pre p1.keep).set i r1)
theorem ds_par {i j : Nat} {x y : Str} {px py pt : Pos} {kt k2 pt2} (hc : X.calm = true) (hN : X.N.Nodup) (ha : DA X E [a, b] fs) (hi : X.N[i]? = some x := by rfl) (hj : X.N[j]? = some y := by rfl) (hij : i ≠ j := by decide)
    (hx : X.env.scope.names.lookup x = some .local := by rfl) (hy : X.env.scope.names.lookup y = some .local := by rfl)
    (hw : swappedStores [.Tuple [.Name x px, .Name y py] kt pt] (.Tuple [a, b] k2 pt2) X.env = pure (some [x, y]) := by rfl)
    (hs : swapsWithSole [.Tuple [.Name x px, .Name y py] kt pt] (.Tuple [a, b] k2 pt2) pos.line X.env = pure false := by rfl) :
    DS X E (.Assign [.Tuple [.Name x px, .Name y py] kt pt] (.Tuple [a, b] k2 pt2) pos) (parS [i, j] fs) := by
  obtain ⟨l, t, p, q⟩ := ha
  refine ⟨_, ps_par hc hN hi hj hij hx hy p hw hs, fun σ H σd S ι N hE hS h => ?_⟩
  refine q σ H σd S ι _ hE hS (Wp.run h fun d S1 e1 v H1 ι1 p1 r1 h1 => ?_)
  have hl := l _ _ _ _ e1
  cases r1 with
  | nil => cases hl
  | cons ra rs =>
    cases rs with
    | nil => cases hl
    | cons rb rt =>
      cases rt with
      | cons _ _ => cases hl
      | nil => exact ⟨_, _, rfl, h1 _ _ _ (.refl p1.sto) (((hE.mono p1.pre p1.keep).set i ra).set j rb)⟩
end
end DV

set_option maxHeartbeats 4000000
/-! Loops, comprehensions, what is walked. -/
namespace DV
open PySem PySem.Spec PyProof.Rows L2

/-- J walks the items xs, from the heap H0 on -/
structure WalkR (K : PySem.W.Frag) (H0 : Hp) (J : L2.It) (xs : List D) : Prop where
  len : xs.length ≤ sizeLine
  go : ∀ i H, Keep H0 H → i < xs.length → J.go i H
  stop : ∀ H, Keep H0 H → J.stop xs.length H
  yld : ∀ i H v H' x, Keep H0 H → xs[i]? = some x → J.yld i H v H' → KeepA H H' ∧ (∀ (b : Addr) (vs : MO), H b = some vs.ho → H' b = some vs.ho) ∧ (∀ b, H b ≠ none → H' b ≠ none) ∧ ∀ ι, Rd K ι H' v x
theorem WalkR.keep {K : PySem.W.Frag} {H0 H1 : Hp} {J : L2.It} {xs : List D} (w : WalkR K H0 J xs) (k : Keep H0 H1) : WalkR K H1 J xs :=
  ⟨w.len, fun i H q => w.go i H (k.trans q), fun H q => w.stop H (k.trans q), fun i H v H' x q => w.yld i H v H' x (k.trans q)⟩
def DI (X : Cx) (E : XK) (tg iter : Expr) (f : DV.It) : Prop := ∃ wi, PI X tg iter wi ∧ ∀ σ H σd S ι R, EnR X.K ι H σ σd → StR X.K ι H S → Wp X.K X.mg E ι H (fun _ H' J xs => WalkR X.K H' J xs) (f σd S) R → wi σ H R

section
variable {X : Cx} {E : XK} {k : Nat} {e a b c : Expr} {f g h : Ex} {es : List Expr} {fs : Ax} {pos : Pos}
theorem wipe_wipe (σ : L2.St) (vs : List Nat) : wipe (wipe σ vs) vs = wipe σ vs := by
  apply List.ext_getElem?
  intro j
  by_cases hj : j ∈ vs
  · by_cases hl : j < σ.length
    · rw [wipe_get hj (by rw [wipe_length]; exact hl), wipe_get hj hl]
    · rw [List.getElem?_eq_none (by rw [wipe_length, wipe_length]; omega), List.getElem?_eq_none (by rw [wipe_length]; omega)]
  · rw [wipe_out hj]
theorem drop_cons {α : Type} {xs : List α} {i : Nat} (hi : i < xs.length) : xs.drop i = xs[i] :: xs.drop (i + 1) := List.drop_eq_getElem_cons hi
/-- for target in iter: body -/
theorem ds_for {vs : List Nat} {tg iter : Expr} {body : List Stmt} {it : DV.It} {gg : Tg} {u : Sx} (o : Okx k X E) (hi : DI X E tg iter it) (hg : DG X E vs tg gg) (hb : DSs X E body u) (hs : ∀ x, foldedSetIterable iter X.env x = pure x := by intro _; rfl) :
    DS X E (.For tg iter body [] pos) (forS it gg u) := by
  obtain ⟨wi, p, q⟩ := hi
  obtain ⟨t, pt, qt⟩ := hg
  obtain ⟨tb, pb, qb⟩ := hb
  refine ⟨_, ps_for o.own o.calm p pt pb hs, fun σ H σd S ι N hE hS h => ?_⟩
  refine q σ H σd S ι _ hE hS (Wp.run h fun xs S1 _ J H1 ι1 p1 w h1 => ?_)
  refine ⟨fun i m σ' H' => m = xs.length - i ∧ i ≤ xs.length ∧ Keep H1 H' ∧ ∃ σd' S' ι', EnR X.K ι' H' σ' σd' ∧ StR X.K ι' H' S' ∧ WpF X.K X.mg E ι' H' (forL gg u (xs.drop i) σd' S') N,
    ⟨_, rfl, Nat.zero_le _, .refl _, σd, S1, ι1, hE.mono p1.pre p1.keep, p1.sto, by rw [List.drop_zero]; exact h1⟩, ?_⟩
  rintro i m σ' H' ⟨rfl, hle, kp, σd', S', ι', hE', hS', hw⟩
  by_cases hlt : i < xs.length
  · refine .inr ⟨w.go i H' kp hlt, fun σ2 H2 => i + 1 ≤ xs.length ∧ Keep H1 H2 ∧ ∃ σd' S' ι', EnR X.K ι' H2 σ2 σd' ∧ StR X.K ι' H2 S' ∧ WpF X.K X.mg E ι' H2 (forL gg u (xs.drop (i + 1)) σd' S') N,
      fun σ2 H2 ⟨z1, z2, z3⟩ => ⟨_, by omega, rfl, z1, z2, z3⟩, fun v H2 y => ?_⟩
    obtain ⟨k2, l2, n2, r2⟩ := w.yld i H' v H2 xs[i] kp (List.getElem?_eq_getElem hlt) y
    have pp : Post X.K ι' H' ι' H2 S' := ⟨List.prefix_refl _, k2, hS'.keep k2 l2 n2, fun b vs m q => ⟨l2 b (.lst vs) q, m⟩, n2⟩
    rw [drop_cons hlt] at hw
    have hw2 := WpF.re pp hw
    unfold forL at hw2
    refine qt v xs[i] σ' H2 σd' S' ι' _ (hE'.mono (List.prefix_refl _) k2) pp.sto (r2 ι') ?_
    cases hgx : gg xs[i] σd' S' with
    | no => rw [hgx] at hw2; exact hw2.elim
    | ex c S3 => rw [hgx] at hw2; exact hw2
    | ok σd3 S3 =>
      rw [hgx] at hw2
      intro σ3 H3 ι3 p3 r3
      refine qb σ3 H3 σd3 S3 ι3 _ r3.1 p3.sto ?_
      have hw3 := WpF.re p3 hw2
      simp only at hw3
      have nxt : ∀ σd4 S4, WpF X.K X.mg E ι3 H3 (forL gg u (xs.drop (i + 1)) σd4 S4) N → ∀ σ4 H4 ι4, Post X.K ι3 H3 ι4 H4 S4 → EnR X.K ι4 H4 σ4 σd4 →
          i + 1 ≤ xs.length ∧ Keep H1 H4 ∧ ∃ σd' S' ι', EnR X.K ι' H4 σ4 σd' ∧ StR X.K ι' H4 S' ∧ WpF X.K X.mg E ι' H4 (forL gg u (xs.drop (i + 1)) σd' S') N := fun σd4 S4 hz σ4 H4 ι4 p4 r4 =>
        ⟨hlt, ((kp.trans k2).trans p3.keep).trans p4.keep, σd4, S4, ι4, r4, p4.sto, WpF.re p4 hz⟩
      cases hu : u σd3 S3 with
      | nx σd4 S4 => rw [hu] at hw3; exact nxt _ _ hw3
      | ct σd4 S4 => rw [hu] at hw3; exact nxt _ _ hw3
      | bk σd4 S4 => rw [hu] at hw3; exact hw3
      | rt d S4 => rw [hu] at hw3; exact hw3
      | ex c S4 => rw [hu] at hw3; exact hw3
      | no => rw [hu] at hw3; exact hw3.elim
  · have hi : i = xs.length := by omega
    subst hi
    refine .inl ⟨w.stop H' kp, ?_⟩
    rw [List.drop_length] at hw
    exact hw _ _ _ (.refl hS') hE'
/-! ### comprehensions -/
/-- the tests of a comprehension -/
def DTs (X : Cx) (E : XK) (es : List Expr) (f : Tx) : Prop := ∃ t, PTs X es t ∧ ∀ σ H σd S ι Q, EnR X.K ι H σ σd → StR X.K ι H S → Wp X.K X.mg E ι H relB (f σd S) Q → t σ H Q
theorem dts_nil : DTs X E [] yesT := ⟨_, pts_nil, fun σ H σd S ι Q hE hS h => h _ _ _ (.refl hS) rfl⟩
theorem wipe_rel {K : PySem.W.Frag} {ι : List Addr} {H : Hp} {σ : L2.St} {σd : En} (h : EnR K ι H σ σd) : ∀ vs : List Nat, EnR K ι H (wipe σ vs) (wipeD σd vs)
  | [] => h
  | v :: vs => by
    have ih := wipe_rel h vs
    unfold wipe wipeD
    refine ⟨by rw [List.length_set, List.length_set, ih.len], fun j d e => ?_⟩
    by_cases hj : v = j
    · subst hj
      by_cases hl : v < (wipeD σd vs).length
      · rw [List.getElem?_set_self hl] at e; cases e
      · rw [List.getElem?_eq_none (by rw [List.length_set]; omega)] at e; cases e
    · rw [List.getElem?_set_ne hj] at e ⊢
      exact ih.at_ j d e
/-- one reading for every frame of a block -/
theorem uni_e {e : Expr} {f : Ex} {scope : Scope} (h : ∀ (s : Shared) (H : Hp) (C : Addr) (cl : List (Str × Addr)) (fp : List Addr), DE (X.blk s H scope (compEnvC scope cl C X.env) fp) E0 e f) :
    ∃ t, (∀ (s : Shared) (H : Hp) (C : Addr) (cl : List (Str × Addr)) (fp : List Addr), PE (X.blk s H scope (compEnvC scope cl C X.env) fp) e t) ∧
      ∀ σ H σd S ι Q, EnR X.K ι H σ σd → StR X.K ι H S → Wp X.K X.mg E0 ι H (relD X.K) (f σd S) Q → t σ H Q := by
  refine ⟨fun σ H Q => ∀ (s : Shared) (H1 : Hp) (C : Addr) (cl : List (Str × Addr)) (fp : List Addr), Classical.choose (h s H1 C cl fp) σ H Q, fun s H1 C cl fp => ?_, fun σ H σd S ι Q hE hS hw s H1 C cl fp => ?_⟩
  · exact ⟨fun pins s2 σ H Q I hq => (Classical.choose_spec (h s H1 C cl fp)).1.run pins s2 σ H Q I (hq s H1 C cl fp)⟩
  · exact (Classical.choose_spec (h s H1 C cl fp)).2 σ H σd S ι Q hE hS hw
theorem uni_t {es : List Expr} {f : Tx} {scope : Scope} (h : ∀ (s : Shared) (H : Hp) (C : Addr) (cl : List (Str × Addr)) (fp : List Addr), DTs (X.blk s H scope (compEnvC scope cl C X.env) fp) E0 es f) :
    ∃ t, (∀ (s : Shared) (H : Hp) (C : Addr) (cl : List (Str × Addr)) (fp : List Addr), PTs (X.blk s H scope (compEnvC scope cl C X.env) fp) es t) ∧
      ∀ σ H σd S ι Q, EnR X.K ι H σ σd → StR X.K ι H S → Wp X.K X.mg E0 ι H relB (f σd S) Q → t σ H Q := by
  refine ⟨fun σ H Q => ∀ (s : Shared) (H1 : Hp) (C : Addr) (cl : List (Str × Addr)) (fp : List Addr), Classical.choose (h s H1 C cl fp) σ H Q, fun s H1 C cl fp => ?_, fun σ H σd S ι Q hE hS hw s H1 C cl fp => ?_⟩
  · exact ⟨fun pins s2 σ H Q I hq => (Classical.choose_spec (h s H1 C cl fp)).1.run pins s2 σ H Q I (hq s H1 C cl fp)⟩
  · exact (Classical.choose_spec (h s H1 C cl fp)).2 σ H σd S ι Q hE hS hw
theorem uni_g {vs : List Nat} {tg : Expr} {g : Tg} {scope : Scope} (h : ∀ (s : Shared) (H : Hp) (C : Addr) (cl : List (Str × Addr)) (fp : List Addr), DG (X.blk s H scope (compEnvC scope cl C X.env) fp) E0 vs tg g) :
    ∃ t, (∀ (s : Shared) (H : Hp) (C : Addr) (cl : List (Str × Addr)) (fp : List Addr), PG (X.blk s H scope (compEnvC scope cl C X.env) fp) tg t) ∧
      ∀ v d σ H σd S ι Q, EnR X.K ι H σ σd → StR X.K ι H S → Rd X.K ι H v d → Wp X.K X.mg E0 ι H (fun ι' H' σ' σd' => EnR X.K ι' H' σ' σd' ∧ wipe σ' vs = wipe σ vs) (g d σd S) Q → t v σ H Q := by
  refine ⟨fun v σ H Q => ∀ (s : Shared) (H1 : Hp) (C : Addr) (cl : List (Str × Addr)) (fp : List Addr), Classical.choose (h s H1 C cl fp) v σ H Q, fun s H1 C cl fp => ?_, fun v d σ H σd S ι Q hE hS r hw s H1 C cl fp => ?_⟩
  · exact ⟨fun pins s2 σ H v u Q I rv hq => (Classical.choose_spec (h s H1 C cl fp)).1.run pins s2 σ H v u Q I rv (hq s H1 C cl fp)⟩
  · exact (Classical.choose_spec (h s H1 C cl fp)).2 v d σ H σd S ι Q hE hS r hw
/-- the reading of a comprehension -/
theorem lc_read {wi : TI} {g : TG} {tt : TT} {te : TE} {vs : List Nat} {it : DV.It} {gg : Tg} {ft : Tx} {fe : Ex}
    (q : ∀ σ H σd S ι R, EnR X.K ι H σ σd → StR X.K ι H S → Wp X.K X.mg E ι H (fun _ H' J xs => WalkR X.K H' J xs) (it σd S) R → wi σ H R)
    (qg : ∀ v d σ H σd S ι Q, EnR X.K ι H σ σd → StR X.K ι H S → Rd X.K ι H v d → Wp X.K X.mg E0 ι H (fun ι' H' σ' σd' => EnR X.K ι' H' σ' σd' ∧ wipe σ' vs = wipe σ vs) (gg d σd S) Q → g v σ H Q)
    (qt : ∀ σ H σd S ι Q, EnR X.K ι H σ σd → StR X.K ι H S → Wp X.K X.mg E0 ι H relB (ft σd S) Q → tt σ H Q)
    (qe : ∀ σ H σd S ι Q, EnR X.K ι H σ σd → StR X.K ι H S → Wp X.K X.mg E0 ι H (relD X.K) (fe σd S) Q → te σ H Q)
    {σ : L2.St} {H : Hp} {σd : En} {S : Sto} {ι : List Addr} {Q : VK} (hE : EnR X.K ι H σ σd) (hS : StR X.K ι H S) (h : Wp X.K X.mg E ι H (relL X.K H) (lcX it vs gg ft fe σd S) Q) : tLc wi g tt te vs σ H Q := by
  refine q σ H σd S ι _ hE hS (Wp.bind0 h fun xs S1 _ J H1 ι1 p1 w h1 => ?_)
  intro Dl hD
  have hD0 : H Dl = none := by
    cases q0 : H Dl with
    | none => rfl
    | some u => exact absurd hD (p1.dom Dl (by rw [q0]; simp))
  have p2 : Post X.K ι H ι1 (upd H1 Dl (.lst [])) S1 := p1.trans (.new p1.sto hD)
  refine ⟨fun i m H' => m = xs.length - i ∧ i ≤ xs.length ∧ Keep H1 H' ∧ ∃ ws ds S' ι', Post X.K ι H ι' H' S' ∧ H' Dl = some (.lst ws) ∧ Dl ∉ ι' ∧ ws.length ≤ i ∧ RdAll X.K ι' H' ws ds ∧
      Wp X.K X.mg E ι H (relL X.K H) ((lcL gg ft fe (wipeD σd vs) (xs.drop i) S').bind fun es S4 => .ok (ds ++ es) S4) Q,
    ⟨_, rfl, Nat.zero_le _, .new hD, [], [], S1, ι1, p2, upd_same, p1.sto.notin hD, Nat.le_refl _, .nil, ?_⟩, ?_⟩
  · rw [List.drop_zero]
    cases hl : lcL gg ft fe (wipeD σd vs) xs S1 <;> (rw [hl] at h1; exact h1)
  rintro i m H' ⟨rfl, hle, kp, ws, ds, S', ι', pp, hDl, hn, hlen, rr, hw⟩
  by_cases hlt : i < xs.length
  · refine .inr ⟨w.go i H' kp hlt, fun H2 => i + 1 ≤ xs.length ∧ Keep H1 H2 ∧ ∃ ws ds S' ι', Post X.K ι H ι' H2 S' ∧ H2 Dl = some (.lst ws) ∧ Dl ∉ ι' ∧ ws.length ≤ i + 1 ∧ RdAll X.K ι' H2 ws ds ∧
        Wp X.K X.mg E ι H (relL X.K H) ((lcL gg ft fe (wipeD σd vs) (xs.drop (i + 1)) S').bind fun es S4 => .ok (ds ++ es) S4) Q,
      fun H2 ⟨z1, z2, z3⟩ => ⟨_, by omega, rfl, z1, z2, z3⟩, fun v H2 y => ?_⟩
    obtain ⟨k2, l2, n2, r2⟩ := w.yld i H' v H2 xs[i] kp (List.getElem?_eq_getElem hlt) y
    have p3 : Post X.K ι' H' ι' H2 S' := ⟨List.prefix_refl _, k2, pp.sto.keep k2 l2 n2, fun b vs m q => ⟨l2 b (.lst vs) q, m⟩, n2⟩
    have pp2 := pp.trans p3
    rw [drop_cons hlt] at hw
    unfold lcL at hw
    refine qg v xs[i] _ H2 (wipeD σd vs) S' ι' _ (wipe_rel (hE.mono pp2.pre pp2.keep) vs) pp2.sto (r2 ι') ?_
    cases hgx : gg xs[i] (wipeD σd vs) S' with
    | no => rw [hgx] at hw; exact hw.elim
    | ex c S3 => rw [hgx] at hw; exact hw.elim
    | ok σd3 S3 =>
      rw [hgx] at hw
      intro σ3 H3 ι3 p4 r4
      refine ⟨r4.2.trans (wipe_wipe σ vs), ?_⟩
      have pp3 := pp2.trans p4
      refine qt σ3 H3 σd3 S3 ι3 _ r4.1 p4.sto ?_
      simp only at hw
      cases hft : ft σd3 S3 with
      | no => rw [hft] at hw; exact hw.elim
      | ex c S3 => rw [hft] at hw; exact hw.elim
      | ok kk S4 =>
        rw [hft] at hw
        intro bb H4 ι4 p5 r5
        cases r5
        have pp4 := pp3.trans p5
        have dl4 := (p3.trans p4).trans p5
        have hD4 := dl4.frame Dl ws hn hDl
        simp only at hw
        cases kk with
        | false =>
          rw [if_neg Bool.false_ne_true] at hw ⊢
          exact ⟨hlt, (kp.trans dl4.keep), ws, ds, S4, ι4, pp4, hD4.1, hD4.2, by omega, rr.mono dl4.pre dl4.keep, hw⟩
        | true =>
          rw [if_pos rfl] at hw ⊢
          refine qe σ3 H4 σd3 S4 ι4 _ (r4.1.mono p5.pre p5.keep) p5.sto ?_
          cases hfe : fe σd3 S4 with
          | no => rw [hfe] at hw; exact hw.elim
          | ex c S3 => rw [hfe] at hw; exact hw.elim
          | ok d S5 =>
            rw [hfe] at hw
            intro y H5 ι5 p6 r6
            have pp5 := pp4.trans p6
            have dl5 := dl4.trans p6
            have hD5 := dl5.frame Dl ws hn hDl
            have hz := w.len
            refine ⟨ws, hD5.1, by omega, hlt, (kp.trans dl5.keep).trans (.list hD5.1), ws ++ [y], ds ++ [d], S5, ι5, pp5.fixNew hD5.1 hD5.2 hD0, upd_same, hD5.2, by rw [List.length_append]; show ws.length + 1 ≤ _; omega, ?_, ?_⟩
            · exact Paired.app (RdAll.mono (List.prefix_refl _) (.list hD5.1) (rr.mono dl5.pre dl5.keep)) (.cons (r6.mono (List.prefix_refl _) (.list hD5.1)) .nil)
            · simp only at hw
              cases hl : lcL gg ft fe (wipeD σd vs) (xs.drop (i + 1)) S5 with
              | no => rw [hl] at hw; exact hw
              | ex c S6 => rw [hl] at hw; exact hw
              | ok es S6 =>
                rw [hl] at hw
                simp only [bind_ok] at hw ⊢
                rw [List.append_assoc]
                exact hw
  · have hi : i = xs.length := by omega
    subst hi
    refine .inl ⟨w.stop H' kp, ?_⟩
    rw [List.drop_length] at hw
    simp only [lcL, bind_ok, List.append_nil] at hw
    exact hw _ _ _ pp ⟨Dl, ws, hD0, rfl, hDl, hn, Nat.le_trans hlen w.len, rr⟩
end
end DV

set_option maxHeartbeats 4000000
/-! Comprehensions as expressions, lists fixed, what is walked. -/
namespace DV
open PySem PySem.Spec PyProof.Rows L2
section
variable {X : Cx} {E : XK} {k : Nat} {e a b c : Expr} {f g h : Ex} {es : List Expr} {fs : Ax} {pos : Pos}
theorem dl_lc {elt tg iter : Expr} {ifs : List Expr} {scope : Scope} (own : List (Str × Nat)) {it : DV.It} {gg : Tg} {ft : Tx} {fe : Ex} (o : Okx k X E) (hi : DI X E tg iter it)
    (hg : ∀ (s : Shared) (H : Hp) (C : Addr) (cl : List (Str × Addr)) (fp : List Addr), Okx k (X.blk s H scope (compEnvC scope cl C X.env) fp) E0 → DG (X.blk s H scope (compEnvC scope cl C X.env) fp) E0 (own.map (·.2)) tg gg)
    (ht : ∀ (s : Shared) (H : Hp) (C : Addr) (cl : List (Str × Addr)) (fp : List Addr), Okx k (X.blk s H scope (compEnvC scope cl C X.env) fp) E0 → DTs (X.blk s H scope (compEnvC scope cl C X.env) fp) E0 ifs ft)
    (he : ∀ (s : Shared) (H : Hp) (C : Addr) (cl : List (Str × Addr)) (fp : List Addr), Okx k (X.blk s H scope (compEnvC scope cl C X.env) fp) E0 → DE (X.blk s H scope (compEnvC scope cl C X.env) fp) E0 elt fe)
    (ok : BlkOk X.N X.env.scope scope own := by exact blkOk_by (by rfl)) (hs : ∀ x, foldedSetIterable iter X.env x = pure x := by intro _; rfl) :
    DL X E (.ListComp elt [⟨tg, iter, ifs, 0⟩] scope pos) (lcX it (own.map (·.2)) gg ft fe) := by
  obtain ⟨wi, p, q⟩ := hi
  obtain ⟨tg', pg, qg⟩ := uni_g fun s H C cl fp => hg s H C cl fp (o.blk s H scope _ fp)
  obtain ⟨tt, pt, qt⟩ := uni_t fun s H C cl fp => ht s H C cl fp (o.blk s H scope _ fp)
  obtain ⟨te, pe, qe⟩ := uni_e fun s H C cl fp => he s H C cl fp (o.blk s H scope _ fp)
  exact ⟨_, pe_lc o.calm o.nd p ok pg pt pe hs, fun σ H σd S ι Q hE hS h => lc_read q qg qt qe hE hS h⟩
/-- name = [..] on one line, fixed or not -/
def tFzS (t : TS) : TS := fun N σ H => t { N with nx := fun σ' H' => ∃ a xs, H' a = some (.lst xs) ∧ ∀ o, N.nx σ' (upd H' a (.frz o (.lst xs))) } σ H
theorem ps_frz {st : Stmt} {t : TS} (p : PS X st t) : PS X st (tFzS t) := by
  refine ⟨fun pins s σ H N I h => thn (p.run pins s σ H _ I h) fun fl s1 q => ?_⟩
  cases fl with
  | next =>
    obtain ⟨σ', H', I1, a, xs, ha, q⟩ := q
    obtain ⟨o, I2⟩ := I1.lock ha trivial
    exact ⟨σ', _, I2, q o⟩
  | brk => exact q
  | cont => exact q
  | ret v => exact q
theorem ds_setLcF (i : Nat) {y : Str} {py spos : Pos} {elt tg iter : Expr} {ifs : List Expr} {scope : Scope} (own : List (Str × Nat)) {it : DV.It} {gg : Tg} {ft : Tx} {fe : Ex} (o : Okx k X E) (hi : DI X E tg iter it)
    (hg : ∀ (s : Shared) (H : Hp) (C : Addr) (cl : List (Str × Addr)) (fp : List Addr), Okx k (X.blk s H scope (compEnvC scope cl C X.env) fp) E0 → DG (X.blk s H scope (compEnvC scope cl C X.env) fp) E0 (own.map (·.2)) tg gg)
    (ht : ∀ (s : Shared) (H : Hp) (C : Addr) (cl : List (Str × Addr)) (fp : List Addr), Okx k (X.blk s H scope (compEnvC scope cl C X.env) fp) E0 → DTs (X.blk s H scope (compEnvC scope cl C X.env) fp) E0 ifs ft)
    (he : ∀ (s : Shared) (H : Hp) (C : Addr) (cl : List (Str × Addr)) (fp : List Addr), Okx k (X.blk s H scope (compEnvC scope cl C X.env) fp) E0 → DE (X.blk s H scope (compEnvC scope cl C X.env) fp) E0 elt fe)
    (hy : X.N[i]? = some y := by rfl) (hyl : X.env.scope.names.lookup y = some .local := by rfl)
    (hsw : swapsWith (.ListComp elt [⟨tg, iter, ifs, 0⟩] scope pos) (some (.Name y py)) spos.line X.env = pure true := by exact sw_true rfl rfl rfl (by decide +kernel))
    (ok : BlkOk X.N X.env.scope scope own := by exact blkOk_by (by rfl)) (hs : ∀ x, foldedSetIterable iter X.env x = pure x := by intro _; rfl) :
    DS X E (.Assign [.Name y py] (.ListComp elt [⟨tg, iter, ifs, 0⟩] scope pos) spos) (asgS (lcF it (own.map (·.2)) gg ft fe) (nmG i)) := by
  obtain ⟨wi, p, q⟩ := hi
  obtain ⟨tg', pg, qg⟩ := uni_g fun s H C cl fp => hg s H C cl fp (o.blk s H scope _ fp)
  obtain ⟨tt, pt, qt⟩ := uni_t fun s H C cl fp => ht s H C cl fp (o.blk s H scope _ fp)
  obtain ⟨te, pe, qe⟩ := uni_e fun s H C cl fp => he s H C cl fp (o.blk s H scope _ fp)
  refine ⟨_, ps_frz (ps_setLc o.calm o.nd hy hyl hsw p ok pg pt pe hs), fun σ H σd S ι N hE hS h => ?_⟩
  refine (lc_read q qg qt qe hE hS ?_ : tLc wi tg' tt te (own.map (·.2)) σ H (fun x H1 => ∃ a xs, H1 a = some (.lst xs) ∧ ∀ o, N.nx (σ.set i (some x)) (upd H1 a (.frz o (.lst xs)))))
  unfold asgS lcF frzE at h
  cases hl : lcX it (own.map (·.2)) gg ft fe σd S with
  | no => rw [hl] at h; exact h.elim
  | ex c S1 => rw [hl] at h; exact h
  | ok ds S1 =>
    rw [hl] at h
    intro v H1 ι1 p1 r1
    cases hp : pysOf ds with
    | none => simp only [frz, bind_ok, hp, run_no] at h; exact h.elim
    | some ps =>
      simp only [frz, bind_ok, hp, run_ok, nmG] at h
      obtain ⟨a, xs, rfl, ha, z⟩ := frz_post p1 r1 hp
      refine ⟨a, xs, ha, fun o => h _ _ _ (z o).1 ?_⟩
      exact (hE.mono p1.pre (z o).1.keep).set i (.py (z o).2)
theorem EnR.setD {K : PySem.W.Frag} {ι : List Addr} {H : Hp} {σ : L2.St} {σd : En} {v : V} {d : D} {i : Nat} (h : EnR K ι H σ σd) (e : σ[i]? = some (some v)) (r : Rd K ι H v d) : EnR K ι H σ (σd.set i (some d)) := by
  refine ⟨by rw [List.length_set, h.len], fun j d' e' => ?_⟩
  by_cases hj : i = j
  · subst hj
    have hlt : i < σd.length := by
      have := (List.getElem?_eq_some_iff.mp e').1
      simpa using this
    rw [List.getElem?_set_self hlt] at e'
    cases e'
    exact ⟨v, e, r⟩
  · rw [List.getElem?_set_ne hj] at e'
    exact h.at_ j d' e'

/-! ### a list of a slot is fixed -/
def tFix (t : TS) : TS := fun N σ H => ∃ a xs, H a = some (.lst xs) ∧ (xs.length ≤ sizeLine → ∀ o, t N σ (upd H a (.frz o (.lst xs))))
theorem pss_fix {sts : List Stmt} {t : TS} (p : PSs X sts t) : PSs X sts (tFix t) := by
  refine ⟨fun pins s σ H N I ⟨a, xs, ha, h⟩ => ?_⟩
  obtain ⟨o, I2⟩ := I.lock ha trivial
  exact p.run pins s σ _ N I2 (h (I.hok a _ ha).1 o)
theorem fix_post {ι : List Addr} {H : Hp} {S : Sto} {n : Nat} {a : Addr} {vs : List V} {o : HO} (hS : StR X.K ι H S) (e : ι[n]? = some a) (ha : H a = some (.lst vs)) : Post X.K ι H ι (upd H a o) (S.set n .gone) :=
  .wr e ha (hS.fix e ha)
theorem dss_fix {sts : List Stmt} {w : Sx} (i : Nat) (h : DSs X E sts w) : DSs X E sts (seqS (fixS i) w) := by
  obtain ⟨t, p, q⟩ := h
  refine ⟨_, pss_fix p, fun σ H σd S ι N hE hS h => ?_⟩
  unfold seqS fixS at h
  cases hi : σd[i]? with
  | none => rw [hi] at h; exact h.elim
  | some od =>
    cases od with
    | none => rw [hi] at h; exact h.elim
    | some d =>
      cases d with
      | py d => rw [hi] at h; exact h.elim
      | raw d => rw [hi] at h; exact h.elim
      | obj n =>
        rw [hi] at h
        simp only at h
        cases hn : S[n]? with
        | none => rw [hn] at h; exact h.elim
        | some u =>
          cases u with
          | gone => rw [hn] at h; exact h.elim
          | tab _ _ => rw [hn] at h; exact h.elim
          | dt _ => rw [hn] at h; exact h.elim
          | dk _ => rw [hn] at h; exact h.elim
          | ins _ _ => rw [hn] at h; exact h.elim
          | tpl _ => rw [hn] at h; exact h.elim
          | lst ds =>
            rw [hn] at h
            simp only at h
            cases hp : pysOf ds with
            | none => rw [hp] at h; exact h.elim
            | some ps =>
              rw [hp] at h
              simp only at h
              obtain ⟨v, e1, r⟩ := hE.at_ i _ hi
              cases r with
              | obj en =>
                rename_i a
                cases hS.at_ _ _ _ hn en with
                | lst ha rr =>
                  rename_i vs
                  refine ⟨a, vs, ha, fun hz o => ?_⟩
                  have pp := fix_post (X := X) (o := .frz o (.lst vs)) hS en ha
                  refine q σ _ _ _ ι N ((hE.mono pp.pre pp.keep).setD e1 (.py (.lst (.inl ⟨o, upd_same⟩) ?_ ?_))) pp.sto (WpF.re pp h)
                  · rw [pysOf_length hp, ← rr.length]
                    exact hz
                  · exact (RdAll.pys rr hp).keep pp.keep
/-! ### what is walked -/
theorem pi_or {tg iter : Expr} {w1 w2 : TI} (h1 : PI X tg iter w1) (h2 : PI X tg iter w2) : PI X tg iter (fun σ H R => w1 σ H R ∨ w2 σ H R) :=
  ⟨fun pins s σ H R I h => h.elim (fun h => h1.run pins s σ H R I h) fun h => h2.run pins s σ H R I h⟩
theorem get_pys {ds : List PyData} {i : Nat} {x : D} (h : (ds.map D.py)[i]? = some x) : ∃ d, ds[i]? = some d ∧ x = .py d := by
  rw [List.getElem?_map, Option.map_eq_some_iff] at h
  obtain ⟨d, h1, h2⟩ := h
  exact ⟨d, h1, h2.symm⟩
theorem PpAll.getR {K : PySem.W.Frag} {H : Hp} : ∀ {vs : List V} {ds : List PyData} {i : Nat} {d : PyData}, PpAll K H vs ds → ds[i]? = some d → ∃ v, vs[i]? = some v ∧ Pp K H v d
  | _, _, _, _, .nil, e => by simp at e
  | _, _, 0, _, .cons r _, e => by simp at e; subst e; exact ⟨_, rfl, r⟩
  | _, _, i + 1, y, .cons r t, e => by
    obtain ⟨x, h1, h2⟩ := PpAll.getR (i := i) t (by simpa using e)
    exact ⟨x, by simpa using h1, h2⟩
theorem walk_list {K : PySem.W.Frag} {H0 : Hp} {a : Addr} {xs : List V} {ds : List PyData} (hf : FL K H0 a xs) (hz : ds.length ≤ sizeLine) (al : PpAll K H0 xs ds) : WalkR K H0 (Itl K a) (ds.map D.py) := by
  have hl := al.length
  refine ⟨by rw [List.length_map]; exact hz, fun i H kp hi => ?_, fun H kp => ?_, fun i H v H' x kp hx y => ?_⟩
  · rw [List.length_map, ← hl] at hi
    exact ⟨xs, xs[i], (hf.keep kp).sq, List.getElem?_eq_getElem hi⟩
  · exact ⟨xs, (hf.keep kp).sq, by rw [List.length_map, hl]; exact Nat.le_refl _⟩
  · obtain ⟨e, y⟩ := y
    subst e
    obtain ⟨d, hd, rfl⟩ := get_pys hx
    obtain ⟨w, hw, pw⟩ := al.getR hd
    have := y xs (hf.keep kp).sq
    rw [hw] at this
    cases this
    exact ⟨.refl _, fun _ _ h => h, fun _ h => h, fun ι => .py (pw.keep kp)⟩
theorem walk_tup {K : PySem.W.Frag} {H0 : Hp} {a : Addr} {xs : List V} {ds : List PyData} (hf : SqT K H0 a xs) (hz : ds.length ≤ sizeLine) (al : PpAll K H0 xs ds) : WalkR K H0 (Itt K a) (ds.map D.py) := by
  have hl := al.length
  refine ⟨by rw [List.length_map]; exact hz, fun i H kp hi => ?_, fun H kp => ?_, fun i H v H' x kp hx y => ?_⟩
  · rw [List.length_map, ← hl] at hi
    exact ⟨xs, xs[i], sqT_keep kp hf, List.getElem?_eq_getElem hi⟩
  · exact ⟨xs, sqT_keep kp hf, by rw [List.length_map, hl]; exact Nat.le_refl _⟩
  · obtain ⟨e, y⟩ := y
    subst e
    obtain ⟨d, hd, rfl⟩ := get_pys hx
    obtain ⟨w, hw, pw⟩ := al.getR hd
    have := y xs (sqT_keep kp hf)
    rw [hw] at this
    cases this
    exact ⟨.refl _, fun _ _ h => h, fun _ h => h, fun ι => .py (pw.keep kp)⟩
theorem di_seq {tg : Expr} (ha : DE X E e f) : DI X E tg e (seqI f) := by
  obtain ⟨t, p, q⟩ := ha
  refine ⟨_, pi_or (pi_list p) (pi_tup p), fun σ H σd S ι R hE hS h => ?_⟩
  cases hf : f σd S with
  | no => unfold seqI at h; rw [hf] at h; exact h.elim
  | ex c S1 =>
    unfold seqI at h; rw [hf] at h
    refine .inl (q σ H σd S ι _ hE hS ?_)
    rw [hf]
    exact h
  | ok d S1 =>
    unfold seqI at h
    rw [hf] at h
    simp only [bind_ok] at h
    cases d with
    | obj n => exact h.elim
    | raw n => exact h.elim
    | py d =>
      cases d with
      | list ds =>
        refine .inl (q σ H σd S ι _ hE hS ?_)
        rw [hf]
        intro v H1 ι1 p1 r1
        cases r1 with
        | py r =>
          cases r with
          | lst hf hz al => exact ⟨_, rfl, ⟨_, hf.sq⟩, h _ _ _ p1 (walk_list hf hz al)⟩
      | tuple ds =>
        refine .inr (q σ H σd S ι _ hE hS ?_)
        rw [hf]
        intro v H1 ι1 p1 r1
        cases r1 with
        | py r =>
          cases r with
          | tup hf hz al => exact ⟨_, rfl, ⟨_, hf.sq⟩, h _ _ _ p1 (walk_tup hf.sq hz al)⟩
      | _ => exact h.elim
theorem di_txt {tg : Expr} (ha : DE X E e f) : DI X E tg e (txtI f) := by
  obtain ⟨t, p, q⟩ := ha
  refine ⟨_, pi_str p, fun σ H σd S ι R hE hS h => ?_⟩
  refine q σ H σd S ι _ hE hS (Wp.bind0 h fun d S1 _ v H1 ι1 p1 r1 h1 => ?_)
  cases d with
  | obj n => exact h1.elim
  | raw n => exact h1.elim
  | py d =>
    cases d with
    | str x =>
      simp only at h1
      split at h1
      · rename_i hz
        refine ⟨x, str_of r1, h1 _ _ _ p1 ⟨?_, fun i H kp hi => ?_, fun H kp => ?_, fun i H v H' y kp hx yy => ?_⟩⟩
        · rw [List.length_map, sizeLine_eq]
          exact hz
        · show i < x.cps.size
          simpa using hi
        · show x.cps.size ≤ _
          simp
        · obtain ⟨e, c, hc, rfl⟩ := yy
          subst e
          rw [List.getElem?_map, Option.map_eq_some_iff] at hx
          obtain ⟨c', h1, h2⟩ := hx
          subst h2
          rw [Array.getElem?_toList, hc] at h1
          cases h1
          exact ⟨.refl _, fun _ _ h => h, fun _ h => h, fun ι => .py (.str _)⟩
      · exact h1.elim
    | _ => exact h1.elim
theorem rngV_get {lo : Int} {n i : Nat} {x : D} (h : (rngV lo n)[i]? = some x) : i < n ∧ x = .py (.int (lo + (i : Int))) := by
  have hl : i < n := by
    have := (List.getElem?_eq_some_iff.mp h).1
    unfold rngV at this
    simpa using this
  unfold rngV at h
  rw [List.getElem?_map, List.getElem?_range hl] at h
  cases h
  exact ⟨hl, rfl⟩
theorem rngV_len {lo : Int} {n : Nat} : (rngV lo n).length = n := by
  unfold rngV
  simp
theorem walk_rng {K : PySem.W.Frag} {H0 : Hp} {lo : Int} {n : Nat} (hz : n ≤ sizeLine) : WalkR K H0 (Itr lo n) (rngV lo n) := by
  refine ⟨by rw [rngV_len]; exact hz, fun i H kp hi => ?_, fun H kp => ?_, fun i H v H' x kp hx y => ?_⟩
  · rw [rngV_len] at hi
    exact hi
  · show n ≤ _
    rw [rngV_len]
    exact Nat.le_refl _
  · obtain ⟨e, y⟩ := y
    subst e y
    obtain ⟨_, rfl⟩ := rngV_get hx
    exact ⟨.refl _, fun _ _ h => h, fun _ h => h, fun ι => .py (.int _)⟩
theorem toNat_line {j : Int} (h : j ≤ 16777216) : j.toNat ≤ sizeLine := by
  rw [sizeLine_eq]
  omega
variable {p : Pos}
theorem di_rng1 {tg : Expr} (hm : X.mg "range" = none) (ha : DE X E a f) (hg : Gl X "range" := by rfl) (hs : starEach [a] X.env = [(false, eval a X.env)] := by rfl) : DI X E tg (.Call (.Name "range" p) [a] [] pos) (rng1I f) := by
  obtain ⟨t, pt, q⟩ := ha
  refine ⟨_, pi_range1 hg hm (pa_cons pt pa_nil hs) hs, fun σ H σd S ι R hE hS h => ?_⟩
  refine q σ H σd S ι _ hE hS (Wp.bind0 h fun d S1 _ v H1 ι1 p1 r1 h1 => ?_)
  split at h1
  · split at h1
    · rename_i hz
      refine ⟨_, by rw [int_of r1], hz.1, by have := hz.2; omega, h1 _ _ _ p1 (walk_rng (toNat_line hz.2))⟩
    · exact h1.elim
  · exact h1.elim
end
end DV

set_option maxHeartbeats 4000000
/-! The tuples that zip and enumerate give out have no dict. -/
namespace DV
open PySem
/-- the object there has no dict -/
def NoD (h : Heap) (T : Addr) : Prop := ∃ o, h.get? T = some o ∧ o.dict = none
section
variable {prog : Program} {w : World} {A : Around} {fp wr : List Addr} {n : Nat} {St : Nat → Heap → Prop} {I : Addr}
/-- a walk over tuples, each without a dict -/
structure WalksD (prog : Program) (w : World) (A : Around) (I : Addr) (fp wr : List Addr) (n : Nat) (Pt : Nat → Array Value → Prop) (St : Nat → Heap → Prop) (Mid : Nat → Addr → Heap → Prop) : Prop where
  base : WalksT prog w A I fp wr n Pt St Mid
  itemD : ∀ i (s : Shared) (Q : Option Value → Shared → Prop) (E : Value → Shared → Prop), i < n → St i s.heap →
    (∀ T vals h' tk, Pt i vals → s.heap.objs.size ≤ T → h'.IsTuple T vals → NoD h' T → Mid i T h' → (∀ b o, b ∉ wr → s.heap.get? b = some o → h'.get? b = some o) → Q (some (.ref T)) { s with heap := h', toks := tk }) →
    wpAny (model prog w) A (pyNext (.ref I)) Q E s
theorem WalksD.goes {elts : List Expr} {k : Nat} {pos : Pos} {Pt : Nat → Array Value → Prop} {Mid : Nat → Addr → Heap → Prop} (W : WalksD prog w A I fp wr n Pt St Mid) :
    GoesN prog w A (.Tuple elts k pos) I fp wr n (fun i h₀ v h => ∃ T vals, v = .ref T ∧ h₀.objs.size ≤ T ∧ Pt i vals ∧ h.IsTuple T vals ∧ NoD h T) St := by
  have G := GoesN.ofWalksT (elts := elts) (k := k) (pos := pos) W.base
  refine ⟨G.sub, G.frame, fun i s Q E hi st hQ => ?_, G.stops, G.self⟩
  refine wpAny_with_toks (n := s.toks) (Nat.le_refl _) (W.itemD i s _ _ hi st fun T vals h1 tk hP ge isT nd mid k1 htk => ⟨_, rfl, ?_⟩)
  refine W.base.go elts k pos i T { s with heap := h1, toks := tk } _ _ mid fun h2 st2 k2 => ?_
  have nw := W.base.apart i T h1 mid
  obtain ⟨ob, e1, e2⟩ := nd
  exact hQ _ h2 tk ⟨T, vals, rfl, ge, hP, isT.at fun o e => k2 T o nw e, ob, k2 T ob nw e1, e2⟩ st2 (fun b o hb e => k2 b o hb (k1 b o hb e)) htk
end
theorem away {h : Heap} {c : Addr} {o : Obj} (e : h.get? c = some o) : h.objs.size ≠ c := Nat.ne_of_gt (Heap.lt_size e)
section
variable {prog : Program} {w : World} {A : Around} {z TI TO i1 i2 i3 : Addr} {fp1 fp2 fp3 : List Addr} {n1 n2 n3 : Nat} {P1 P2 P3 : Nat → Value → Prop} {St1 St2 St3 : Nat → Heap → Prop}
theorem enum_noD {elts : List Expr} {k : Nat} {pos : Pos} {it : Addr} {fp : List Addr} {n : Nat} {P : Nat → Value → Prop} {St : Nat → Heap → Prop} (k₀ : Int) (D : Draws prog w A.in1 it fp n P St) (e : Addr) (hei : e ≠ it) (hef : e ∉ fp) (hif : it ∈ fp) :
    GoesN prog w A (.Tuple elts k pos) e (e :: fp) [e, it] n (fun i h₀ v h => ∃ T t x, v = .ref T ∧ h₀.objs.size ≤ T ∧ P i x ∧ h.IsTuple T #[.int (k₀ + (i : Int)) t, x] ∧ NoD h T) (fun i h => (∃ old, IsEnum h e it (k₀ + (i : Int)) old) ∧ St i h) := by
  have W := WalksT.enumFrom k₀ D e hei hef hif
  refine (WalksD.goes ⟨W, fun i s Q E hi st q => ?_⟩).mono fun i h₀ v h _ ⟨T, vals, ev, ge, ⟨t, x, hx, evs⟩, isT, nd⟩ => ⟨T, t, x, ev, ge, hx, evs ▸ isT, nd⟩
  obtain ⟨⟨old, he⟩, hs⟩ := st
  obtain ⟨_, e1⟩ := D.live _ _ hs
  refine wpAny_pyNext_enum_itemC D he hs hi hei hef fun x h' tk px ou hs' nw _ kp => ?_
  exact q _ #[.int (k₀ + (i : Int)) tk, x] h' (tk + 1) ⟨_, _, px, rfl⟩ (Nat.le_refl _) ⟨_, nw, rfl, _, rfl⟩ ⟨_, nw, rfl⟩ ⟨⟨_, ou⟩, hs', away he, away e1⟩ fun b o hb z => by
    simp only [List.mem_cons, List.not_mem_nil, or_false, not_or] at hb
    exact kp b o hb.1 hb.2 z
end
end DV

set_option maxHeartbeats 4000000
/-! zip, enumerate over lists, tuples, texts in any mix. -/
namespace DV
open PySem PySem.Spec PyProof.Rows L2

/-- a source that is walked -/
inductive SK where
  | lst (a : Addr)
  | tup (a : Addr)
  | txt (x : Str) (t : Tok)
def SK.src : SK → List Addr
  | .lst a => [a]
  | .tup a => [a]
  | .txt _ _ => []
def SK.st (k : SK) (it : Addr) (i : Nat) (h : Heap) : Prop := match k with
  | .lst a => h.IsListIter it a i
  | .tup a => h.IsTupleIter it a i
  | .txt x t => h.IsStrIter it (strIterType x) x t i
def SK.val : SK → Value
  | .lst a => .ref a
  | .tup a => .ref a
  | .txt x t => .str x t
def SK.ob : SK → Obj
  | .lst a => { cls := .type "list_iterator", data := .fields #[.ref a, .int 0 0] }
  | .tup a => { cls := .type "tuple_iterator", data := .fields #[.ref a, .int 0 0] }
  | .txt x t => { cls := .type (strIterType x), data := .fields #[.str x t, .int 0 0] }
/-- the source holds the items -/
def SK.ok (K : PySem.W.Frag) (H : Hp) : SK → List V → Prop
  | .lst a, xs => FL K H a xs
  | .tup a, xs => SqT K H a xs
  | .txt x _, xs => xs = x.cps.toList.map fun c => V.str ⟨#[c]⟩
def SK.hold (k : SK) (h : Heap) (its : List Value) : Prop := match k with
  | .lst a => h.IsList a its.toArray
  | .tup a => h.IsTuple a its.toArray
  | .txt _ _ => True
def SK.n (k : SK) (its : List Value) : Nat := match k with
  | .txt x _ => x.cps.size
  | _ => its.length
def SK.P (k : SK) (its : List Value) (i : Nat) (v : Value) : Prop := match k with
  | .txt x _ => ∃ c u, x.cps[i]? = some c ∧ v = .str ⟨#[c]⟩ u
  | _ => its.toArray[i]? = some v
theorem SK.ok.keep {K : PySem.W.Frag} {H H' : Hp} {k : SK} {xs : List V} (q : Keep H H') (h : k.ok K H xs) : k.ok K H' xs := by
  cases k with
  | lst a => exact FL.keep q h
  | tup a => exact sqT_keep q h
  | txt x t => exact h
theorem SK.draws {prog : Program} {w : World} {A : Around} (hh : A.handled = none) (k : SK) (it : Addr) (hne : ∀ a ∈ k.src, a ≠ it) (its : List Value) :
    Draws prog w A it (it :: k.src) (k.n its) (k.P its) (fun i h => k.st it i h ∧ k.hold h its) := by
  cases k with
  | lst a => exact Draws.list hh it a (hne a (by simp [SK.src])) its.toArray
  | tup a => exact Draws.tuple hh it a (hne a (by simp [SK.src])) its.toArray
  | txt x t =>
    have D := Draws.text (prog := prog) (w := w) hh it x t
    exact ⟨fun i h st => D.live i h st.1, fun i h h' st k => ⟨D.frame i h h' st.1 k, trivial⟩, fun i s Q E hi st hQ => D.item i s Q E hi st.1 fun x h' tk hP hs hb => hQ x h' tk hP ⟨hs, trivial⟩ hb, fun s Q E st hE => D.done s Q E st.1 hE⟩
theorem SK.begins (k : SK) (its : List Value) : Begins k.val k.ob fun h => k.hold h its := by
  cases k with
  | lst a => exact begins_list a its.toArray
  | tup a => exact begins_tuple a its.toArray
  | txt x t =>
    have B := begins_text x t
    exact ⟨B.iter, B.keeps, B.free⟩
/-- the state of a source's iterator hangs on that iterator alone -/
theorem SK.st_keep {k : SK} {it : Addr} {i : Nat} {h h' : Heap} (st : k.st it i h) (q : ∀ o, h.get? it = some o → h'.get? it = some o) : k.st it i h' := by
  cases k with
  | lst a => exact Heap.IsListIter.at st fun o e => q o e
  | tup a => exact Heap.IsTupleIter.at st fun o e => q o e
  | txt x t => obtain ⟨o, e, c, d⟩ := st; exact ⟨o, q o e, c, d⟩
theorem SK.st_obj {k : SK} {it : Addr} {i : Nat} {h : Heap} (st : k.st it i h) : ∃ o, h.get? it = some o ∧ ∀ v, o.data ≠ .cell v := by
  cases k with
  | lst a => obtain ⟨o, e, _, d⟩ := st; exact ⟨o, e, fun v z => by rw [d] at z; cases z⟩
  | tup a => obtain ⟨o, e, _, d⟩ := st; exact ⟨o, e, fun v z => by rw [d] at z; cases z⟩
  | txt x t => obtain ⟨o, e, _, d⟩ := st; exact ⟨o, e, fun v z => by rw [d] at z; cases z⟩
theorem SK.st0 (k : SK) {it : Addr} {h : Heap} (e : h.get? it = some k.ob) : k.st it 0 h := by
  cases k with
  | lst a => exact ⟨_, e, rfl, rfl⟩
  | tup a => exact ⟨_, e, rfl, rfl⟩
  | txt x t => exact ⟨_, e, rfl, rfl⟩
section
variable {X : Cx} {pins : List (Addr × Obj)} {σ : L2.St} {H : Hp} {s : Shared}
/-- what the source holds, in the heap as it stands -/
theorem SK.heap {k : SK} {xs : List V} (I : Inv X pins σ H s) (h : k.ok X.K H xs) : ∃ its : List Value, k.hold s.heap its ∧ k.n its = xs.length ∧ (∀ i v, k.P its i v → ∃ x, xs[i]? = some x ∧ RelV x v) ∧ ∀ a ∈ k.src, a < s.heap.objs.size := by
  cases k with
  | lst a =>
    obtain ⟨its, rv, p, z⟩ := I.list (FL.sq h)
    exact ⟨its, p.isList, rv.length.symm, fun i v e => by
      have e' : its[i]? = some v := by simpa [SK.P] using e
      exact Paired.getR rv e', fun b hb => by
      rw [show b = a by simpa [SK.src] using hb]
      exact p.lt⟩
  | tup a =>
    obtain ⟨its, rv, p, z⟩ := I.tuple h
    exact ⟨its, p, rv.length.symm, fun i v e => by
      have e' : its[i]? = some v := by simpa [SK.P] using e
      exact Paired.getR rv e', fun b hb => by
      rw [show b = a by simpa [SK.src] using hb]
      exact p.lt⟩
  | txt x t =>
    refine ⟨[], trivial, ?_, fun i v e => ?_, fun b hb => by simp [SK.src] at hb⟩
    · have h' : xs = _ := h
      rw [h']
      simp [SK.n]
    · obtain ⟨c, u, h1, h2⟩ := e
      have h' : xs = _ := h
      refine ⟨.str ⟨#[c]⟩, ?_, ⟨u, h2⟩⟩
      rw [h', List.getElem?_map, Array.getElem?_toList, h1]
      rfl
end
/-- an iterator whose i-th item is a new tuple of the values gv i -/
def ItN (Src : Hp → Prop) (n : Nat) (gv : Nat → List V) : L2.It :=
  ⟨fun i H => i < n ∧ Src H, fun i H v H' => ∃ T o, v = .ref T ∧ H T = none ∧ o.dict = none ∧ H' = upd H T (.frz o (.tup (gv i))), fun i H => i = n ∧ Src H⟩
/-- a turn of such an iterator, from the model's own walk -/
theorem turn_new {P : Program} {w : World} {K : PySem.W.Frag} {tg : Expr} {Src : Hp → Prop} {n : Nat} {gv : Nat → List V} {it : Addr} {fp : List Addr} {tn : Nat → Heap → Prop} (mem : it ∈ fp)
    (obj : ∀ i h, tn i h → ∀ b ∈ fp, ∃ o, h.get? b = some o ∧ ∀ v, o.data ≠ .cell v)
    (keep : ∀ i h h', tn i h → (∀ b ∈ fp, ∀ o, h.get? b = some o → h'.get? b = some o) → tn i h')
    (self : ∀ (A : Around) (i : Nat) (s : Shared) (Q : Value → Shared → Prop) (E : Value → Shared → Prop), tn i s.heap → Q (.ref it) s → wpAny (model P w) A (pyIter (.ref it)) Q E s)
    (small : ∀ i, (gv i).length ≤ sizeLine)
    (goes : ∀ (X : Cx), X.prog = P → X.w = w → X.K = K → X.A.handled = none → ∀ (i : Nat) (pins : List (Addr × Obj)) (s : Shared) (σ : L2.St) (H : Hp), Inv X pins σ H s → tn i s.heap → Src H →
      ∃ (fg wr : List Addr) (Y : Nat → Heap → Value → Heap → Prop) (St : Nat → Heap → Prop), GoesN P w X.A tg it fg wr n Y St ∧ St i s.heap ∧ (∀ b ∈ wr, b ∈ fp) ∧
        (∀ h v h', i < n → Y i h v h' → ∃ T us, v = .ref T ∧ h.objs.size ≤ T ∧ Vals (gv i) us ∧ h'.IsTuple T us.toArray ∧ NoD h' T) ∧ (∀ h', St (i + 1) h' → tn (i + 1) h')) :
    Turn P w K tg (ItN Src n gv) fp it tn where
  mem := mem
  obj := obj
  keep := keep
  self := self
  item := by
    intro X hP hw hK hc i pins s σ H E I hf st hg
    obtain ⟨hi, hsrc⟩ := hg
    obtain ⟨fg, wr, Y, St, W, hst, hwr, hY, hSt⟩ := goes X hP hw hK (I.ok.hd hc) i pins s σ H I st hsrc
    refine W.goes i s _ E hi hst fun v h' tk y st' hk htk => ?_
    obtain ⟨T, us, rfl, hT, rv, ⟨o, e1, e2, n1, e3⟩, o2, e4, e5⟩ := hY _ _ _ hi y
    cases e1.symm.trans e4
    have new : ObjOk X.prog X.w (upd H T (.frz o (.tup (gv i)))) h' T (.frz o (.tup (gv i))) := tupF_ok (small i) rv e1 e2 e3
    refine ⟨.ref T, _, I.turnedNew (t' := tk) (ch := wr) hk (fun b hb => hf b (hwr b hb)) hT new, rfl, ⟨T, o, rfl, I.hok.fresh hT, e5, rfl⟩, hSt _ st', fun b hb => ?_⟩
    obtain ⟨o, ho, _⟩ := obj i _ st b hb
    rw [upd_ne (Nat.ne_of_lt (Nat.lt_of_lt_of_le (Heap.lt_size ho) hT))]
    exact (hf b hb).1
  done := by
    intro X hP hw hK hc i pins s σ H E I hf st hg
    obtain ⟨hi, hsrc⟩ := hg
    subst hi
    obtain ⟨fg, wr, Y, St, W, hst, hwr, _, _⟩ := goes X hP hw hK (I.ok.hd hc) i pins s σ H I st hsrc
    exact W.stops s (fun s1 => Inv X pins σ H s1) E hst fun h' tk hk htk => I.turnedL (t' := tk) (ch := wr) hk fun b hb => hf b (hwr b hb)
/-- a value that is a source -/
def srcV (K : PySem.W.Frag) (H : Hp) (v : V) (xs : List V) : Prop :=
  (∃ a, v = .ref a ∧ FL K H a xs) ∨ (∃ a, v = .ref a ∧ SqT K H a xs) ∨ ∃ x, v = .str x ∧ xs = x.cps.toList.map fun c => V.str ⟨#[c]⟩
theorem srcV.sk {K : PySem.W.Frag} {H : Hp} {v : V} {xs : List V} {u : Value} (h : srcV K H v xs) (r : RelV v u) : ∃ k : SK, u = k.val ∧ k.ok K H xs := by
  rcases h with ⟨a, rfl, h⟩ | ⟨a, rfl, h⟩ | ⟨x, rfl, h⟩
  · cases r; exact ⟨.lst a, rfl, h⟩
  · cases r; exact ⟨.tup a, rfl, h⟩
  · obtain ⟨t, rfl⟩ := r; exact ⟨.txt x t, rfl, h⟩
theorem srcV.of {K : PySem.W.Frag} {ι : List Addr} {H : Hp} {S : Sto} {v : V} {d : D} {ds : List PyData} (r : Rd K ι H v d) (h : pyWalk S d = some ds) : ∃ xs, srcV K H v xs ∧ PpAll K H xs ds ∧ ds.length ≤ sizeLine := by
  cases r with
  | obj e => simp [pyWalk] at h
  | raw e => simp [pyWalk] at h
  | py r =>
    cases r with
    | lst hf hz al => cases h; exact ⟨_, .inl ⟨_, rfl, hf⟩, al, hz⟩
    | tup hf hz al => cases h; exact ⟨_, .inr (.inl ⟨_, rfl, hf.sq⟩), al, hz⟩
    | str x =>
      simp only [pyWalk] at h
      split at h
      · rename_i hz
        cases h
        refine ⟨_, .inr (.inr ⟨x, rfl, rfl⟩), ?_, ?_⟩
        · generalize x.cps.toList = l
          induction l with
          | nil => exact .nil
          | cons c l ih => exact .cons (.str _) ih
        · rw [List.length_map, sizeLine_eq]
          exact hz
      · cases h
    | _ => simp [pyWalk] at h

section
variable {X : Cx} {E : XK} {e a b c : Expr} {f g h : Ex} {pos p : Pos}
theorem getD_of {xs : List V} {i : Nat} {x : V} (h : xs[i]? = some x) : xs.getD i .non = x := by
  rw [List.getD_eq_getElem?_getD, h]
  rfl
/-- the items of a walk over new tuples -/
theorem walk_new {K : PySem.W.Frag} {H0 : Hp} {Src : Hp → Prop} {n : Nat} {gv : Nat → List V} {ps : List (List PyData)} (hn : n = ps.length) (hz : ps.length ≤ sizeLine) (hs : ∀ H', Keep H0 H' → Src H')
    (hv : ∀ i p, ps[i]? = some p → p.length ≤ sizeLine ∧ PpAll K H0 (gv i) p) : WalkR K H0 (ItN Src n gv) (ps.map fun p => D.py (.tuple p)) := by
  refine ⟨by rw [List.length_map]; exact hz, fun i H kp hi => ?_, fun H kp => ?_, fun i H v H' x kp hx y => ?_⟩
  · rw [List.length_map] at hi
    exact ⟨by rw [hn]; exact hi, hs H kp⟩
  · exact ⟨by rw [List.length_map]; exact hn.symm, hs H kp⟩
  · obtain ⟨T, o, rfl, hT, ho, rfl⟩ := y
    rw [List.getElem?_map, Option.map_eq_some_iff] at hx
    obtain ⟨p, h1, rfl⟩ := hx
    obtain ⟨hl, al⟩ := hv i p h1
    exact ⟨.new hT, fun b vs e => by rw [upd_ne (ne_of_none e hT)]; exact e, upd_dom, fun ι => .py (.tup (.new ho) hl (al.keep (kp.trans (.new hT))))⟩
end
end DV
namespace PySem
open Sem (wp)
set_option maxHeartbeats 1000000 in
theorem dv_meets_enumerate {v : Value} {o : Obj} {H : Heap → Prop} (B : Begins v o H) :
    Meets (Builtin.«enumerate.__new__» ⟨[.type "enumerate", v], []⟩) (fun _ R s => H s.heap ∧
      R (.ok (.ret (.ref (s.heap.push o).objs.size))) { s with heap := (s.heap.push o).push { cls := .type "enumerate", data := .fields #[.none, .bool false, .ref s.heap.objs.size, rawInt 0, .none, .none] } }) :=
  .of_wp fun prog w A R s h => by
    obtain ⟨hp, g, d, tk, os⟩ := s; obtain ⟨h1, h⟩ := h
    have hsub := sub_enumerate
    have q1 : ∀ {A' : Around} {E : Value → Shared → Prop} {Q : Value → Shared → Prop}, Q (.ref hp.objs.size) ⟨hp.push o, g, d, tk, os⟩ → wpAny (model prog w) A' (pyIter v) Q E ⟨hp, g, d, tk, os⟩ :=
      fun q => B.iter prog w _ _ ⟨hp, g, d, tk, os⟩ _ h1 q
    wp_walk using q1
    refine wpAny_stack_any fun st => wpAny_pure ?_
    split
    · rename_i c _ _ _ _ _
      cases (c == Value.type "enumerate")
      · wp_walk using q1
        exact ⟨_, rfl, h⟩
      · wp_walk using q1
        exact ⟨_, rfl, h⟩
    · wp_walk using q1
      exact ⟨_, rfl, h⟩
end PySem
namespace DV
open PySem PySem.Spec PyProof.Rows L2
end DV

set_option maxHeartbeats 4000000
namespace DV
open PySem PySem.Spec PyProof.Rows L2
/-! enumerate, zip of three. -/
section
variable {prog : Program} {w : World} {A : Around} {E : Value → Shared → Prop} {s : Shared}
theorem enum_begins1 {v : Value} {o : Obj} {H : Heap → Prop} {Q : Value → Shared → Prop} (B : Begins v o H) (h1 : H s.heap)
    (h : ∀ h', IsEnum h' (s.heap.objs.size + 1) s.heap.objs.size 0 .none → h'.get? s.heap.objs.size = some o → h'.objs.size = s.heap.objs.size + 2 →
      (∀ b o, s.heap.get? b = some o → h'.get? b = some o) → Q (.ref (s.heap.objs.size + 1)) { s with heap := h' }) :
    wpAny (model prog w) A (call (.type "enumerate") [v]) Q E s := by
  refine callType_new F.called_enumerate (by decide) (F.typeCall_enumerate_1 _) (F.newCall_enumerate_1 _) (fun obj => F.args_object_init_2 obj _) F.entry_enumerate_new
    (dv_meets_enumerate B) ⟨h1, ?_⟩
  have hz : (s.heap.push o).objs.size = s.heap.objs.size + 1 := Heap.size_push ..
  show _ ∧ _
  rw [hz]
  have he : IsEnum ((s.heap.push o).push { cls := .type "enumerate", data := .fields #[.none, .bool false, .ref s.heap.objs.size, rawInt 0, .none, .none] }) (s.heap.objs.size + 1) s.heap.objs.size 0 .none := by
    have := Heap.get?_push_size (s.heap.push o) (o := { cls := .type "enumerate", data := .fields #[.none, .bool false, .ref s.heap.objs.size, rawInt 0, .none, .none] }) rfl
    rw [hz] at this; exact this
  refine ⟨⟨_, he, rfl⟩, h _ he (Heap.get?_push_of_some _ (Heap.get?_push_size _ B.free)) (by rw [Heap.size_push, hz]) fun b o x => Heap.get?_push_of_some _ (Heap.get?_push_of_some _ x)⟩
end
abbrev enumTn (k1 : SK) (N : Addr) : Nat → Heap → Prop := fun i h => (∃ old, IsEnum h (N + 1) N (i : Nat) old) ∧ k1.st N i h
theorem turn_enum {P : Program} {w : World} {K : PySem.W.Frag} {elts : List Expr} {kk : Nat} {tpos : Pos} {k1 : SK} {N : Addr} {xs : List V} (l1 : ∀ a ∈ k1.src, a < N) :
    Turn P w K (.Tuple elts kk tpos) (ItN (fun H => k1.ok K H xs) xs.length fun i => [.int (i : Nat), xs.getD i .non]) [N + 1, N] (N + 1) (enumTn k1 N) := by
  refine turn_new (by simp) ?_ ?_ ?_ (fun i => by show 2 ≤ sizeLine; decide) ?_
  · intro i h st c hc
    obtain ⟨⟨old, hz⟩, h1⟩ := st
    have e' : c = N + 1 ∨ c = N := by simpa using hc
    rcases e' with q | q
    · rw [q]; exact ⟨_, hz, fun v q => nomatch q⟩
    · rw [q]; exact SK.st_obj h1
  · intro i h h' st k
    obtain ⟨⟨old, hz⟩, h1⟩ := st
    exact ⟨⟨old, k (N + 1) (by simp) _ hz⟩, SK.st_keep h1 fun o q => k N (by simp) o q⟩
  · exact fun A i s Q E st h => let ⟨_, hz⟩ := st.1; wpAny_pyIter_enum hz h
  · intro X' hP hw hK hh i pins' s' σ' H' I' st hsrc
    subst hP hw hK
    obtain ⟨its1', d1', n1', P1', l1'⟩ := SK.heap I' hsrc
    have W := enum_noD (elts := elts) (k := kk) (pos := tpos) 0 (SK.draws (prog := X'.prog) (w := X'.w) (A := X'.A.in1) hh k1 N (fun a ha => Nat.ne_of_lt (l1 a ha)) its1') (N + 1) (Nat.ne_of_gt (Nat.lt_succ_self _)) (fun hm => by
      rcases List.mem_cons.mp hm with q | q
      · exact absurd q (Nat.ne_of_gt (Nat.lt_succ_self _))
      · exact absurd (l1 _ q) (Nat.not_lt_of_le (Nat.le_succ _))) (List.mem_cons_self ..)
    rw [n1'] at W
    refine ⟨_, _, _, _, W, ⟨?_, ⟨st.2, d1'⟩⟩, fun b hb => ?_, fun h v h' hi y => ?_, fun h' st' => ⟨?_, st'.2.1⟩⟩
    · obtain ⟨old, hz⟩ := st.1
      exact ⟨old, by rw [Int.zero_add]; exact hz⟩
    · have e' : b = N + 1 ∨ b = N := by simpa using hb
      rcases e' with q | q <;> simp [q]
    · obtain ⟨T, t, x, rfl, hT, p1, ht⟩ := y
      obtain ⟨v1, e1, r1⟩ := P1' _ _ p1
      refine ⟨T, [.int (0 + (i : Int)) t, x], rfl, hT, ?_, ht⟩
      rw [getD_of e1, Int.zero_add]
      exact .cons ⟨t, rfl⟩ (.cons r1 .nil)
    · obtain ⟨old, hz⟩ := st'.1
      exact ⟨old, by rw [Int.zero_add] at hz; exact hz⟩
section
variable {X : Cx} {E : XK} {e a b c : Expr} {f g h : Ex} {pos p : Pos}
def iEnumM (K : PySem.W.Frag) (ta : TA) : TI := fun σ H R => ta σ H fun vs H1 => ∃ v1 xs, vs = [v1] ∧ srcV K H1 v1 xs ∧
  ∀ Src : Hp → Prop, (∀ H', Keep H1 H' → Src H') → R (ItN Src xs.length fun i => [.int (i : Nat), xs.getD i .non]) H1
theorem pi_enumM {ta : TA} {tpos : Pos} {elts : List Expr} {kk : Nat} (hg : Gl X "enumerate") (hm : X.mg "enumerate" = none) (ha : PA X [e] ta)
    (hs : starEach [e] X.env = [(false, eval e X.env)] := by rfl) :
    PI X (.Tuple elts kk tpos) (.Call (.Name "enumerate" p) [e] [] pos) (iEnumM X.K ta) := by
  refine ⟨fun pins s σ H R I h => ?_⟩
  refine Call_ (ld_blt I hg hm boot_enumerate (PyProof.Rows.callWith_type1 (thn (ha.run pos pins s σ H _ I h) fun us s1 ⟨vs, H1, I1, r1, q1⟩ => ?_) hs rfl))
  obtain ⟨v1, xs, rfl, h1, q⟩ := q1
  obtain ⟨u1, rfl, ru⟩ := vals1 r1
  obtain ⟨k1, rfl, o1⟩ := h1.sk ru
  obtain ⟨its1, d1, n1, P1, l1⟩ := SK.heap I1 o1
  refine enum_begins1 (SK.begins k1 its1) d1 fun h' hz hi1 hsz hk => wpAny_pyIter_enum hz ?_
  have I2 : Inv X pins σ H1 { s1 with heap := h' } := I1.kept (t' := s1.toks) hk
  generalize hN : s1.heap.objs.size = N at *
  have fresh5 : ∀ c, c ∈ [N + 1, N] → FpOk X pins H1 c := fun c hcm => by
    have e' : c = N + 1 ∨ c = N := by simpa using hcm
    have hle : s1.heap.objs.size ≤ c := by
      rw [hN]
      rcases e' with z | z
      · rw [z]; exact Nat.le_add_right _ _
      · rw [z]; exact Nat.le_refl _
    exact I1.fpOk hle (I1.hok.fresh hle)
  exact ⟨N + 1, [N + 1, N], enumTn k1 N, ItN (fun H => k1.ok X.K H xs) xs.length fun i => [.int (i : Nat), xs.getD i .non], H1, rfl, I2, turn_enum l1, ⟨⟨_, hz⟩, SK.st0 k1 hi1⟩, fresh5, q _ fun H' kp => o1.keep kp⟩
theorem di_enum {tpos : Pos} {elts : List Expr} {kk : Nat} (hm : X.mg "enumerate" = none) (ha : DE X E a f) (hg : Gl X "enumerate" := by rfl)
    (hs : starEach [a] X.env = [(false, eval a X.env)] := by rfl) :
    DI X E (.Tuple elts kk tpos) (.Call (.Name "enumerate" p) [a] [] pos) (enumI f) := by
  obtain ⟨t, pt, q⟩ := ha
  refine ⟨_, pi_enumM hg hm (pa_cons pt pa_nil hs) hs, fun σ H σd S ι R hE hS h => ?_⟩
  refine q σ H σd S ι _ hE hS (Wp.bind0 h fun d S1 _ v H1 ι1 p1 r1 h1 => ?_)
  split at h1
  · rename_i xs hx
    obtain ⟨vs, s1, al1, z1⟩ := srcV.of (S := S1) r1 hx
    refine ⟨v, vs, rfl, s1, fun Src hSrc => h1 _ _ _ p1 ?_⟩
    have e : (xs.zipIdx.map fun p => D.py (.tuple [.int (p.2 : Nat), p.1])) = (xs.zipIdx.map fun p => [PyData.int (p.2 : Nat), p.1]).map fun p => D.py (.tuple p) := by rw [List.map_map]; rfl
    rw [e]
    refine walk_new ?_ ?_ hSrc fun i pp hp => ?_
    · rw [List.length_map, List.length_zipIdx, al1.length]
    · rw [List.length_map, List.length_zipIdx]
      exact z1
    · rw [List.getElem?_map, Option.map_eq_some_iff] at hp
      obtain ⟨⟨x, j⟩, h3, rfl⟩ := hp
      rw [List.getElem?_zipIdx, Option.map_eq_some_iff] at h3
      obtain ⟨x', h4, h5⟩ := h3
      cases h5
      obtain ⟨v1, e1, r1⟩ := al1.getR h4
      refine ⟨by show 2 ≤ sizeLine; decide, ?_⟩
      rw [getD_of e1]
      simp only [Nat.zero_add]
      exact .cons (.int _) (.cons r1 .nil)
  · exact h1.elim
end
/-! ### zip of three -/
section
variable {X : Cx} {E : XK} {e a b c : Expr} {f g h : Ex} {pos p : Pos}
end
end DV

set_option maxHeartbeats 4000000
namespace DV
open PySem PySem.Spec PyProof.Rows L2
/-! Defs and their calls, errors raised. -/

/-! ### what a def has made for itself is forgotten -/
section
variable {K : PySem.W.Frag} {ι ι' : List Addr} {H H' : Hp} {S S' : Sto} {v : V} {d : D}
theorem Rd.back (p : ι <+: ι') (h : Rd K ι' H' v d) {v0 : V} (h0 : Rd K ι H v0 d) : Rd K ι H' v d := by
  cases h with
  | py h => exact .py h
  | obj e =>
    cases h0 with
    | obj e0 =>
      have := pre_get p e0
      rw [e] at this
      cases this
      exact .obj e0
  | raw a => exact .raw a
theorem RdAll.back (p : ι <+: ι') : ∀ {vs : List V} {ds : List D}, RdAll K ι' H' vs ds → ∀ {ws : List V}, RdAll K ι H ws ds → RdAll K ι H' vs ds
  | _, _, .nil, _, _ => .nil
  | _, _, .cons h hs, _, .cons h0 hs0 => .cons (h.back p h0) (RdAll.back p hs hs0)
theorem Rd.pure (h : Rd K ι' H' v d) (hp : d.pure = true) : Rd K ι H' v d := by
  cases h with
  | py h => exact .py h
  | obj e => cases hp
  | raw a => exact .raw a
theorem RdAll.pure : ∀ {vs : List V} {ds : List D}, RdAll K ι' H' vs ds → ds.all D.pure = true → RdAll K ι H' vs ds
  | _, _, .nil, _ => .nil
  | _, _, .cons h hs, e => by
    rw [List.all_cons, Bool.and_eq_true] at e
    exact .cons (h.pure e.1) (RdAll.pure hs e.2)
theorem tab_take {S : Sto} {n m : Nat} {o : O} (e : (S.take n)[m]? = some o) : S[m]? = some o := by
  rw [List.getElem?_take] at e
  split at e
  · exact e
  · cases e
theorem gc_post (p : Post K ι H ι' H' S') (hS : StR K ι H S) (hl : S.length ≤ S'.length) (hc : ∀ (i : Nat) (o : O), i < S.length → S'[i]? = some o → S[i]? = some o ∨ o.pure = true) : Post K ι H ι H' (S'.take S.length) := by
  refine ⟨List.prefix_refl _, p.keep, ⟨by rw [List.length_take, hS.len]; omega, hS.nd, fun n a e => p.sto.there n a (pre_get p.pre e), fun n o a e1 e2 => ?_, fun m P q e => p.sto.tb m P q (tab_take e)⟩, fun b vs m q => ⟨(p.frame b vs m q).1, m⟩, p.dom⟩
  have hn : n < S.length := by
    have := (List.getElem?_eq_some_iff.mp e1).1
    rw [List.length_take] at this
    omega
  rw [List.getElem?_take_of_lt hn] at e1
  have z := p.sto.at_ n o a e1 (pre_get p.pre e2)
  rcases hc n o hn e1 with h | h
  · have z0 := hS.at_ n o a h e2
    cases z with
    | gone => exact .gone
    | tab => exact .tab
    | dt a b c => exact .dt a b c
    | dk a b c => exact .dk a b c
    | ins hc a b rr =>
      cases z0 with
      | ins hc0 a0 b0 rr0 => exact .ins hc a b (RdAll.back p.pre rr rr0)
    | tpl a rr =>
      cases z0 with
      | tpl a0 rr0 => exact .tpl a (RdAll.back p.pre rr rr0)
    | lst ha rr =>
      cases z0 with
      | lst ha0 rr0 => exact .lst ha (RdAll.back p.pre rr rr0)
  · cases z with
    | gone => exact .gone
    | tab => exact .tab
    | dt a b c => exact .dt a b c
    | dk a b c => exact .dk a b c
    | ins hc a b rr => exact .ins hc a b (RdAll.pure rr (by
        rw [List.all_map]
        exact h))
    | tpl a rr => exact .tpl a (RdAll.pure rr h)
    | lst ha rr => exact .lst ha (RdAll.pure rr h)
theorem Wp.gcI {mg : Str → Option Value} {E : XK} {α β γ : Type} {rel : List Addr → Hp → α → β → Prop} {b : β} {P : Prop} {Q : α → Hp → Prop} (hS : StR K ι H S) (h : Wp K mg E ι H rel (gc P S S' fun T => R.ok b T) Q)
    (hr : ∀ a H' ι', ι <+: ι' → P → rel ι' H' a b → rel ι H' a b) : ∀ a H' ι', Post K ι H ι' H' S' → rel ι' H' a b → Q a H' := by
  intro a H1 ι1 p r
  unfold gc at h
  split at h
  · rename_i hc
    exact h a H1 ι (gc_post p hS hc.2.1 hc.2.2) (hr a H1 ι1 p.pre hc.1 r)
  · exact h a H1 ι1 p r
theorem WpF.fn {mg : Str → Option Value} {E : XK} {r : F} {Q : VK} (hS : StR K ι H S) (h : Wp K mg E ι H (relD K) (fnR S r) Q) : WpF K mg E ι H r { nx := fun _ H' => Q .non H', rt := Q } := by
  cases r with
  | nx σd S' =>
    intro σ' H1 ι1 p _
    exact Wp.gcI (γ := Unit) (rel := relD K) hS h (fun a H' ι' _ _ r => r.pure rfl) .non H1 ι1 p (.py .non)
  | rt d S' =>
    intro v H1 ι1 p r
    exact Wp.gcI (γ := Unit) (rel := relD K) hS h (fun a H' ι' _ hp r => r.pure hp) v H1 ι1 p r
  | ex c S' =>
    intro H1 ι1 p
    unfold fnR gc at h
    simp only at h
    split at h
    · rename_i hc
      exact h H1 ι (gc_post p hS hc.2.1 hc.2.2)
    · exact h H1 ι1 p
  | bk σ S' => exact h.elim
  | ct σ S' => exact h.elim
  | no => exact h.elim
theorem init_rel (N : List Str) {vs : List V} {ds : List D} (r : RdAll K ι H vs ds) : EnR K ι H (start N vs) (init N.length ds) := by
  unfold L2.start init
  refine ⟨by simp [r.length], fun i d e => ?_⟩
  by_cases hi : i < ds.length
  · rw [List.getElem?_append_left (by simpa using hi)] at e
    rw [List.getElem?_map, Option.map_eq_some_iff] at e
    obtain ⟨d', h1, h2⟩ := e
    cases h2
    obtain ⟨v, hv, rv⟩ := Paired.getR r h1
    exact ⟨v, by rw [List.getElem?_append_left (by simpa [r.length] using hi), List.getElem?_map, hv]; rfl, rv⟩
  · rw [List.getElem?_append_right (by simpa using hi)] at e
    have := List.mem_of_getElem? e
    rw [List.mem_replicate] at this
    cases this.2
end

/-- the promise of a def: it does what F says upon data -/
def spD (K : PySem.W.Frag) (mg : Str → Option Value) (n : Nat) (F : List D → Sto → R D) : Sp := fun vs H Q E => vs.length = n ∧ ∃ ι S ds, StR K ι H S ∧ RdAll K ι H vs ds ∧ Wp K mg E ι H (relD K) (F ds S) Q
structure FnD (P : Program) (w : World) (K : PySem.W.Frag) (mg : Str → Option Value) (base : Heap) (k : Nat) (f : Addr) (fd : FuncData) (ps : List Str) (F : List D → Sto → R D) : Prop where
  run : ∀ (A : Around) (outer : List Env) (s : Shared) (H : Hp) (args : Args) (us : List Value) (vs : List V) (Q : VK) (E : XK), Room k A → A.guards = some [] → Env0 P w K mg base A outer s H → BindsTo s fd args (ps.zip us) → Vals vs us → spD K mg ps.length F vs H Q E →
    codeAny (model P w) A (.call (.ref f) args) (CR (L2.CX P w) outer P w H s Q E) s
theorem FnD.mono {P : Program} {w : World} {K : PySem.W.Frag} {mg : Str → Option Value} {base : Heap} {j k : Nat} {f : Addr} {fd : FuncData} {ps : List Str} {F : List D → Sto → R D} (h : FnD P w K mg base j f fd ps F) (hl : j ≤ k) : FnD P w K mg base k f fd ps F :=
  ⟨fun A outer s H args us vs Q E hr => h.run A outer s H args us vs Q E (hr.mono hl)⟩
section
variable {P : Program} {w : World} {K : PySem.W.Frag} {mg : Str → Option Value} {base : Heap}
/-- the context of a def's body is fit -/
theorem okx_def {N ps : List Str} {qual : Str} {sc : Scope} {f : Addr} {cdv : Value} {A : Around} {outer : List Env} {s : Shared} {H : Hp} {E : XK} {k : Nat} (S : FnScope N ps sc) (hr : Room (k + 1) A) (hg : A.guards = some []) :
    Okx k (cxOf (L2.CX P w) P w K mg base N qual sc f cdv A outer s H E) E where
  calm := rfl
  nd := S.nd
  room := hr.deeper _
  gd := hg
  take := takes_of rfl rfl rfl rfl
  pass := passes_call (takes_of rfl rfl rfl rfl) fun _ _ _ _ h => h
  own := passes_of rfl
theorem dfn {x qual : Str} {st : Stmt} {f : Addr} {fd : FuncData} {N ps : List Str} {k : Nat} {b : Sx} (F : L2.Fun K x qual st f fd) (S : FnScope N ps (defScope st))
    (hbody : ∀ (cdv : Value) (A : Around) (outer : List Env) (s : Shared) (H : Hp) (E : XK), Okx k (cxOf (L2.CX P w) P w K mg base N qual (defScope st) f cdv A outer s H E) E →
      DSs (cxOf (L2.CX P w) P w K mg base N qual (defScope st) f cdv A outer s H E) E (defBody st) b) : FnD P w K mg base (k + 1) f fd ps (fnF N.length b) := by
  obtain ⟨oc, od, kV, doc, pm, an, cdv, ct, osl, rfl, lk, hcd⟩ := F.ex
  refine ⟨fun A outer s H args us vs Q E hr hg e0 hb r hsp => ?_⟩
  obtain ⟨hl, ι, Sd, ds, hS, rr, hw⟩ := hsp
  have KX : K.In s.heap := e0.mod.kin.keeps fun b o e => (e0.bs b o e).1
  have lim : s.heap.NoLimit := e0.mod.nolimit.keeps fun b o e => (e0.bs b o e).1
  have hkind : ∀ y ∈ ps.zip us, (defScope st).names.lookup y.1 = some .local ∨ ((defScope st).names.lookup y.1 = some .cell ∧ ((cellsFrom (s.heap.objs.size + 1) (defScope st).names []).lookup y.1).isSome = true) := fun ⟨n, v⟩ hy => by
    rcases S.par n (List.of_mem_zip hy).1 with q | q
    · exact .inl q
    · exact .inr ⟨q, PySem.W.cellsFrom_some _ _ _ (.inl q)⟩
  refine codeAny_call_function hr.depth (KX _ _ lk) rfl S.co S.gen rfl (PySem.W.codeRec_of KX hcd) (hb _ _ _ _ ?_)
  refine wpAny_newFunctionEnv_cells S.kind hkind fun env he s1 xx => ?_
  subst he
  refine ⟨lim.keeps xx.toInCall.keep, codeAny_func ?_⟩
  obtain ⟨t, ht, hq⟩ := hbody cdv A outer s H E (okx_def S hr hg)
  have I : Inv (cxOf (L2.CX P w) P w K mg base N qual (defScope st) f cdv A outer s H E) [] (start N vs) H s1 := inv_start S hr.hd e0 hl r xx
  refine wpAny_mono (ht.run [] s1 (start N vs) H _ I (hq _ _ _ _ _ _ (init_rel N rr) hS (WpF.fn hS hw))) (fun fl s' hs => ?_) fun e s' hs => hs
  have fin : ∀ {σ' : L2.St} {H' : Hp} {v : V} {u : Value}, Inv (cxOf (L2.CX P w) P w K mg base N qual (defScope st) f cdv A outer s H E) [] σ' H' s' → RelV v u → Q v H' → CE outer P w H s Q u s' :=
    fun {σ' H' v u} J rv q => ⟨v, H', J.os, J.bare, J.base, J.hok, rv, q⟩
  cases fl with
  | ret u =>
    obtain ⟨v, σ', H', J, rv, q⟩ := hs
    exact fin J rv q
  | next =>
    obtain ⟨σ', H', J, q⟩ := hs
    exact fin (v := V.non) (u := Value.none) J rfl q
  | brk =>
    obtain ⟨_, _, _, q⟩ := hs
    exact False.elim q
  | cont =>
    obtain ⟨_, _, _, q⟩ := hs
    exact False.elim q
end

/-! ### calls -/
section
variable {X : Cx} {E : XK} {k j : Nat} {e : Expr} {f : Addr} {es : List Expr} {fs : Ax} {pos p : Pos} {x : Str} {fd : FuncData} {ps : List Str} {F : List D → Sto → R D}
theorem run_fnD {pins : List (Addr × Obj)} {σ : L2.St} {H : Hp} {s : Shared} {Q : VK} {us : List Value} {vs : List V} (o : Okx k X E) (hF : FnD X.prog X.w X.K X.mg X.base j f fd ps F) (hj : j ≤ k) (hb : Binds X.K fd ps []) (I : Inv X pins σ H s) (r : Vals vs us) (h : spD X.K X.mg ps.length F vs H Q E) :
    wpAny (model X.prog X.w) X.A (call (.ref f) us) (EP X pins σ Q) X.xe s := by
  have hl : us.length = ps.length := by rw [← r.length]; exact h.1
  have b := hb s us I.kIn (by rw [List.append_nil]; exact hl)
  rw [List.append_nil] at b
  refine wpAny_call (codeAny_mono (hF.run X.A X.stack s H ⟨us, []⟩ us vs Q E (o.room.mono hj) o.gd I.env0 b r h) fun r s' hq => ?_)
  cases r with
  | error e => exact o.pass pins σ H s e s' I hq
  | ok fl =>
    cases fl with
    | ret u => exact I.after hq
    | next => exact False.elim hq
    | brk => exact False.elim hq
    | cont => exact False.elim hq
/-- where a def of the top stands -/
structure At (K : PySem.W.Frag) (mg : Str → Option Value) (x : Str) (f : Addr) (fd : FuncData) (ps : List Str) : Prop where
  g : mg x = some (.ref f)
  kp : PySem.W.keepIn K (.ref f) = true
  b : Binds K fd ps []
theorem de_call (o : Okx k X E) (hF : FnD X.prog X.w X.K X.mg X.base j f fd ps F) (at_ : At X.K X.mg x f fd ps) (hj : j ≤ k) (ha : DA X E (e :: es) fs) (hn : (e :: es).length = ps.length := by rfl) (hg : Gl X x := by rfl) (hdb : (x == ("__debug__" : Str)) = false := by decide)
    (he : starEach (e :: es) X.env = (false, eval e X.env) :: starEach es X.env := by rfl) (hpl : (backTo pos (starEach es X.env)).any (·.1) = false := by rfl) : DE X E (.Call (.Name x p) (e :: es) [] pos) (callE F fs) := by
  obtain ⟨l, t, pt, q⟩ := ha
  refine ⟨tCall (spD X.K X.mg ps.length F) [] E t, ⟨fun pins s σ H Q I h => ?_⟩, fun σ H σd S ι Q hE hS h => ?_⟩
  · refine wpAny_Call_Name_kw (ld_glob I hg at_.g ?_ hdb)
    refine PySem.W.callWith_K (h₀ := X.base) I.ok.mod.kin at_.kp (thn (pt.run pos pins s σ H _ I h) fun us s1 ⟨vs, H1, I1, r, q⟩ => ⟨I1.kIn, ?_⟩) he hpl
    have q' : spD X.K X.mg ps.length F (vs ++ []) H1 Q E := q
    rw [List.append_nil] at q'
    exact run_fnD o hF hj at_.b I1 r q'
  · refine q σ H σd S ι _ hE hS (Wp.bind h fun ds S1 e1 vs H1 ι1 p1 r1 h1 => ?_)
    rw [List.append_nil]
    exact ⟨by rw [r1.length, l _ _ _ _ e1, hn], ι1, S1, ds, p1.sto, r1, h1⟩
/-! ### errors -/
abbrev veTail : List Value := [.type "ValueError", .type "Exception", .type "BaseException", .type "object"]
structure ExcAt (K : PySem.W.Frag) (mg : Str → Option Value) (x : Str) (C : Addr) : Prop where
  g : mg x = some (.ref C)
  x : PySem.W.excIn K C veTail "ValueError.__new__" = true
  k : PySem.W.keepIn K (.ref C) = true
  b : PySem.W.subIn K (.ref C) (.type "BaseException") = some true
  t : PySem.W.typeIn K (.ref C) = some (.type "type")
theorem ds_raise {C : Addr} {m : Str} {jj : Nat} {p2 : Pos} (o : Okx k X E) (h : ExcAt X.K X.mg x C) (hg : Gl X x := by rfl) (hdb : (x == ("__debug__" : Str)) = false := by decide) : DS X E (.Raise (some (.Call (.Name x p) [.Constant (.str m) jj p2] [] pos)) none pos') (raiseS x) := by
  refine ⟨_, ps_raise o.calm o.take (pmk_own PySem.F.excBase_ValueError h.x h.g h.k (raises_own h.b h.t) hg hdb), fun σ H σd S ι N hE hS hw => ?_⟩
  have e : clsV X.mg x = .ref C := by unfold clsV; rw [h.g]; rfl
  have := hw H ι (.refl hS)
  rw [e] at this
  exact this
end
end DV

set_option maxHeartbeats 4000000
namespace DV
open PySem PySem.Spec PyProof.Rows L2
/-! The law's own call. -/
theorem cx_false {P : Program} {w : World} {l : List Env} {H : Hp} {s : Shared} {e : Value} {s' : Shared} (h : L2.CX P w l H s (fun _ _ _ => False) e s') : False := by
  obtain ⟨_, _, _, _, _, _, _, _, _, _, _, _, z⟩ := h
  exact z
theorem ints_pp {K : PySem.W.Frag} {H : Hp} : ∀ ns : List Int, PpAll K H (ns.map V.int) (ns.map PyData.int)
  | [] => .nil
  | n :: ns => .cons (.int n) (ints_pp ns)
end DV

set_option maxHeartbeats 4000000
namespace DV
open PySem PySem.Spec PyProof.Rows L2 PySem.SeqAt
open AutoSeq1 (wpAny_loadPart')
open MeetsSeq
/-! A text and a dict are unlike. -/
theorem dv_str_eq_dict (b : Str) (u : Tok) (l : Addr) (c : Value) (es : Array DictEntry) (n : Nat) (dd : Option Addr) (sl : Array (Option Value)) :
    Meets (Builtin.«str.__eq__» ⟨[.str b u, .ref l], []⟩) (fun _ R s => s.heap.get? l = some { cls := c, dict := dd, data := .dict es n, slots := sl } ∧ R (.ok (.ret .notImplemented)) s) :=
  .of_wp fun prog w A R s h => by obtain ⟨hp, g, d, tk, os⟩ := s; obtain ⟨hl, h⟩ := h; wp_walk using wpAny_loadPart' hl, wpAny_load hl; exact ⟨_, rfl, h⟩
theorem dv_dict_eq_str (l : Addr) (es : Array DictEntry) (n : Nat) (dd : Option Addr) (sl : Array (Option Value)) (b : Str) (u : Tok) :
    Meets (Builtin.«dict.__eq__» ⟨[.ref l, .str b u], []⟩) (fun _ R s => s.heap.get? l = some { cls := .type "dict", dict := dd, data := .dict es n, slots := sl } ∧ R (.ok (.ret .notImplemented)) s) :=
  .of_wp fun prog w A R s h => by obtain ⟨hp, g, d, tk, os⟩ := s; obtain ⟨hl, h⟩ := h; have f1 := PySem.F.sub_str_dict; wp_walk using wpAny_loadPart' hl; exact ⟨_, rfl, h⟩
theorem dv_str_ne_dict (b : Str) (u : Tok) (l : Addr) (c : Value) (es : Array DictEntry) (n : Nat) (dd : Option Addr) (sl : Array (Option Value)) :
    Meets (Builtin.«str.__ne__» ⟨[.str b u, .ref l], []⟩) (fun _ R s => s.heap.get? l = some { cls := c, dict := dd, data := .dict es n, slots := sl } ∧ R (.ok (.ret .notImplemented)) s) :=
  .of_wp fun prog w A R s h => by obtain ⟨hp, g, d, tk, os⟩ := s; obtain ⟨hl, h⟩ := h; wp_walk using wpAny_loadPart' hl, wpAny_load hl; exact ⟨_, rfl, h⟩
theorem dv_dict_ne_str (l : Addr) (es : Array DictEntry) (n : Nat) (dd : Option Addr) (sl : Array (Option Value)) (b : Str) (u : Tok) :
    Meets (Builtin.«dict.__ne__» ⟨[.ref l, .str b u], []⟩) (fun _ R s => s.heap.get? l = some { cls := .type "dict", dict := dd, data := .dict es n, slots := sl } ∧ R (.ok (.ret .notImplemented)) s) :=
  .of_wp fun prog w A R s h => by obtain ⟨hp, g, d, tk, os⟩ := s; obtain ⟨hl, h⟩ := h; have f1 := PySem.F.sub_str_dict; wp_walk using wpAny_loadPart' hl; exact ⟨_, rfl, h⟩
section
variable {A : Around} {s : Shared} {l : Addr} {dd : Option Addr} {es : Array DictEntry} {n : Nat} {sl : Array (Option Value)}
theorem rc_str_dict (b : Str) (u : Tok) (ho : s.heap.get? l = some { cls := .type "dict", dict := dd, data := .dict es n, slots := sl }) (hu : A.units < cLine) : RcAt A s (.str b u) (.ref l) false := fun prog w E Q h =>
  rc_eq_decline_or (k := false) (typeIs_str s b u) ⟨_, ho, rfl⟩ (by decide) PySem.F.sub_dict_str PySem.F.slot_str_eq PySem.F.slot_dict_eq_refl
    (fun _ hq => call_meets PySem.F.slot_str_eq (typeIs_str s b u) PySem.F.entry_str_eq (PySem.F.args_str_eq_2 _ _) (dv_str_eq_dict b u l (.type "dict") es n dd sl) ⟨ho, hq⟩)
    (fun _ hq => call_meets PySem.F.slot_dict_eq_refl ⟨_, ho, rfl⟩ PySem.F.entry_dict_eq (PySem.F.args_dict_eq_2 _ _) (dv_dict_eq_str l es n dd sl b u) ⟨ho, hq⟩)
    (fun _ hq => wpAny_of_eq (rfl : isSame (.str b u) (.ref l) = pure false) hq) (.inr hu) h
theorem rc_dict_str (b : Str) (u : Tok) (ho : s.heap.get? l = some { cls := .type "dict", dict := dd, data := .dict es n, slots := sl }) (hu : A.units < cLine) : RcAt A s (.ref l) (.str b u) false := fun prog w E Q h =>
  rc_eq_decline_or (k := false) ⟨_, ho, rfl⟩ (typeIs_str s b u) (by decide) PySem.F.sub_str_dict PySem.F.slot_dict_eq PySem.F.slot_str_eq_refl
    (fun _ hq => call_meets PySem.F.slot_dict_eq ⟨_, ho, rfl⟩ PySem.F.entry_dict_eq (PySem.F.args_dict_eq_2 _ _) (dv_dict_eq_str l es n dd sl b u) ⟨ho, hq⟩)
    (fun _ hq => call_meets PySem.F.slot_str_eq_refl (typeIs_str s b u) PySem.F.entry_str_eq (PySem.F.args_str_eq_2 _ _) (dv_str_eq_dict b u l (.type "dict") es n dd sl) ⟨ho, hq⟩)
    (fun _ hq => wpAny_of_eq (rfl : isSame (.ref l) (.str b u) = pure false) hq) (.inr hu) h
theorem rn_str_dict (b : Str) (u : Tok) (ho : s.heap.get? l = some { cls := .type "dict", dict := dd, data := .dict es n, slots := sl }) (hu : A.units < cLine) : RcNeAt A s (.str b u) (.ref l) true := fun prog w E Q h =>
  rc_ne_decline_or (k := false) (typeIs_str s b u) ⟨_, ho, rfl⟩ (by decide) PySem.F.sub_dict_str PySem.F.slot_str_ne PySem.F.slot_dict_ne_refl
    (fun _ hq => call_meets PySem.F.slot_str_ne (typeIs_str s b u) PySem.F.entry_str_ne (PySem.F.args_str_ne_2 _ _) (dv_str_ne_dict b u l (.type "dict") es n dd sl) ⟨ho, hq⟩)
    (fun _ hq => call_meets PySem.F.slot_dict_ne_refl ⟨_, ho, rfl⟩ PySem.F.entry_dict_ne (PySem.F.args_dict_ne_2 _ _) (dv_dict_ne_str l es n dd sl b u) ⟨ho, hq⟩)
    (fun _ hq => wpAny_of_eq (rfl : isSame (.str b u) (.ref l) = pure false) hq) (.inr hu) h
theorem rn_dict_str (b : Str) (u : Tok) (ho : s.heap.get? l = some { cls := .type "dict", dict := dd, data := .dict es n, slots := sl }) (hu : A.units < cLine) : RcNeAt A s (.ref l) (.str b u) true := fun prog w E Q h =>
  rc_ne_decline_or (k := false) ⟨_, ho, rfl⟩ (typeIs_str s b u) (by decide) PySem.F.sub_str_dict PySem.F.slot_dict_ne PySem.F.slot_str_ne_refl
    (fun _ hq => call_meets PySem.F.slot_dict_ne ⟨_, ho, rfl⟩ PySem.F.entry_dict_ne (PySem.F.args_dict_ne_2 _ _) (dv_dict_ne_str l es n dd sl b u) ⟨ho, hq⟩)
    (fun _ hq => call_meets PySem.F.slot_str_ne_refl (typeIs_str s b u) PySem.F.entry_str_ne (PySem.F.args_str_ne_2 _ _) (dv_str_ne_dict b u l (.type "dict") es n dd sl) ⟨ho, hq⟩)
    (fun _ hq => wpAny_of_eq (rfl : isSame (.ref l) (.str b u) = pure false) hq) (.inr hu) h
end
/-- one is a text, the other one a dict -/
def TxDk (H : Hp) (x y : V) : Prop := (∃ z a o kvs, x = .str z ∧ y = .ref a ∧ H a = some (.frz o (.dK kvs))) ∨ ∃ z a o kvs, x = .ref a ∧ y = .str z ∧ H a = some (.frz o (.dK kvs))
theorem dk_obj {X : Cx} {pins : List (Addr × Obj)} {σ : L2.St} {H : Hp} {s : Shared} (I : Inv X pins σ H s) {a : Addr} {o : Obj} {kvs : List (Key × V)} (e : H a = some (.frz o (.dK kvs))) : ∃ es n, s.heap.get? a = some { cls := .type "dict", dict := none, data := .dict es n, slots := #[] } := by
  obtain ⟨_, _, vs, _, ⟨⟨c, d, dt, sl⟩, es, ep, ho, ⟨hc, hn, hs⟩, hd, _⟩⟩ := dk_rd I.hok (.inr ⟨o, e⟩)
  simp only at hc hn hs hd
  subst hc hn hs hd
  exact ⟨es, ep, ho⟩
theorem op_eqSD {X : Cx} (hu : X.A.units + 64 < cLine) : OpR X (compareOp .Eq) (fun x y H Q => TxDk H x y ∧ Q (.bl false) H) := by
  intro pins s σ H x y v u Q I rx ry h
  obtain ⟨h, q⟩ := h
  rcases h with ⟨z, a, o, kvs, rfl, rfl, e⟩ | ⟨z, a, o, kvs, rfl, rfl, e⟩
  · obtain ⟨t, rfl⟩ := rx
    cases ry
    obtain ⟨es, n, ho⟩ := dk_obj I e
    exact rc_str_dict z t ho (by omega) X.prog X.w _ _ ⟨.bl _, H, I, rfl, q⟩
  · obtain ⟨t, rfl⟩ := ry
    cases rx
    obtain ⟨es, n, ho⟩ := dk_obj I e
    exact rc_dict_str z t ho (by omega) X.prog X.w _ _ ⟨.bl _, H, I, rfl, q⟩
theorem op_neSD {X : Cx} (hu : X.A.units + 64 < cLine) : OpR X (compareOp .NotEq) (fun x y H Q => TxDk H x y ∧ Q (.bl true) H) := by
  intro pins s σ H x y v u Q I rx ry h
  obtain ⟨h, q⟩ := h
  rcases h with ⟨z, a, o, kvs, rfl, rfl, e⟩ | ⟨z, a, o, kvs, rfl, rfl, e⟩
  · obtain ⟨t, rfl⟩ := rx
    cases ry
    obtain ⟨es, n, ho⟩ := dk_obj I e
    exact rn_str_dict z t ho (by omega) X.prog X.w _ _ ⟨.bl _, H, I, rfl, q⟩
  · obtain ⟨t, rfl⟩ := ry
    cases rx
    obtain ⟨es, n, ho⟩ := dk_obj I e
    exact rn_dict_str z t ho (by omega) X.prog X.w _ _ ⟨.bl _, H, I, rfl, q⟩
/-- surely unlike, whatever stands within -/
def Off (K : PySem.W.Frag) (H : Hp) (x y : V) : Prop := TxDk H x y ∨ (∃ z a xs, x = .str z ∧ y = .ref a ∧ (SqL K H a xs ∨ SqT K H a xs)) ∨ (∃ z a xs, x = .ref a ∧ y = .str z ∧ (SqL K H a xs ∨ SqT K H a xs)) ∨
  (∃ a b xs ys, x = .ref a ∧ y = .ref b ∧ SqT K H a xs ∧ SqT K H b ys ∧ (xs = [] ∨ ys = []) ∧ xs.length ≠ ys.length) ∨ ∃ a b xs ys, x = .ref a ∧ y = .ref b ∧ SqL K H a xs ∧ SqL K H b ys ∧ xs.length ≠ ys.length
theorem op_eqOff {X : Cx} (hu : X.A.units + 64 < cLine) : OpR X (compareOp .Eq) (fun x y H Q => Off X.K H x y ∧ Q (.bl false) H) := by
  intro pins s σ H x y v u Q I rx ry h
  obtain ⟨h, q⟩ := h
  rcases h with h | ⟨z, a, xs, rfl, rfl, e⟩ | ⟨z, a, xs, rfl, rfl, e⟩ | ⟨a, b, xs, ys, rfl, rfl, e1, e2, em, hl⟩ | ⟨a, b, xs, ys, rfl, rfl, e1, e2, hl⟩
  · exact op_eqSD hu pins s σ H x y v u Q I rx ry ⟨h, q⟩
  · obtain ⟨t, rfl⟩ := rx
    cases ry
    rcases e with e | e
    · obtain ⟨its, r, pl, hz⟩ := I.list e
      exact RcAt.str_list z t pl.isList (by omega) X.prog X.w _ _ ⟨.bl _, H, I, rfl, q⟩
    · obtain ⟨its, r, pl, hz⟩ := I.tuple e
      exact RcAt.str_tuple z t pl (by omega) X.prog X.w _ _ ⟨.bl _, H, I, rfl, q⟩
  · obtain ⟨t, rfl⟩ := ry
    cases rx
    rcases e with e | e
    · obtain ⟨its, r, pl, hz⟩ := I.list e
      exact RcAt.list_str z t pl.isList (by omega) X.prog X.w _ _ ⟨.bl _, H, I, rfl, q⟩
    · obtain ⟨its, r, pl, hz⟩ := I.tuple e
      exact RcAt.tuple_str z t pl (by omega) X.prog X.w _ _ ⟨.bl _, H, I, rfl, q⟩
  · cases rx
    cases ry
    obtain ⟨its, r, pl, hz⟩ := I.tuple e1
    obtain ⟨its2, r2, pl2, hz2⟩ := I.tuple e2
    have l1 := r.length
    have l2 := r2.length
    have hm : min its.toArray.size its2.toArray.size = 0 := by
      rw [List.size_toArray, List.size_toArray]
      rcases em with rfl | rfl
      · simp at l1; omega
      · simp at l2; omega
    have hz : (its.toArray.size == its2.toArray.size) = false := by
      rw [List.size_toArray, List.size_toArray, beq_eq_false_iff_ne]
      omega
    have := RcAt.tuples (e := fun _ => true) (A := X.A) pl pl2 (by omega) (fun j h1 h2 => absurd (Nat.lt_min.mpr ⟨h1, h2⟩) (by omega))
    rw [hz, Bool.and_false] at this
    exact this X.prog X.w _ _ ⟨.bl _, H, I, rfl, q⟩
  · cases rx
    cases ry
    obtain ⟨its, r, pl, hz⟩ := I.list e1
    obtain ⟨its2, r2, pl2, hz2⟩ := I.list e2
    have l1 := r.length
    have l2 := r2.length
    exact RcAt.lists_lengths pl.isList pl2.isList (by rw [List.size_toArray, List.size_toArray, bne_iff_ne]; omega) (by omega) X.prog X.w _ _ ⟨.bl _, H, I, rfl, q⟩
theorem op_neOff {X : Cx} (hu : X.A.units + 64 < cLine) : OpR X (compareOp .NotEq) (fun x y H Q => Off X.K H x y ∧ Q (.bl true) H) := by
  intro pins s σ H x y v u Q I rx ry h
  obtain ⟨h, q⟩ := h
  rcases h with h | ⟨z, a, xs, rfl, rfl, e⟩ | ⟨z, a, xs, rfl, rfl, e⟩ | ⟨a, b, xs, ys, rfl, rfl, e1, e2, em, hl⟩ | ⟨a, b, xs, ys, rfl, rfl, e1, e2, hl⟩
  · exact op_neSD hu pins s σ H x y v u Q I rx ry ⟨h, q⟩
  · obtain ⟨t, rfl⟩ := rx
    cases ry
    rcases e with e | e
    · obtain ⟨its, r, pl, hz⟩ := I.list e
      exact RcNeAt.str_list z t pl.isList (by omega) X.prog X.w _ _ ⟨.bl _, H, I, rfl, q⟩
    · obtain ⟨its, r, pl, hz⟩ := I.tuple e
      exact RcNeAt.str_tuple z t pl (by omega) X.prog X.w _ _ ⟨.bl _, H, I, rfl, q⟩
  · obtain ⟨t, rfl⟩ := ry
    cases rx
    rcases e with e | e
    · obtain ⟨its, r, pl, hz⟩ := I.list e
      exact RcNeAt.list_str z t pl.isList (by omega) X.prog X.w _ _ ⟨.bl _, H, I, rfl, q⟩
    · obtain ⟨its, r, pl, hz⟩ := I.tuple e
      exact RcNeAt.tuple_str z t pl (by omega) X.prog X.w _ _ ⟨.bl _, H, I, rfl, q⟩
  · cases rx
    cases ry
    obtain ⟨its, r, pl, hz⟩ := I.tuple e1
    obtain ⟨its2, r2, pl2, hz2⟩ := I.tuple e2
    have l1 := r.length
    have l2 := r2.length
    have hm : min its.toArray.size its2.toArray.size = 0 := by
      rw [List.size_toArray, List.size_toArray]
      rcases em with rfl | rfl
      · simp at l1; omega
      · simp at l2; omega
    have hz : (its.toArray.size == its2.toArray.size) = false := by
      rw [List.size_toArray, List.size_toArray, beq_eq_false_iff_ne]
      omega
    have := RcNeAt.tuples (e := fun _ => true) (A := X.A) pl pl2 (by omega) (fun j h1 h2 => absurd (Nat.lt_min.mpr ⟨h1, h2⟩) (by omega))
    rw [hz, Bool.and_false, Bool.not_false] at this
    exact this X.prog X.w _ _ ⟨.bl _, H, I, rfl, q⟩
  · cases rx
    cases ry
    obtain ⟨its, r, pl, hz⟩ := I.list e1
    obtain ⟨its2, r2, pl2, hz2⟩ := I.list e2
    have l1 := r.length
    have l2 := r2.length
    exact RcNeAt.lists_lengths pl.isList pl2.isList (by rw [List.size_toArray, List.size_toArray, bne_iff_ne]; omega) (by omega) X.prog X.w _ _ ⟨.bl _, H, I, rfl, q⟩
theorem eq_str_dict {A : Around} {s : Shared} {l : Addr} {dd : Option Addr} {es : Array DictEntry} {n : Nat} {sl : Array (Option Value)} (b : Str) (u : Tok)
    (ho : s.heap.get? l = some { cls := .type "dict", dict := dd, data := .dict es n, slots := sl }) (hu : A.units < cLine) : EqAt A s (.str b u) (.ref l) false := fun prog w E Q h => by
  unfold eqBool
  refine wpAny_holding ?_
  refine wpAny_ite_split (fun hab => absurd (eq_of_beq hab) nofun) (fun _ => ?_)
  exact wpAny_bind (rc_str_dict b u ho hu prog w E _ (wpAny_truthy_bool h))
/-- a dict, a tuple, a list among texts: it is none of them -/
def DkIn (K : PySem.W.Frag) (H : Hp) (x y : V) : Prop := ∃ a b xs, x = .ref a ∧ ((∃ o kvs, H a = some (.frz o (.dK kvs))) ∨ ∃ zs, SqL K H a zs ∨ SqT K H a zs) ∧ y = .ref b ∧ SqL K H b xs ∧ ∀ v ∈ xs, ∃ z, v = V.str z
theorem eq_str_off {X : Cx} {pins : List (Addr × Obj)} {σ : L2.St} {H : Hp} {s : Shared} (I : Inv X pins σ H s) {a : Addr} (h : (∃ o kvs, H a = some (.frz o (.dK kvs))) ∨ ∃ zs, SqL X.K H a zs ∨ SqT X.K H a zs) {A : Around} (hu : A.units < cLine) (b : Str) (u : Tok) : EqAt A s (.str b u) (.ref a) false := by
  rcases h with ⟨o, kvs, e⟩ | ⟨zs, e | e⟩
  · obtain ⟨es, n, ho⟩ := dk_obj I e
    exact eq_str_dict b u ho hu
  · obtain ⟨its, r, pl, hz⟩ := I.list e
    exact EqAt.str_list b u pl.isList hu
  · obtain ⟨its, r, pl, hz⟩ := I.tuple e
    exact EqAt.str_tuple b u pl hu
theorem vals_strs : ∀ {xs : List V} {us : List Value}, Vals xs us → (∀ v ∈ xs, ∃ z, v = V.str z) → ∀ u ∈ us, ∃ z t, u = Value.str z t
  | _, _, .nil, _, u, hu => by cases hu
  | _, _, .cons r rs, h, u, hu => by
    rcases List.mem_cons.mp hu with rfl | hu
    · obtain ⟨z, rfl⟩ := h _ (List.mem_cons_self ..)
      obtain ⟨t, rfl⟩ := r
      exact ⟨z, t, rfl⟩
    · exact vals_strs rs (fun v hv => h v (List.mem_cons_of_mem _ hv)) u hu
theorem any_false (us : Array Value) : us.any (fun _ => false) = false := by simp
theorem op_inSD {X : Cx} (hu : X.A.units + 65 < cLine) : OpR X (compareOp .In) (fun x y H Q => DkIn X.K H x y ∧ Q (.bl false) H) := by
  intro pins s σ H x y v u Q I rx ry h
  obtain ⟨⟨a, b, xs, rfl, e, rfl, hs, hx⟩, q⟩ := h
  cases rx
  cases ry
  obtain ⟨its, rv, ⟨ol, m, hol, hc, _, hd⟩, _⟩ := I.list hs
  have hst := vals_strs rv hx
  refine in_listAt (fun _ => false) ⟨ol, hol, hc, m, hd⟩ (fun y hy => ?_) ?_
  · obtain ⟨z, t, rfl⟩ := hst y (by simpa using hy)
    exact eq_str_off I e (by have : X.A.in1.units = X.A.units + 1 := rfl; omega) z t
  · rw [any_false]
    exact ⟨.bl _, H, I, rfl, q⟩
end DV

set_option maxHeartbeats 4000000
/-! Tuples made in the run, their objects known. -/
namespace DV
open PySem PySem.Spec PyProof.Rows L2
abbrev tupB (us : List Value) : Obj := { cls := .type "tuple", data := .seq us.toArray }
section
variable {X : Cx} {pins : List (Addr × Obj)} {σ : L2.St} {H : Hp} {s : Shared} {xs : List V} {us : List Value} {Q : VK}
/-- a tuple is laid behind all that stands -/
theorem lay_tupF (I : Inv X pins σ H s) (r : Vals xs us) (hz : xs.length ≤ sizeLine) (q : ∀ p (o : Obj), o.dict = none → H p = none → Q (.ref p) (upd H p (.frz o (.tup xs)))) : EP X pins σ Q (.ref s.heap.objs.size) { s with heap := s.heap.push (tupB us) } :=
  ⟨.ref s.heap.objs.size, _, I.laid (t' := s.toks) (fun b u e => Heap.get?_push_of_some _ e) (Nat.le_refl _) (tupF_ok hz r (Heap.get?_push_size _ rfl) rfl rfl), rfl, q _ (tupB us) rfl (I.hok.fresh (Nat.le_refl _))⟩
end
section
variable {X : Cx}
/-- divmod -/
theorem call_divmodF : CallR X (.builtin "divmod") (fun xs H Q => ∃ i j, xs = [.int i, .int j] ∧ CDiv i j ∧ ∀ p (o : Obj), o.dict = none → H p = none → Q (.ref p) (upd H p (.frz o (.tup [.int (i / j), .int (i % j)])))) := by
  intro pins s σ H xs us Q I r h
  obtain ⟨i, j, rfl, hij, q⟩ := h
  obtain ⟨a, b, rfl, ⟨t, rfl⟩, ⟨t', rfl⟩⟩ := vals2 r
  have j0 : 0 ≤ j := by have := hij.1; omega
  refine divmod_int (by have := hij.1; omega) ?_ (.inl (PyProof.noPylong_small (by have := hij.2; omega)))
  rw [Int.fdiv_eq_ediv_of_nonneg i j0, Int.fmod_eq_emod_of_nonneg i j0]
  exact lay_tupF (xs := [.int (i / j), .int (i % j)]) (us := [.int (i / j) s.toks, .int (i % j) (s.toks + 1)]) (s := { s with toks := s.toks + 2 }) (I.tok _) (.cons ⟨_, rfl⟩ (.cons ⟨_, rfl⟩ .nil)) (by show 2 ≤ sizeLine; decide) q
/-- tuple(x) -/
theorem call_tupleF : CallR X (.type "tuple") (fun xs H Q => ∃ p ys, xs = [.ref p] ∧ ((SqL X.K H p ys ∧ (ys.length ≤ sizeLine → ∀ l (o : Obj), o.dict = none → H l = none → Q (.ref l) (upd H l (.frz o (.tup ys))))) ∨ (SqT X.K H p ys ∧ Q (.ref p) H))) := by
  intro pins s σ H xs us Q I r h
  obtain ⟨p, ys, rfl, h⟩ := h
  rcases h with ⟨hl, q⟩ | ⟨ht, q⟩
  · obtain ⟨u, rfl, rx⟩ := vals1 r
    cases rx
    obtain ⟨its, rv, pl, hz⟩ := I.list hl
    refine call_tuple_list pl.isList (fun h' kp => ?_) (by rw [List.size_toArray, ← rv.length]; exact hz)
    exact lay_tupF (s := { s with heap := h' }) (I.kept (t' := s.toks) kp) rv hz (q hz)
  · exact call_tuple_of pins s σ H _ us Q I r ⟨p, ys, rfl, .inr ⟨ht, q⟩⟩
/-- t + u -/
theorem op_catS : OpR X (binaryOp .Add) (fun x y H Q => ∃ a b xs ys, x = V.ref a ∧ y = V.ref b ∧ SqT X.K H a xs ∧ SqT X.K H b ys ∧ xs.length + ys.length ≤ sizeLine ∧
    (xs = [] → Q (.ref b) H) ∧ (xs ≠ [] → ys = [] → Q (.ref a) H) ∧ (xs ≠ [] → ys ≠ [] → ∀ p (o : Obj), o.dict = none → H p = none → Q (.ref p) (upd H p (.frz o (.tup (xs ++ ys)))))) := by
  intro pins s σ H x y v u Q I rx ry h
  obtain ⟨a, b, xs, ys, rfl, rfl, ha, hb, hz, q0, q1, q2⟩ := h
  by_cases hx : xs = []
  · exact op_catA pins s σ H _ _ v u Q I rx ry ⟨a, b, xs, ys, rfl, rfl, ha, hb, hz, q0, q1, fun z => absurd hx z⟩
  cases rx
  cases ry
  obtain ⟨vs, r1, p1, _⟩ := I.tuple ha
  obtain ⟨ws, r2, p2, _⟩ := I.tuple hb
  refine HT.cat_tup p1 p2 (fun z => hx (r1.nil_iff.mp z)) (fun z => ⟨.ref a, H, I, rfl, q1 hx (r2.nil_iff.mp z)⟩) (fun z => ?_) (by rw [← r1.length, ← r2.length]; exact hz)
  exact lay_tupF I (r1.append r2) (by rw [List.length_append]; exact hz) (q2 hx fun e => z (r2.nil_iff.mpr e))
/-- t[lo:hi] -/
theorem sl_tupS : SlR X (fun x lo hi H Q => ∃ a xs, x = .ref a ∧ SqT X.K H a xs ∧
    (HT.sIx xs.length 0 lo = 0 ∧ HT.sIx xs.length xs.length hi = xs.length → Q (.ref a) H) ∧ (¬ (HT.sIx xs.length 0 lo = 0 ∧ HT.sIx xs.length xs.length hi = xs.length) → ∀ p (o : Obj), o.dict = none → H p = none → Q (.ref p) (upd H p (.frz o (.tup (cutV xs lo hi)))))) := by
  intro pins s σ H x v vl vu lo hi sl Q I rx hs pl pu h
  obtain ⟨a, xs, rfl, hx, q1, q2⟩ := h
  by_cases hw : HT.sIx xs.length 0 lo = 0 ∧ HT.sIx xs.length xs.length hi = xs.length
  · exact sl_tupA pins s σ H _ v vl vu lo hi sl Q I rx hs pl pu ⟨a, xs, rfl, hx, q1, fun z => absurd hw z⟩
  cases rx
  obtain ⟨its, r, ht, hz⟩ := I.tuple hx
  have hlen : its.toArray.size = xs.length := by rw [List.size_toArray]; exact r.length.symm
  refine ⟨"tuple", _, PyProof.Rows.slot_tuple_getitem.lookup, ht.typeIs, HT.getItem_tuple_cut ht hs pl pu (by rw [hlen]; exact hw) ?_ (by rw [hlen]; exact hz)⟩
  rw [hlen]
  exact lay_tupF I ((r.drop _).take _) (Nat.le_trans (cutV_length xs lo hi) hz) (q2 hw)
end
end DV

set_option maxHeartbeats 4000000
namespace DV
open PySem PySem.Spec PyProof.Rows L2
/-! Operators, built-ins, methods by values. -/
section
variable {X : Cx}
theorem dop_int {o : Value → Value → Sem Value} {gi : Int → Int → PyData} {gv : Int → Int → V} {C : Int → Int → Prop} [∀ i j, Decidable (C i j)] (h : OpR X o (rI C gv)) (hg : ∀ K H i j, Pp K H (gv i j) (gi i j)) {g : D → D → Sto → R D}
    (eg : ∀ d e S, g d e S = match d, e with
      | .py (.int i), .py (.int j) => if C i j then .ok (.py (gi i j)) S else .no
      | _, _ => .no) : DOp X o g := by
  refine ⟨_, h, fun x y d e H S ι E Q hS rx ry hw => ?_⟩
  rw [eg] at hw
  split at hw
  · split at hw
    · rename_i hc
      exact ⟨_, _, int_of rx, int_of ry, hc, hw _ _ _ (.refl hS) (.py (hg _ _ _ _))⟩
    · exact hw.elim
  · exact hw.elim
theorem dop_int0 {o : Value → Value → Sem Value} {gi : Int → Int → PyData} {gv : Int → Int → V} (h : OpR X o (rI0 gv)) (hg : ∀ K H i j, Pp K H (gv i j) (gi i j)) {g : D → D → Sto → R D}
    (eg : ∀ d e S, g d e S = match d, e with
      | .py (.int i), .py (.int j) => .ok (.py (gi i j)) S
      | _, _ => .no) : DOp X o g := by
  refine ⟨_, h, fun x y d e H S ι E Q hS rx ry hw => ?_⟩
  rw [eg] at hw
  split at hw
  · exact ⟨_, _, int_of rx, int_of ry, hw _ _ _ (.refl hS) (.py (hg _ _ _ _))⟩
  · exact hw.elim
theorem do_sub : DOp X (binaryOp .Sub) subD := dop_int0 op_sub (fun _ _ i j => .int (i - j)) fun d e S => by cases d with | obj _ => rfl | raw _ => rfl | py d => cases d <;> first | rfl | (cases e with | obj _ => rfl | raw _ => rfl | py e => cases e <;> rfl)
instance (i j : Int) : Decidable (CMul i j) := by unfold CMul; exact inferInstance
instance (i j : Int) : Decidable (CDiv i j) := by unfold CDiv; exact inferInstance
instance (i j : Int) : Decidable (CPow i j) := by unfold CPow; exact inferInstance
theorem do_mul : DOp X (binaryOp .Mult) mulD := dop_int op_mul (fun _ _ i j => .int (i * j)) fun d e S => by cases d with | obj _ => rfl | raw _ => rfl | py d => cases d <;> first | rfl | (cases e with | obj _ => rfl | raw _ => rfl | py e => cases e <;> rfl)
theorem do_fdiv : DOp X (binaryOp .FloorDiv) fdivD := dop_int op_fdiv (fun _ _ i j => .int (i / j)) fun d e S => by cases d with | obj _ => rfl | raw _ => rfl | py d => cases d <;> first | rfl | (cases e with | obj _ => rfl | raw _ => rfl | py e => cases e <;> rfl)
theorem do_mod : DOp X (binaryOp .Mod) modD := dop_int op_mod (fun _ _ i j => .int (i % j)) fun d e S => by cases d with | obj _ => rfl | raw _ => rfl | py d => cases d <;> first | rfl | (cases e with | obj _ => rfl | raw _ => rfl | py e => cases e <;> rfl)
theorem do_pow : DOp X (binaryOp .Pow) powD := dop_int op_pow (fun _ _ i j => .int (i ^ j.toNat)) fun d e S => by cases d with | obj _ => rfl | raw _ => rfl | py d => cases d <;> first | rfl | (cases e with | obj _ => rfl | raw _ => rfl | py e => cases e <;> rfl)
theorem do_le : DOp X (compareOp .LtE) (cmpI fun i j => decide (i ≤ j)) := dop_int0 op_le (fun _ _ i j => .bl _) fun d e S => by cases d with | obj _ => rfl | raw _ => rfl | py d => cases d <;> first | rfl | (cases e with | obj _ => rfl | raw _ => rfl | py e => cases e <;> rfl)
theorem do_gt : DOp X (compareOp .Gt) (cmpI fun i j => decide (j < i)) := dop_int0 op_gt (fun _ _ i j => .bl _) fun d e S => by cases d with | obj _ => rfl | raw _ => rfl | py d => cases d <;> first | rfl | (cases e with | obj _ => rfl | raw _ => rfl | py e => cases e <;> rfl)
theorem du_neg : DUn X (unaryOp .USub) negD := ⟨_, un_neg, fun x d H S ι E Q hS rx hw => by
  unfold negD at hw
  split at hw
  · exact ⟨_, int_of rx, hw _ _ _ (.refl hS) (.py (.int _))⟩
  · exact hw.elim⟩
/-! ### lists and tuples put together -/
theorem op_catF : OpR X (binaryOp .Add) (fun x y H Q => ∃ l b xs zs, x = .ref l ∧ y = .ref b ∧ SqL X.K H l xs ∧ SqL X.K H b zs ∧ xs.length + zs.length ≤ sizeLine ∧ ∀ p o, H p = none → Q (.ref p) (upd H p (.frz o (.lst (xs ++ zs))))) := by
  intro pins s σ H x y v u Q I rx ry h
  obtain ⟨l, b, xs, zs, rfl, rfl, hl, hb, hz, q⟩ := h
  cases rx
  cases ry
  obtain ⟨its, r, ⟨⟨c1, d1, dt1, s1⟩, n1, e1, hc1, hd1, hs1⟩, _⟩ := I.list hl
  obtain ⟨its2, r2, ⟨⟨c2, d2, dt2, s2⟩, n2, e2, hc2, hd2, hs2⟩, _⟩ := I.list hb
  simp only at hc1 hd1 hs1 hc2 hd2 hs2
  subst hc1 hd1 hs1 hc2 hd2 hs2
  refine concat_meets ⟨_, e1, rfl⟩ ⟨_, e2, rfl⟩ noFill_list_add seq_list_add PySem.F.slot_list_add PySem.F.entry_list_add (PySem.F.args_list_add_2 _ _) (list_addW l b its.toArray its2.toArray n1 n2 none none s1 s2 (by rw [List.size_toArray, List.size_toArray, ← r.length, ← r2.length]; exact hz)) ⟨e1, e2, ?_⟩
  have ea : its.toArray ++ its2.toArray = (its ++ its2).toArray := by simp
  rw [ea]
  have I2 := I.lnew (t' := s.toks) (r.append r2) (by rw [List.length_append]; exact hz)
  obtain ⟨o, I3⟩ := I2.lock upd_same trivial
  rw [upd_upd] at I3
  exact ⟨.ref _, _, I3, rfl, q _ o I.fresh⟩
theorem do_add : DOp X (binaryOp .Add) addD := by
  refine ⟨_, ((op_add (X := X)).or (op_add_str (X := X))).or ((op_catF (X := X)).or (op_catS (X := X))), fun x y d e H S ι E Q hS rx ry hw => ?_⟩
  unfold addD at hw
  split at hw
  · exact .inl (.inl ⟨_, _, int_of rx, int_of ry, hw _ _ _ (.refl hS) (.py (.int _))⟩)
  · split at hw
    · rename_i hz
      exact .inl (.inr ⟨_, _, str_of rx, str_of ry, hz, hw _ _ _ (.refl hS) (.py (.str _))⟩)
    · exact hw.elim
  · split at hw
    · rename_i xs ys S hz
      cases rx with
      | py rx =>
        cases rx with
        | lst h1 z1 a1 =>
          cases ry with
          | py ry =>
            cases ry with
            | lst h2 z2 a2 =>
              refine .inr (.inl ⟨_, _, _, _, rfl, rfl, h1.sq, h2.sq, by rw [a1.length, a2.length]; exact hz, fun p o hp => hw _ _ _ (.new hS hp) (.py (.lst (.inl ⟨o, upd_same⟩) (by rw [List.length_append]; exact hz) ?_))⟩)
              exact (a1.append a2).keep (.new hp)
    · exact hw.elim
  · split at hw
    · rename_i xs ys S hz
      cases rx with
      | py rx =>
        cases rx with
        | tup h1 z1 a1 =>
          cases ry with
          | py ry =>
            cases ry with
            | tup h2 z2 a2 =>
              refine .inr (.inr ⟨_, _, _, _, rfl, rfl, h1.sq, h2.sq, by rw [a1.length, a2.length]; exact hz, fun e0 => ?_, fun _ e0 => ?_, fun _ _ p o ho hp => hw _ _ _ (.new hS hp) (.py (.tup (.new ho) (by rw [List.length_append]; exact hz) ?_))⟩)
              · subst e0
                cases a1
                exact hw _ _ _ (.refl hS) (.py (.tup h2 z2 a2))
              · subst e0
                cases a2
                rw [List.append_nil] at hw
                exact hw _ _ _ (.refl hS) (.py (.tup h1 z1 a1))
              · exact (a1.append a2).keep (.new hp)
    · exact hw.elim
  · exact hw.elim
/-! ### == -/
theorem flat_scal {K : PySem.W.Frag} {H : Hp} {x y : V} {d e : PyData} {k : Bool} (rx : Pp K H x d) (ry : Pp K H y e) (h : flatD d e = some k) : scal x y = true ∧ decide (x = y) = k := by
  cases rx <;> cases ry <;> simp [flatD] at h <;> subst h <;> simp [scal]
theorem txdk_of {K : PySem.W.Frag} {H : Hp} {x y : V} {d e : PyData} (rx : Pp K H x d) (ry : Pp K H y e) (h : dkTx d e = true) : TxDk H x y := by
  cases rx <;> cases ry <;> simp [dkTx] at h
  · rename_i z a o kvs ds e _ _
    exact .inl ⟨_, _, _, _, rfl, rfl, e⟩
  · rename_i a o kvs ds e _ _ z
    exact .inr ⟨_, _, _, _, rfl, rfl, e⟩
theorem off_of {K : PySem.W.Frag} {H : Hp} {x y : V} {d e : PyData} (rx : Pp K H x d) (ry : Pp K H y e) (h : offB d e = true) : Off K H x y := by
  cases rx <;> cases ry
  case str.dic => exact .inl (txdk_of (.str _) (.dic ‹_› ‹_› ‹_›) rfl)
  case dic.str => exact .inl (txdk_of (.dic ‹_› ‹_› ‹_›) (.str _) rfl)
  case str.lst => exact .inr (.inl ⟨_, _, _, rfl, rfl, .inl (FL.sq ‹_›)⟩)
  case str.tup => exact .inr (.inl ⟨_, _, _, rfl, rfl, .inr (FT.sq ‹_›)⟩)
  case lst.str => exact .inr (.inr (.inl ⟨_, _, _, rfl, rfl, .inl (FL.sq ‹_›)⟩))
  case tup.str => exact .inr (.inr (.inl ⟨_, _, _, rfl, rfl, .inr (FT.sq ‹_›)⟩))
  case lst.lst h1 _ a1 _ _ _ h2 _ a2 =>
    have l1 := a1.length
    have l2 := a2.length
    exact .inr (.inr (.inr (.inr ⟨_, _, _, _, rfl, rfl, h1.sq, h2.sq, by simpa [offB, l1, l2] using h⟩)))
  case tup.tup ds1 h1 _ a1 _ _ ds2 h2 _ a2 =>
    have l1 := a1.length
    have l2 := a2.length
    refine .inr (.inr (.inr (.inl ⟨_, _, _, _, rfl, rfl, h1.sq, h2.sq, ?_⟩)))
    cases a1 <;> cases a2 <;> simp [offB] at h ⊢
  all_goals simp [offB, dkTx] at h
theorem do_eq {k : Nat} {E : XK} (o : Okx k X E) : DOp X (compareOp .Eq) eqD := by
  refine ⟨_, (op_eq (X := X)).or ((op_eqD (X := X) o.room.units).or (op_eqOff (X := X) o.room.units)), fun x y d e H S ι E Q hS rx ry hw => ?_⟩
  cases rx with
  | obj _ => exact hw.elim
  | raw _ => exact hw.elim
  | py rx =>
    cases ry with
    | obj _ => exact hw.elim
    | raw _ => exact hw.elim
    | py ry =>
      unfold eqD eqB at hw
      simp only at hw
      split at hw
      · rename_i k hk
        split at hk
        · rename_i k' hf
          cases hk
          obtain ⟨h1, h2⟩ := flat_scal rx ry hf
          refine .inl ⟨h1, ?_⟩
          rw [h2]
          exact hw _ _ _ (.refl hS) (.py (.bl _))
        · split at hk
          · rename_i hs
            cases hk
            exact .inr (.inl ⟨_, _, rx.dp (noDict_of hs.1), ry.dp (noDict_of hs.2), hs.1, hs.2, hw _ _ _ (.refl hS) (.py (.bl _))⟩)
          · split at hk
            · rename_i hd
              cases hk
              exact .inr (.inr ⟨off_of rx ry hd, hw _ _ _ (.refl hS) (.py (.bl _))⟩)
            · cases hk
      · exact hw.elim
theorem do_ne {k : Nat} {E : XK} (o : Okx k X E) : DOp X (compareOp .NotEq) neD := by
  refine ⟨_, (op_ne (X := X)).or ((op_neD (X := X) o.room.units).or (op_neOff (X := X) o.room.units)), fun x y d e H S ι E Q hS rx ry hw => ?_⟩
  cases rx with
  | obj _ => exact hw.elim
  | raw _ => exact hw.elim
  | py rx =>
    cases ry with
    | obj _ => exact hw.elim
    | raw _ => exact hw.elim
    | py ry =>
      unfold neD eqB at hw
      simp only at hw
      split at hw
      · rename_i k hk
        split at hk
        · rename_i k' hf
          cases hk
          obtain ⟨h1, h2⟩ := flat_scal rx ry hf
          refine .inl ⟨h1, ?_⟩
          rw [h2]
          exact hw _ _ _ (.refl hS) (.py (.bl _))
        · split at hk
          · rename_i hs
            cases hk
            exact .inr (.inl ⟨_, _, rx.dp (noDict_of hs.1), ry.dp (noDict_of hs.2), hs.1, hs.2, hw _ _ _ (.refl hS) (.py (.bl _))⟩)
          · split at hk
            · rename_i hd
              cases hk
              exact .inr (.inr ⟨off_of rx ry hd, hw _ _ _ (.refl hS) (.py (.bl _))⟩)
            · cases hk
      · exact hw.elim
theorem non_iff {K : PySem.W.Frag} {H : Hp} {x : V} {d : PyData} (r : Pp K H x d) : decide (x = .non) = isNon d := by
  cases r <;> simp [isNon]
theorem do_is : DOp X (compareOp .Is) isND := by
  refine ⟨_, op_isN, fun x y d e H S ι E Q hS rx ry hw => ?_⟩
  unfold isND at hw
  split at hw
  · cases ry with
    | py ry =>
      cases rx with
      | py rx =>
        cases ry
        exact ⟨rfl, by rw [non_iff rx]; exact hw _ _ _ (.refl hS) (.py (.bl _))⟩
  · exact hw.elim
/-! ### built-ins -/
theorem dc_len : DC X (.builtin "len") lenD := by
  refine ⟨_, (call_len_str (X := X)).or (call_len_seq (X := X)), fun xs ds H S ι E Q hS r hw => ?_⟩
  unfold lenD at hw
  split at hw
  · split at hw
    · rename_i hz
      cases r with
      | cons r rs =>
        cases rs
        exact .inl ⟨_, by rw [str_of r], hz, hw _ _ _ (.refl hS) (.py (.int _))⟩
    · exact hw.elim
  · split at hw
    · rename_i ds' hds
      cases r with
      | cons r rs =>
        cases rs
        obtain ⟨a, vs, rfl, hq, rr⟩ := seq_of hS r hds
        refine .inr ⟨a, vs, rfl, hq.imp id fun z => z.1.sq, ?_⟩
        rw [rr.length]
        exact hw _ _ _ (.refl hS) (.py (.int _))
    · exact hw.elim
  · exact hw.elim
theorem dc_max2 {k : Nat} {E : XK} (o : Okx k X E) : DC X (.builtin "max") max2D := by
  refine ⟨_, call_max2 o.calm, fun xs ds H S ι E Q hS r hw => ?_⟩
  unfold max2D at hw
  split at hw
  · cases r with
    | cons r rs =>
      cases rs with
      | cons r2 rs =>
        cases rs
        exact ⟨_, _, by rw [int_of r, int_of r2], hw _ _ _ (.refl hS) (.py (.int _))⟩
  · exact hw.elim
theorem dc_min2 {k : Nat} {E : XK} (o : Okx k X E) : DC X (.builtin "min") min2D := by
  refine ⟨_, call_min2 o.calm, fun xs ds H S ι E Q hS r hw => ?_⟩
  unfold min2D at hw
  split at hw
  · cases r with
    | cons r rs =>
      cases rs with
      | cons r2 rs =>
        cases rs
        exact ⟨_, _, by rw [int_of r, int_of r2], hw _ _ _ (.refl hS) (.py (.int _))⟩
  · exact hw.elim
theorem dc_abs : DC X (.builtin "abs") absD := by
  refine ⟨_, call_abs, fun xs ds H S ι E Q hS r hw => ?_⟩
  unfold absD at hw
  split at hw
  · cases r with
    | cons r rs =>
      cases rs
      exact ⟨_, by rw [int_of r], hw _ _ _ (.refl hS) (.py (.int _))⟩
  · exact hw.elim
theorem dc_divmod : DC X (.builtin "divmod") divmodD := by
  refine ⟨_, call_divmodF, fun xs ds H S ι E Q hS r hw => ?_⟩
  unfold divmodD at hw
  split at hw
  · split at hw
    · rename_i hz
      cases r with
      | cons r rs =>
        cases rs with
        | cons r2 rs =>
          cases rs
          exact ⟨_, _, by rw [int_of r, int_of r2], hz, fun p o ho hp => hw _ _ _ (.new hS hp) (.py (.tup (.new ho) (by show 2 ≤ sizeLine; decide) (.cons (.int _) (.cons (.int _) .nil))))⟩
    · exact hw.elim
  · exact hw.elim
theorem dc_tuple : DC X (.type "tuple") tupleD := by
  refine ⟨_, call_tupleF, fun xs ds H S ι E Q hS r hw => ?_⟩
  unfold tupleD at hw
  split at hw
  · split at hw
    · rename_i ds' hds
      split at hw
      · rename_i ps hp
        cases r with
        | cons r rs =>
          cases rs
          obtain ⟨a, vs, rfl, hq, rr⟩ := seq_of hS r hds
          have al := RdAll.pys rr hp
          rcases hq with hq | ⟨hq, qs, e, hz⟩
          · exact ⟨a, vs, rfl, .inl ⟨hq, fun z l o ho hl => hw _ _ _ (.new hS hl) (.py (.tup (.new ho) (by rw [← al.length]; exact z) (al.keep (.new hl))))⟩⟩
          · subst e
            refine ⟨a, vs, rfl, .inr ⟨hq.sq, hw _ _ _ (.refl hS) (.py (.tup hq ?_ al))⟩⟩
            simp only [seqOf] at hds
            cases hds
            rw [pysOf_length hp, List.length_map]
            exact hz
      · exact hw.elim
    · exact hw.elim
  · exact hw.elim
/-- a built-in that makes a new list -/
def DCL (X : Cx) (o : Value) (g : List D → Sto → R (List D)) : Prop := ∃ r, CallR X o r ∧ ∀ xs ds H S ι E Q, StR X.K ι H S → RdAll X.K ι H xs ds → Wp X.K X.mg E ι H (relL X.K H) (g ds S) Q → r xs H Q
theorem signs_rd {K : PySem.W.Frag} {ι : List Addr} {H : Hp} (l : List Nat) : RdAll K ι H (l.map fun c => V.str ⟨#[c]⟩) (l.map fun c => D.py (.str ⟨#[c]⟩)) := by
  induction l with
  | nil => exact .nil
  | cons c l ih => exact .cons (.py (.str _)) ih
theorem paired_ix {α β : Type} {G : α → β → Prop} : ∀ {l₁ : List α} {l₂ : List β}, l₁.length = l₂.length → (∀ (i : Nat) x y, l₁[i]? = some x → l₂[i]? = some y → G x y) → Paired G l₁ l₂
  | [], [], _, _ => .nil
  | _ :: _, [], h, _ => by cases h
  | [], _ :: _, h, _ => by cases h
  | a :: l, b :: m, h, q => .cons (q 0 a b rfl rfl) (paired_ix (Nat.succ.inj h) fun i x y e1 e2 => q (i + 1) x y (by simpa using e1) (by simpa using e2))
theorem items_signs {x : Str} {acc : Array Value} (h : ItemsOf (SignAt x) acc x.cps.size) : Vals (x.cps.toList.map fun c => V.str ⟨#[c]⟩) acc.toList := by
  refine paired_ix (by rw [List.length_map, Array.length_toList, Array.length_toList, h.1]) fun i v u e1 e2 => ?_
  rw [Array.getElem?_toList] at e2
  obtain ⟨c, t, h1, h2⟩ := h.2 i u e2
  rw [List.getElem?_map, Array.getElem?_toList, h1] at e1
  cases e1
  exact ⟨t, h2⟩
theorem call_listB : CallR X (.type "list") (fun xs H Q => ∃ p ys, xs = [.ref p] ∧ (SqL X.K H p ys ∨ SqT X.K H p ys) ∧ (ys.length ≤ sizeLine → ∀ l, H l = none → Q (.ref l) (upd H l (.lst ys)))) := by
  intro pins s σ H xs us Q I r h
  obtain ⟨p, ys, rfl, h1, h2⟩ := h
  have z : ys.length ≤ sizeLine := by
    rcases h1 with h1 | h1
    · obtain ⟨_, _, _, z⟩ := I.list h1
      exact z
    · obtain ⟨_, _, _, z⟩ := I.tuple h1
      exact z
  exact call_list_of pins s σ H _ us Q I r ⟨p, ys, rfl, h1, h2 z⟩
theorem call_list_strD {k : Nat} {E : XK} (o : Okx k X E) : CallR X (.type "list") (fun xs H Q => ∃ x, xs = [.str x] ∧ x.length ≤ sizeLine ∧ ∀ l, H l = none → Q (.ref l) (upd H l (.lst (x.cps.toList.map fun c => V.str ⟨#[c]⟩)))) := by
  intro pins s σ H xs us Q I r h
  obtain ⟨x, rfl, hz, q⟩ := h
  obtain ⟨u, rfl, ru⟩ := vals1 r
  obtain ⟨t, rfl⟩ := ru
  refine call_list_str (I.ok.hd o.calm) x t (fun h' tk acc' c' hk hS hacc => ?_) hz
  refine ⟨.ref _, _, I.laid (t' := tk) hk (Nat.le_refl _) ?_, rfl, q _ I.fresh⟩
  refine ⟨by rw [List.length_map, Array.length_toList]; exact hz, acc'.toList, c', items_signs hacc, ?_⟩
  simpa using hS
theorem dcl_list {k : Nat} {E : XK} (o : Okx k X E) : DCL X (.type "list") listD := by
  refine ⟨_, (call_list_strD o).or (call_listB (X := X)), fun xs ds H S ι E Q hS r hw => ?_⟩
  unfold listD at hw
  split at hw
  · split at hw
    · rename_i hz
      cases r with
      | cons r rs =>
        cases rs
        refine .inl ⟨_, by rw [str_of r], hz, fun l hl => hw _ _ _ (.new hS hl) ⟨l, _, hl, rfl, upd_same, hS.notin hl, by rw [List.length_map, Array.length_toList]; exact hz, signs_rd _⟩⟩
    · exact hw.elim
  · split at hw
    · rename_i ds' hds
      cases r with
      | cons r rs =>
        cases rs
        obtain ⟨a, vs, rfl, hq, rr⟩ := seq_of hS r hds
        exact .inr ⟨a, vs, rfl, hq.imp id fun z => z.1.sq, fun z l hl => hw _ _ _ (.new hS hl) ⟨l, _, hl, rfl, upd_same, hS.notin hl, z, RdAll.mono (List.prefix_refl _) (.new hl) rr⟩⟩
    · exact hw.elim
  · exact hw.elim
/-! ### the text of a value -/
mutual
theorem deep_dp {K : PySem.W.Frag} {ι : List Addr} {H : Hp} {S : Sto} (hS : StR K ι H S) : ∀ (n : Nat) {v : V} {d : D} {p : PyData}, Rd K ι H v d → deep S n d = some p → p.hasDict = false → Dp K H v p
  | 0, _, _, _, _, h, _ => by cases h
  | n + 1, v, .py d, p, r, h, q => by
    cases r with
    | py r => cases h; exact r.dp q
  | n + 1, v, .obj m, p, r, h, q => by
    cases r with
    | obj e =>
      simp only [deep] at h
      split at h
      · rename_i ds hd
        rw [Option.map_eq_some_iff] at h
        obtain ⟨ps, h1, h2⟩ := h
        subst h2
        cases hS.at_ _ _ _ hd e with
        | lst ha rr => exact .lst (.of ha) (deep_all hS n rr h1 (by rw [PyData.hasDict.eq_5] at q; exact q))
      · cases h
theorem deep_all {K : PySem.W.Frag} {ι : List Addr} {H : Hp} {S : Sto} (hS : StR K ι H S) (n : Nat) : ∀ {vs : List V} {ds : List D} {ps : List PyData}, RdAll K ι H vs ds → ds.mapM (deep S n) = some ps → PyData.hasDictAll ps = false → DpAll K H vs ps
  | _, [], _, .nil, h, _ => by
    simp at h
    subst h
    exact .nil
  | _, d :: ds, ps, .cons r rs, h, q => by
    rw [List.mapM_cons] at h
    simp only [Option.bind_eq_bind, Option.bind_eq_some_iff, Option.pure_def, Option.some.injEq] at h
    obtain ⟨p, h1, qs, h2, rfl⟩ := h
    rw [PyData.hasDictAll.eq_2, Bool.or_eq_false_iff] at q
    exact .cons (deep_dp hS n r h1 q.1) (deep_all hS n rs h2 q.2)
end
theorem call_reprD {k : Nat} {E : XK} (o : Okx k X E) : CallR X (.builtin "repr") (fun xs H Q => ∃ x p, xs = [x] ∧ Dp X.K H x p ∧ p.showable = true ∧ p.hasDict = false ∧ p.depth ≤ 60 ∧ p.shown.length ≤ sizeLine ∧ Q (.str p.shown) H) := by
  intro pins s σ H xs us Q I r h
  obtain ⟨x, p, rfl, hd, h1, h2, h3, h4, q⟩ := h
  obtain ⟨u, rfl, ru⟩ := vals1 r
  have hu := o.room.un
  cases hd with
  | non =>
    cases ru
    exact PySem.P.repr_of_none ⟨.str _, H, I.tok _, ⟨_, rfl⟩, by simpa only [PyData.shown] using q⟩
  | bl b =>
    cases ru
    exact PySem.P.repr_of_bool ⟨.str _, H, I.tok _, ⟨_, rfl⟩, by simpa only [PyData.shown] using q⟩
  | int i =>
    obtain ⟨t, rfl⟩ := ru
    exact PySem.P.repr_of_int (by simpa [PyData.showable] using h1) ⟨.str _, H, I.tok _, ⟨_, rfl⟩, by simpa only [PyData.shown] using q⟩
  | str z =>
    obtain ⟨t, rfl⟩ := ru
    exact PySem.P.repr_of_str ⟨.str _, H, I.tok _, ⟨_, rfl⟩, by simpa only [PyData.shown] using q⟩ (by simpa only [PyData.shown] using h4)
  | lst hq al =>
    have ru' := ru
    cases ru
    obtain ⟨as, hr⟩ := Dp.reads I _ _ _ (.lst hq al) ru'
    exact repr_of_reads' hr h1 (fun z => by rw [h2] at z; cases z) o.gd (by omega) (fun _ _ e => e) (fun h' u tk hk => ⟨.str _, H, I.kept (t' := tk) hk, ⟨_, rfl⟩, q⟩) h4
  | tup hq al =>
    have ru' := ru
    cases ru
    obtain ⟨as, hr⟩ := Dp.reads I _ _ _ (.tup hq al) ru'
    exact repr_of_reads' hr h1 (fun z => by rw [h2] at z; cases z) o.gd (by omega) (fun _ _ e => e) (fun h' u tk hk => ⟨.str _, H, I.kept (t' := tk) hk, ⟨_, rfl⟩, q⟩) h4
theorem dc_repr {k : Nat} {E : XK} (o : Okx k X E) : DC X (.builtin "repr") reprD := by
  refine ⟨_, call_reprD o, fun xs ds H S ι E Q hS r hw => ?_⟩
  unfold reprD at hw
  split at hw
  · split at hw
    · rename_i p hp
      split at hw
      · rename_i hc
        cases r with
        | cons r rs =>
          cases rs
          exact ⟨_, p, rfl, deep_dp hS _ r hp hc.2.1, hc.1, hc.2.1, hc.2.2.1, hc.2.2.2, hw _ _ _ (.refl hS) (.py (.str _))⟩
      · exact hw.elim
    · exact hw.elim
  · exact hw.elim
/-! ### methods of lists -/
theorem dm_append : DM X "list" "list.append" appendD := by
  refine ⟨_, mt_append, fun x xs d ds H S ι E Q hS rx r hw => ?_⟩
  unfold appendD at hw
  split at hw
  · split at hw
    · rename_i ds' hds
      split at hw
      · rename_i hz
        cases rx with
        | obj e =>
          cases hS.at_ _ _ _ hds e with
          | lst ha rr =>
            cases r with
            | cons r rs =>
              cases rs
              refine ⟨_, _, _, rfl, rfl, ha, by rw [rr.length]; exact hz, hw _ _ _ (.wr e ha (hS.set e ha (Paired.app rr (.cons r .nil)))) (.py .non)⟩
      · exact hw.elim
    · exact hw.elim
  · exact hw.elim
theorem ix_of_nat {i : Int} {n : Nat} (h0 : 0 ≤ i) (h1 : i.toNat < n) : seqIndex? i n = some i.toNat := by
  unfold seqIndex?
  have a : ¬ i < 0 := by omega
  have b : i < (n : Int) := by omega
  simp [a, h0, b]
theorem paired_erase {α β : Type} {G : α → β → Prop} : ∀ {l₁ : List α} {l₂ : List β} (i : Nat), Paired G l₁ l₂ → Paired G (l₁.eraseIdx i) (l₂.eraseIdx i)
  | _, _, _, .nil => .nil
  | _, _, 0, .cons _ t => t
  | _, _, i + 1, .cons q t => .cons q (paired_erase i t)
theorem paired_last {α β : Type} {G : α → β → Prop} : ∀ {l₁ : List α} {l₂ : List β}, Paired G l₁ l₂ → Paired G l₁.dropLast l₂.dropLast
  | _, _, .nil => .nil
  | _, _, .cons _ .nil => .nil
  | _, _, .cons q (.cons r t) => .cons q (paired_last (.cons r t))
theorem dm_pop : DM X "list" "list.pop" popD := by
  refine ⟨_, MtR.or (mt_pop (X := X)) (mt_popAt (X := X)), fun x xs d ds H S ι E Q hS rx r hw => ?_⟩
  unfold popD at hw
  split at hw
  · split at hw
    · rename_i ds' hds
      split at hw
      · rename_i d' hd'
        cases rx with
        | obj e =>
          cases hS.at_ _ _ _ hds e with
          | lst ha rr =>
            cases r
            obtain ⟨v, hv, rv⟩ := Paired.getR rr hd'
            exact .inl ⟨_, _, v, rfl, rfl, ha, by rw [rr.length]; exact hv, hw _ _ _ (.wr e ha (hS.set e ha (paired_last rr))) (rv.mono (List.prefix_refl _) (.list ha))⟩
      · exact hw.elim
    · exact hw.elim
  · split at hw
    · rename_i ds' hds
      split at hw
      · rename_i hi
        split at hw
        · rename_i d' hd'
          cases rx with
          | obj e =>
            cases hS.at_ _ _ _ hds e with
            | lst ha rr =>
              cases r with
              | cons r rs =>
                cases rs
                obtain ⟨v, hv, rv⟩ := Paired.getR rr hd'
                have hlt := (List.getElem?_eq_some_iff.mp hv).1
                exact .inr ⟨_, _, _, _, v, rfl, by rw [int_of r], ha, by omega, by omega, ix_of_nat hi.1 hlt, hv, hw _ _ _ (.wr e ha (hS.set e ha (paired_erase _ rr))) (rv.mono (List.prefix_refl _) (.list ha))⟩
        · exact hw.elim
      · exact hw.elim
    · exact hw.elim
  · exact hw.elim
/-! ### calls that make new lists; extend -/
variable {E : XK} {k : Nat} {e : Expr} {f : Ex} {es : List Expr} {fs fl : Ax} {pos p : Pos} {x : Str}
theorem dl_callTy {T : String} {gg : List D → Sto → R (List D)} (hc : DCL X (.type T) gg) (hm : X.mg x = none) (hv : bootBuiltins x = some (.type T)) (ha : DA X E (e :: es) fs) (hg : Gl X x := by rfl) (hn : x ≠ "__name__" := by decide) (hdb : (x == ("__debug__" : Str)) = false := by decide)
    (he : starEach (e :: es) X.env = (false, eval e X.env) :: starEach es X.env := by rfl) (hpl : (backTo pos (starEach es X.env)).any (·.1) = false := by rfl) : DL X E (.Call (.Name x p) (e :: es) [] pos) (callL gg fs) := by
  obtain ⟨l, t, pt, q⟩ := ha
  obtain ⟨r, hr, qr⟩ := hc
  refine ⟨_, pe_callTy hr hg hm hv pt hn hdb he hpl, fun σ H σd S ι Q hE hS h => ?_⟩
  refine q σ H σd S ι _ hE hS (Wp.bind0 h fun ds S1 _ vs H1 ι1 p1 r1 h1 => ?_)
  refine qr _ _ _ _ _ E _ p1.sto r1 ?_
  cases hgg : gg ds S1 with
  | no => rw [hgg] at h1; exact h1.elim
  | ex c S2 => rw [hgg] at h1; exact (Wp.re (rel := relL X.K H1) (Q := Q) p1 (show Wp X.K X.mg E ι H (relL X.K H1) (R.ex c S2) Q from h1))
  | ok ys S2 =>
    rw [hgg] at h1
    intro v H2 ι2 p2 r2
    obtain ⟨a, vs2, h0, rest⟩ := r2
    refine h1 v H2 ι2 (p1.trans p2) ⟨a, vs2, ?_, rest⟩
    cases q0 : H a with
    | none => rfl
    | some u => exact absurd h0 (p1.dom a (by rw [q0]; simp))
end
end DV

set_option maxHeartbeats 4000000
namespace DV
open PySem PySem.Spec PyProof.Rows L2
/-! More operators: in, index, isinstance, all, any, sum, slices. -/
/-! ### what they do -/
def isFlat : PyData → Bool
  | .none => true
  | .bool _ => true
  | .int _ => true
  | .str _ => true
  | _ => false
def isDk : PyData → Bool
  | .dict _ => true
  | _ => false
/-- a dict, a tuple, a list -/
def isSq : PyData → Bool
  | .dict _ => true
  | .tuple _ => true
  | .list _ => true
  | _ => false
def isSt : PyData → Bool
  | .str _ => true
  | _ => false
def inB (d : PyData) (e : PyData) : Option Bool := match e with
  | .list ds => if SeqAt.shaped d = true ∧ SeqAt.shaped (.list ds) = true then some (ds.any fun z => PyData.eqv z d) else if isSq d = true ∧ ds.all isSt = true then some false else if isFlat d = true ∧ ds.all isFlat = true then some (ds.any fun z => PyData.eqv z d) else none
  | .tuple ds => if isFlat d = true ∧ ds.all isFlat = true then some (ds.any fun z => PyData.eqv z d) else none
  | .str y => (match d with
    | .str x => (match x.cps.toList with
      | [c] => some (decide (c ∈ y.cps.toList))
      | _ => none)
    | _ => none)
  | _ => none
def inS (S : Sto) (x y : D) : Option Bool := match deep S 8 x, deep S 8 y with
  | some d, some e => inB d e
  | _, _ => none
def inD (x y : D) (S : Sto) : R D := match inS S x y with
  | some k => .ok (.py (.bool k)) S
  | none => .no
def notInD (x y : D) (S : Sto) : R D := match inS S x y with
  | some k => .ok (.py (.bool (!k))) S
  | none => .no
/-- the first place of an item -/
def placeOf (ds : List PyData) (d : PyData) : Option Nat := ds.findIdx? fun z => PyData.eqv z d
def indexD : D → List D → Sto → R D
  | x, [y], S => (match deep S 8 x, deep S 8 y with
    | some (.list ds), some d => if SeqAt.shaped (.list ds) = true ∧ SeqAt.shaped d = true then (match placeOf ds d with
      | some j => .ok (.py (.int (j : Nat))) S
      | none => .no) else .no
    | _, _ => .no)
  | _, _, _ => .no
def tyN : PyData → String
  | .none => "NoneType"
  | .bool _ => "bool"
  | .int _ => "int"
  | .str _ => "str"
  | .list _ => "list"
  | .tuple _ => "tuple"
  | .dict _ => "dict"
/-- is a value of class a one of class b -/
def isB (a b : String) : Bool := a == b || (a == "bool" && b == "int")
def isiD (T : String) : D → Sto → R D
  | .py d, S => .ok (.py (.bool (isB (tyN d) T))) S
  | .obj n, S => match S[n]? with
    | some (.lst _) => .ok (.py (.bool (isB "list" T))) S
    | _ => .no
  | .raw _, _ => .no
def boolsOf : List PyData → Option (List Bool)
  | [] => some []
  | .bool b :: ds => (boolsOf ds).map (b :: ·)
  | _ => none
def intsOf : List PyData → Option (List Int)
  | [] => some []
  | .int b :: ds => (intsOf ds).map (b :: ·)
  | _ => none
def allD : List D → Sto → R D
  | [.py (.list ds)], S => (match boolsOf ds with
    | some bs => .ok (.py (.bool (bs.all id))) S
    | none => .no)
  | _, _ => .no
def anyD : List D → Sto → R D
  | [.py (.list ds)], S => (match boolsOf ds with
    | some bs => .ok (.py (.bool (bs.any id))) S
    | none => .no)
  | _, _ => .no
def sumD : List D → Sto → R D
  | [.py (.list ds)], S => (match intsOf ds with
    | some bs => .ok (.py (.int bs.sum)) S
    | none => .no)
  | _, _ => .no
/-! ### that they do it -/
variable {X : Cx}
theorem eqV_eqv {K : PySem.W.Frag} {H : Hp} {x y : V} {d e : PyData} (rx : Pp K H x d) (ry : Pp K H y e) (hd : isFlat d = true) (he : isFlat e = true) : eqV y x = PyData.eqv e d := by
  cases rx <;> cases ry <;> simp [isFlat] at hd he <;> simp [eqV, PyData.eqv]
theorem isFlat_V {K : PySem.W.Frag} {H : Hp} {x : V} {d : PyData} (rx : Pp K H x d) (hd : isFlat d = true) : flatV x = true := by
  cases rx <;> simp [isFlat] at hd <;> rfl
theorem isFlat_all {K : PySem.W.Frag} {H : Hp} {x : V} {d : PyData} (rx : Pp K H x d) (hd : isFlat d = true) : ∀ {ys : List V} {ds : List PyData}, PpAll K H ys ds → ds.all isFlat = true → ys.all flatV = true ∧ inV x ys = ds.any fun z => PyData.eqv z d
  | _, _, .nil, _ => ⟨rfl, rfl⟩
  | _, _, .cons h hs, e => by
    rw [List.all_cons, Bool.and_eq_true] at e
    obtain ⟨h1, h2⟩ := isFlat_all rx hd hs e.2
    refine ⟨by rw [List.all_cons, isFlat_V h e.1, h1]; rfl, ?_⟩
    unfold inV at h2 ⊢
    rw [List.any_cons, List.any_cons, h2, eqV_eqv rx h hd e.1]
theorem eqV_eqvD {K : PySem.W.Frag} {H : Hp} {x y : V} {d e : PyData} (rx : Pp K H x d) (ry : Dp K H y e) (hd : isFlat d = true) (he : isFlat e = true) : eqV y x = PyData.eqv e d ∧ flatV y = true := by
  cases rx <;> cases ry <;> simp [isFlat] at hd he <;> simp [eqV, PyData.eqv, flatV]
theorem isFlat_allD {K : PySem.W.Frag} {H : Hp} {x : V} {d : PyData} (rx : Pp K H x d) (hd : isFlat d = true) : ∀ {ys : List V} {ds : List PyData}, DpAll K H ys ds → ds.all isFlat = true → ys.all flatV = true ∧ inV x ys = ds.any fun z => PyData.eqv z d
  | _, _, .nil, _ => ⟨rfl, rfl⟩
  | _, _, .cons h hs, e => by
    rw [List.all_cons, Bool.and_eq_true] at e
    obtain ⟨h1, h2⟩ := isFlat_allD rx hd hs e.2
    obtain ⟨h3, h4⟩ := eqV_eqvD rx h hd e.1
    refine ⟨by rw [List.all_cons, h4, h1]; rfl, ?_⟩
    unfold inV at h2 ⊢
    rw [List.any_cons, List.any_cons, h2, h3]
theorem flat_noDict : ∀ {ds : List PyData}, ds.all isFlat = true → PyData.hasDictAll ds = false
  | [], _ => PyData.hasDictAll.eq_1
  | d :: ds, h => by
    rw [List.all_cons, Bool.and_eq_true] at h
    rw [PyData.hasDictAll.eq_2, flat_noDict h.2]
    cases d <;> simp [isFlat] at h <;> simp [PyData.hasDict]
theorem Room.units65 {k : Nat} {A : Around} (h : Room k A) : A.units + 65 < cLine := by have := h.un; omega
theorem deep_py {K : PySem.W.Frag} {ι : List Addr} {H : Hp} {S : Sto} {x : V} {d : D} {p : PyData} (rx : Rd K ι H x d) (h : deep S 8 d = some p) : Pp K H x p ∨ ∃ ds, p = .list ds := by
  cases rx with
  | py rx =>
    have e := Option.some.inj h
    subst e
    exact .inl rx
  | raw a => cases h
  | obj e0 =>
    simp only [deep] at h
    split at h
    · rename_i es _
      cases hm : es.mapM (deep S 7) with
      | none => rw [hm] at h; cases h
      | some z => rw [hm] at h; cases h; exact .inr ⟨_, rfl⟩
    · cases h
theorem st_noDict : ∀ {ds : List PyData}, ds.all isSt = true → PyData.hasDictAll ds = false
  | [], _ => PyData.hasDictAll.eq_1
  | d :: ds, h => by
    rw [List.all_cons, Bool.and_eq_true] at h
    rw [PyData.hasDictAll.eq_2, st_noDict h.2]
    cases d <;> simp [isSt] at h
    simp [PyData.hasDict]
theorem st_all {K : PySem.W.Frag} {H : Hp} : ∀ {vs : List V} {ds : List PyData}, DpAll K H vs ds → ds.all isSt = true → ∀ v ∈ vs, ∃ z, v = V.str z
  | _, _, .nil, _, v, hv => by cases hv
  | _, _, .cons r rs, h, v, hv => by
    rw [List.all_cons, Bool.and_eq_true] at h
    rcases List.mem_cons.mp hv with rfl | hv
    · cases r <;> simp [isSt] at h
      exact ⟨_, rfl⟩
    · exact st_all rs h.2 v hv
theorem in_key {K : PySem.W.Frag} {ι : List Addr} {H : Hp} {S : Sto} {x y : V} {d e : D} {k : Bool} (hS : StR K ι H S) (rx : Rd K ι H x d) (ry : Rd K ι H y e) (h : inS S d e = some k) :
    (∃ p q, Dp K H x p ∧ Dp K H y (.list q) ∧ SeqAt.shaped p = true ∧ SeqAt.shaped (.list q) = true ∧ k = (q.any fun z => PyData.eqv z p)) ∨
    (∃ p xs, y = .ref p ∧ (SqL K H p xs ∨ SqT K H p xs) ∧ flatV x = true ∧ xs.all flatV = true ∧ k = inV x xs) ∨
    (∃ (c : Nat) (z : Str), x = .str ⟨#[c]⟩ ∧ y = .str z ∧ k = decide (c ∈ z.cps.toList)) ∨ (DkIn K H x y ∧ k = false) := by
  unfold inS at h
  split at h
  · rename_i p q hp hq
    cases q with
    | list ds =>
      simp only [inB] at h
      split at h
      · rename_i hs
        cases h
        have dx := deep_dp hS _ rx hp (noDict_of hs.1)
        have dy := deep_dp hS _ ry hq (noDict_of hs.2)
        exact .inl ⟨_, _, dx, dy, hs.1, hs.2, rfl⟩
      · split at h
        · rename_i hs
          cases h
          have dy := deep_dp hS _ ry hq (by rw [PyData.hasDict.eq_5]; exact st_noDict hs.2)
          have ax : ∃ a, x = V.ref a ∧ ((∃ o kvs, H a = some (.frz o (.dK kvs))) ∨ ∃ zs, SqL K H a zs ∨ SqT K H a zs) := by
            cases rx with
            | raw a => cases hp
            | obj e0 =>
              simp only [deep] at hp
              split at hp
              · rename_i es he
                cases hS.at_ _ _ _ he e0 with
                | lst ha rr => exact ⟨_, rfl, .inr ⟨_, .inl (.of ha)⟩⟩
              · cases hp
            | py rx =>
              have e := Option.some.inj hp
              subst e
              cases rx with
              | dic e _ _ => exact ⟨_, rfl, .inl ⟨_, _, e⟩⟩
              | lst e _ _ => exact ⟨_, rfl, .inr ⟨_, .inl e.sq⟩⟩
              | tup e _ _ => exact ⟨_, rfl, .inr ⟨_, .inr e.sq⟩⟩
              | _ => simp [isSq] at hs
          obtain ⟨a, rfl, ax⟩ := ax
          cases dy with
          | lst hL al => exact .inr (.inr (.inr ⟨⟨_, _, _, rfl, ax, rfl, hL, st_all al hs.2⟩, rfl⟩))
        · split at h
          · rename_i hs
            cases h
            have dy := deep_dp hS _ ry hq (by rw [PyData.hasDict.eq_5]; exact flat_noDict hs.2)
            have rx := (deep_py rx hp).resolve_right (by rintro ⟨ws, rfl⟩; simp [isFlat] at hs)
            cases dy with
            | lst hL al =>
              obtain ⟨z1, z2⟩ := isFlat_allD rx hs.1 al hs.2
              exact .inr (.inl ⟨_, _, rfl, .inl hL, isFlat_V rx hs.1, z1, z2.symm⟩)
          · cases h
    | tuple ds =>
      simp only [inB] at h
      split at h
      · rename_i hs
        cases h
        have ry := (deep_py ry hq).resolve_right (by rintro ⟨ws, e⟩; cases e)
        cases ry with
        | tup hT hz al =>
          have rx := (deep_py rx hp).resolve_right (by rintro ⟨ws, rfl⟩; simp [isFlat] at hs)
          obtain ⟨z1, z2⟩ := isFlat_all rx hs.1 al hs.2
          exact .inr (.inl ⟨_, _, rfl, .inr hT.sq, isFlat_V rx hs.1, z1, z2.symm⟩)
      · cases h
    | str y' =>
      cases p with
      | str x' =>
        simp only [inB] at h
        split at h
        · rename_i c hc
          cases h
          have rx := (deep_py rx hp).resolve_right (by rintro ⟨ws, e⟩; cases e)
          have ry := (deep_py ry hq).resolve_right (by rintro ⟨ws, e⟩; cases e)
          cases rx
          cases ry
          refine .inr (.inr (.inl ⟨c, y', ?_, rfl, rfl⟩))
          obtain ⟨a⟩ := x'
          obtain ⟨l⟩ := a
          have : l = [c] := hc
          subst this
          rfl
        · cases h
      | _ => cases h
    | _ => cases h
  · cases h
theorem do_in {k : Nat} {E : XK} (o : Okx k X E) : DOp X (compareOp .In) inD := by
  refine ⟨_, (op_inD (X := X) (Room.units65 o.room)).or ((op_in_seq (X := X)).or ((op_in_sign (X := X)).or (op_inSD (X := X) (Room.units65 o.room)))), fun x y d e H S ι E Q hS rx ry hw => ?_⟩
  unfold inD at hw
  split at hw
  · rename_i k hk
    have hq := hw _ _ _ (.refl hS) (.py (.bl k))
    rcases in_key hS rx ry hk with ⟨p, q, a, b, c, d, rfl⟩ | ⟨p, xs, a, b, c, d, rfl⟩ | ⟨c, z, a, b, rfl⟩ | ⟨a, rfl⟩
    · exact .inl ⟨p, q, a, b, c, d, hq⟩
    · exact .inr (.inl ⟨p, xs, a, b, c, d, hq⟩)
    · exact .inr (.inr (.inl ⟨c, z, a, b, hq⟩))
    · exact .inr (.inr (.inr ⟨a, hq⟩))
  · exact hw.elim
theorem dp_list_ref {K : PySem.W.Frag} {H : Hp} {v : V} {ds : List PyData} (h : Dp K H v (.list ds)) : ∃ a, v = .ref a := by
  cases h <;> exact ⟨_, rfl⟩
/-! ### isinstance -/
theorem ty_pp {K : PySem.W.Frag} {H : Hp} {x : V} {d : PyData} (r : Pp K H x d) : TyX K H x (.type (tyN d)) := by
  cases r with
  | non => exact .base .non
  | bl b => exact .base (.bl b)
  | int i => exact .base (.int i)
  | str x => exact .base (.str x)
  | lst h _ _ =>
    rcases h with ⟨o, h⟩ | ⟨o, its, n, h1, h2, _⟩
    · exact .base (.frz h)
    · exact .kList h1 h2
  | tup h _ _ =>
    rcases h with ⟨o, h, _⟩ | ⟨o, its, n, h1, h2, _⟩
    · exact .fTuple h
    · exact .kTuple h1 h2
  | dic h _ _ => exact .fDict h
theorem kit_base (K : PySem.W.Frag) (d : PyData) (T : String) (hT : T ∈ ["int", "bool", "str", "tuple", "list", "dict"]) : PySem.W.kitOne K (.type (tyN d)) (.type T) = some (isB (tyN d) T) := by
  simp only [List.mem_cons, List.not_mem_nil, or_false] at hT
  rcases hT with rfl | rfl | rfl | rfl | rfl | rfl <;> cases d <;> rfl
section
variable {E : XK} {e : Expr} {f : Ex} {pos p p2 : Pos}
theorem de_isi {T : String} (hm : X.mg "isinstance" = none) (hm2 : X.mg (Str.ofString T) = none) (ha : DE X E e f) (hT : T ∈ ["int", "bool", "str", "tuple", "list", "dict"] := by decide) (hg : Gl X "isinstance" := by rfl) (hg2 : Gl X (Str.ofString T) := by rfl) (hb : bootBuiltins (Str.ofString T) = some (.type T) := by rfl)
    (hnn : Str.ofString T ≠ "__name__" := by decide) (hdb : (Str.ofString T == ("__debug__" : Str)) = false := by decide)
    (he : starEach [e, .Name (Str.ofString T) p2] X.env = (false, eval e X.env) :: starEach [.Name (Str.ofString T) p2] X.env := by rfl) (he2 : starEach [.Name (Str.ofString T) p2] X.env = (false, eval (.Name (Str.ofString T) p2) X.env) :: starEach [] X.env := by rfl) (hpl : (backTo pos (starEach [.Name (Str.ofString T) p2] X.env)).any (·.1) = false := by rfl) :
    DE X E (.Call (.Name "isinstance" p) [e, .Name (Str.ofString T) p2] [] pos) (op1 (isiD T) f) := by
  obtain ⟨t, pt, q⟩ := ha
  refine ⟨_, pe_callB call_isi hg hm rfl (pa_cons pt (pa_cons (pe_bltn (v := .ty T) hg2 hm2 hb rfl hnn hdb) pa_nil he2) he) (by decide) (by decide) he hpl, fun σ H σd S ι Q hE hS h => ?_⟩
  refine q σ H σd S ι _ hE hS (Wp.bind0 h fun d S1 e1 v H1 ι1 p1 r1 h1 => ?_)
  show rIsi X.K [v, .ty T] H1 Q
  unfold isiD at h1
  split at h1
  · rename_i d'
    cases r1 with
    | py r1 => exact ⟨v, .ty T, _, _, _, rfl, .ty T, ty_pp r1, kit_base X.K d' T hT, h1 _ _ _ p1 (.py (.bl _))⟩
  · split at h1
    · rename_i n S es hes
      cases r1 with
      | obj ea =>
        cases p1.sto.at_ _ _ _ hes ea with
        | lst hl _ => exact ⟨_, .ty T, _, _, _, rfl, .ty T, .base (.lst hl), kit_base X.K (.list []) T hT, h1 _ _ _ p1 (.py (.bl _))⟩
    · exact h1.elim
  · exact h1.elim
end
/-! ### all, any, sum -/
theorem bools_V {K : PySem.W.Frag} {H : Hp} : ∀ {xs : List V} {ds : List PyData} {bs : List Bool}, PpAll K H xs ds → boolsOf ds = some bs → xs = bs.map V.bl
  | _, _, bs, .nil, h => by cases h; rfl
  | _, _, bs, @PpAll.cons _ _ v vs d ds r rs, h => by
    cases r with
    | bl b =>
      have h : Option.map (b :: ·) (boolsOf ds) = some bs := h
      cases hb : boolsOf ds with
      | none => rw [hb] at h; cases h
      | some bs' =>
        rw [hb] at h
        cases h
        rw [bools_V rs hb]
        rfl
    | _ => exact absurd h (by simp [boolsOf])
theorem ints_V {K : PySem.W.Frag} {H : Hp} : ∀ {xs : List V} {ds : List PyData} {bs : List Int}, PpAll K H xs ds → intsOf ds = some bs → xs = bs.map V.int
  | _, _, bs, .nil, h => by cases h; rfl
  | _, _, bs, @PpAll.cons _ _ v vs d ds r rs, h => by
    cases r with
    | int b =>
      have h : Option.map (b :: ·) (intsOf ds) = some bs := h
      cases hb : intsOf ds with
      | none => rw [hb] at h; cases h
      | some bs' =>
        rw [hb] at h
        cases h
        rw [ints_V rs hb]
        rfl
    | _ => exact absurd h (by simp [intsOf])
theorem dc_all {k : Nat} {E : XK} (o : Okx k X E) : DC X (.builtin "all") allD := by
  refine ⟨_, cr_all o.calm, fun xs ds H S ι E Q hS r hw => ?_⟩
  unfold allD at hw
  split at hw
  · split at hw
    · rename_i bs hbs
      cases r with
      | cons r rs =>
        cases rs
        cases r with
        | py r =>
          cases r with
          | lst h hz al => exact ⟨_, bs, rfl, bools_V al hbs ▸ h.sq, hw _ _ _ (.refl hS) (.py (.bl _))⟩
    · exact hw.elim
  · exact hw.elim
/-! ### the module's constants -/
theorem de_gint {E : XK} {x : Str} {i : Int} {t : Tok} {pos : Pos} (hm : X.mg x = some (.int i t)) (hg : Gl X x := by rfl) (hdb : (x == ("__debug__" : Str)) = false := by decide) : DE X E (.Name x pos) (cE (.int i)) :=
  ⟨_, pe_glob (v := .int i) hg hm ⟨t, rfl⟩ hdb, fun σ H σd S ι Q hE hS h => h _ _ _ (.refl hS) (.py (.int i))⟩
theorem de_gstr {E : XK} {x : Str} {i : Str} {t : Tok} {pos : Pos} (hm : X.mg x = some (.str i t)) (hg : Gl X x := by rfl) (hdb : (x == ("__debug__" : Str)) = false := by decide) : DE X E (.Name x pos) (cE (.str i)) :=
  ⟨_, pe_glob (v := .str i) hg hm ⟨t, rfl⟩ hdb, fun σ H σd S ι Q hE hS h => h _ _ _ (.refl hS) (.py (.str i))⟩
end DV

set_option maxHeartbeats 4000000
namespace DV
open PySem PySem.Spec PyProof.Rows L2
/-! An error of the program's own whose base is an error of the program's own upon ValueError. -/
def allStr (es : Array DictEntry) : Bool := es.toList.all fun e => match e.key with
  | .str _ _ => true
  | _ => false
/-- a class's own dict has text keys and no __init__ -/
theorem nsOk_of {K : PySem.W.Frag} {N : Addr} {c : Value} {dd : Option Addr} {es : Array DictEntry} {ep : Nat} {sl : Array (Option Value)} (h : K.lookup N = some ⟨c, dd, .dict es ep, sl⟩) (ha : allStr es = true) : PySem.W.nsOkIn K N = true := by
  unfold PySem.W.nsOkIn
  rw [h]
  show (es.all _) = true
  rw [← Array.all_toList]
  exact ha
theorem exc_two {K : PySem.W.Frag} {C B N M : Addr} {cd cb : ClassData} {d1 d2 d3 d4 : Option Addr} {sl sb sn sm : Array (Option Value)} {c3 c4 : Value} {es em : Array DictEntry} {ep eq : Nat} {bm : List Value} {id : String} {a1 a2 a3 a4 a6 : Option Value}
    (h1 : K.lookup C = some ⟨.type "type", d1, .cls cd, sl⟩) (q1 : cd.mro = .ref C :: .ref B :: bm) (q2 : sl.toList = [a1, a2, a3, a4, some (.builtin id), a6]) (q3 : cd.hasDel = false) (q4 : cd.ns = N)
    (h2 : K.lookup N = some ⟨c3, d3, .dict es ep, sn⟩) (q5 : allStr es = true) (n1 : PySem.W.nsIn K N "__init__" = some none)
    (h3 : K.lookup B = some ⟨.type "type", d2, .cls cb, sb⟩) (q6 : cb.ns = M) (h4 : K.lookup M = some ⟨c4, d4, .dict em eq, sm⟩) (q7 : allStr em = true) (n2 : PySem.W.nsIn K M "__init__" = some none) (hb : PySem.W.tailIn K bm bm = true) : PySem.W.excIn K C bm id = true := by
  unfold PySem.W.excIn
  rw [h1]
  simp only [q1, q2, q3, q4]
  rw [nsOk_of h2 q5, n1, PySem.W.tailIn.eq_2, h3]
  simp only [q6]
  rw [nsOk_of h4 q7, n2, hb]
  simp
end DV

set_option maxHeartbeats 4000000
namespace DV
open PySem PySem.Spec PyProof.Rows L2
/-! Still more operators: slices, list(range(..)), sorted, join, tuples compared. -/
variable {X : Cx} {E : XK}
/-! ### slices -/
abbrev Px := En → Sto → R (Option Int)
def noP : Px := fun _ S => .ok none S
def someP (e : Ex) : Px := fun σ S => (e σ S).bind fun d S1 => match d with
  | .py (.int i) => .ok (some i) S1
  | _ => .no
def cutP {α : Type} (xs : List α) (lo hi : Option Int) : List α := (xs.drop (HT.sIx xs.length 0 lo)).take (HT.sIx xs.length xs.length hi - HT.sIx xs.length 0 lo)
/-- of tuples and texts -/
def sliceV (x : D) (lo hi : Option Int) (S : Sto) : R D := match x with
  | .py (.tuple ds) => .ok (.py (.tuple (cutP ds lo hi))) S
  | .py (.str z) => if z.length ≤ sizeLine then .ok (.py (.str (cutS z lo hi))) S else .no
  | _ => .no
def sliceE (a : Ex) (lo hi : Px) : Ex := fun σ S => (a σ S).bind fun x S1 => (lo σ S1).bind fun l S2 => (hi σ S2).bind fun h S3 => sliceV x l h S3
/-- of lists: a new list -/
def sliceL (a : Ex) (lo hi : Px) : Ax := fun σ S => (a σ S).bind fun x S1 => (lo σ S1).bind fun l S2 => (hi σ S2).bind fun h S3 => match seqOf S3 x with
  | some ds => (match x with
    | .py (.tuple _) => .no
    | _ => if ds.length ≤ sizeLine then .ok (cutP ds l h) S3 else .no)
  | none => .no
abbrev relP : List Addr → Hp → Option Int → Option Int → Prop := fun _ _ a b => a = b
def DP (X : Cx) (E : XK) (e : Option Expr) (f : Px) : Prop := ∃ t, PO X e t ∧ ∀ σ H σd S ι Q, EnR X.K ι H σ σd → StR X.K ι H S → Wp X.K X.mg E ι H relP (f σd S) Q → t σ H Q
theorem dp_none : DP X E none noP := ⟨_, po_none, fun σ H σd S ι Q hE hS h => h _ _ _ (.refl hS) rfl⟩
theorem dp_some {e : Expr} {f : Ex} (he : DE X E e f) : DP X E (some e) (someP f) := by
  obtain ⟨t, p, q⟩ := he
  refine ⟨_, po_some p, fun σ H σd S ι Q hE hS h => ?_⟩
  refine q σ H σd S ι _ hE hS (Wp.bind0 h fun d S1 _ v H1 ι1 p1 r1 h1 => ?_)
  split at h1
  · exact ⟨_, int_of r1, h1 _ _ _ p1 rfl⟩
  · exact h1.elim
theorem PpAll.drop {K : PySem.W.Frag} {H : Hp} : ∀ {vs : List V} {ds : List PyData} (n : Nat), PpAll K H vs ds → PpAll K H (vs.drop n) (ds.drop n)
  | _, _, 0, h => h
  | _, _, _ + 1, .nil => .nil
  | _, _, n + 1, .cons _ hs => PpAll.drop n hs
theorem PpAll.take {K : PySem.W.Frag} {H : Hp} : ∀ {vs : List V} {ds : List PyData} (n : Nat), PpAll K H vs ds → PpAll K H (vs.take n) (ds.take n)
  | _, _, 0, _ => .nil
  | _, _, _ + 1, .nil => .nil
  | _, _, n + 1, .cons h hs => .cons h (PpAll.take n hs)
theorem RdAll.drop {K : PySem.W.Frag} {ι : List Addr} {H : Hp} : ∀ {vs : List V} {ds : List D} (n : Nat), RdAll K ι H vs ds → RdAll K ι H (vs.drop n) (ds.drop n)
  | _, _, 0, h => h
  | _, _, _ + 1, .nil => .nil
  | _, _, n + 1, .cons _ hs => RdAll.drop n hs
theorem RdAll.take {K : PySem.W.Frag} {ι : List Addr} {H : Hp} : ∀ {vs : List V} {ds : List D} (n : Nat), RdAll K ι H vs ds → RdAll K ι H (vs.take n) (ds.take n)
  | _, _, 0, _ => .nil
  | _, _, _ + 1, .nil => .nil
  | _, _, n + 1, .cons h hs => .cons h (RdAll.take n hs)
theorem cut_len {α : Type} (xs : List α) (lo hi : Option Int) : (cutP xs lo hi).length ≤ xs.length := by
  unfold cutP
  rw [List.length_take, List.length_drop]
  omega
theorem cut_pp {K : PySem.W.Frag} {H : Hp} {vs : List V} {ds : List PyData} (h : PpAll K H vs ds) (lo hi : Option Int) : PpAll K H (cutV vs lo hi) (cutP ds lo hi) := by
  unfold cutV cutP
  rw [h.length]
  exact (h.drop _).take _
theorem cut_all {α : Type} (xs : List α) (lo hi : Option Int) (h : HT.sIx xs.length 0 lo = 0 ∧ HT.sIx xs.length xs.length hi = xs.length) : cutP xs lo hi = xs := by
  unfold cutP
  rw [h.1, h.2]
  simp
section
variable {e : Expr} {lo hi : Option Expr} {f : Ex} {fl fh : Px} {pos p2 : Pos}
theorem de_slice (he : DE X E e f) (hl : DP X E lo fl) (hh : DP X E hi fh) : DE X E (.Subscript e (.Slice lo hi none p2) pos) (sliceE f fl fh) := by
  obtain ⟨t, p, q⟩ := he
  obtain ⟨tl, pl, ql⟩ := hl
  obtain ⟨th, ph, qh⟩ := hh
  refine ⟨_, pe_slice ((sl_tupS (X := X)).or sl_str) p pl ph, fun σ H σd S ι Q hE hS h => ?_⟩
  refine q σ H σd S ι _ hE hS (Wp.bind h fun x S1 _ v H1 ι1 p1 r1 h1 => ?_)
  refine ql σ H1 σd S1 ι1 _ (hE.mono p1.pre p1.keep) p1.sto (Wp.bind h1 fun l S2 _ l' H2 ι2 p2 rl h2 => ?_)
  refine qh σ H2 σd S2 ι2 _ ((hE.mono p1.pre p1.keep).mono p2.pre p2.keep) p2.sto (Wp.bind h2 fun u S3 _ u' H3 ι3 p3 ru h3 => ?_)
  cases rl
  cases ru
  have r3 := (r1.mono p2.pre p2.keep).mono p3.pre p3.keep
  unfold sliceV at h3
  split at h3
  · rename_i ds _
    cases r3 with
    | py r3 =>
      cases r3 with
      | tup hT hz al =>
        have hc := cut_pp al l u
        have hcl := cut_len ds l u
        refine .inl ⟨_, _, rfl, hT.sq, fun ha => h3 _ _ _ (.refl p3.sto) (.py ?_), fun _ p o ho hp => h3 _ _ _ (.new p3.sto hp) (.py (.tup (.new ho) (Nat.le_trans hcl hz) (hc.keep (.new hp))))⟩
        rw [al.length] at ha
        rw [cut_all ds l u ha]
        exact .tup hT hz al
  · split at h3
    · rename_i hz
      exact .inr ⟨_, str_of r3, hz, h3 _ _ _ (.refl p3.sto) (.py (.str _))⟩
    · exact h3.elim
  · exact h3.elim
end
/-! ### list(range(..)) -/
section
variable {a b : Expr} {f g : Ex} {pos p pos2 p2 : Pos}
end
/-! ### sorted -/
theorem dints_V {K : PySem.W.Frag} {H : Hp} : ∀ {xs : List V} {ds : List PyData} {bs : List Int}, DpAll K H xs ds → intsOf ds = some bs → xs = bs.map V.int
  | _, _, bs, .nil, h => by cases h; rfl
  | _, _, bs, @DpAll.cons _ _ v vs d ds r rs, h => by
    cases r with
    | int b =>
      have h : Option.map (b :: ·) (intsOf ds) = some bs := h
      cases hb : intsOf ds with
      | none => rw [hb] at h; cases h
      | some bs' =>
        rw [hb] at h
        cases h
        rw [dints_V rs hb]
        rfl
    | _ => exact absurd h (by simp [intsOf])
theorem ints_noDict : ∀ {ds : List PyData} {bs : List Int}, intsOf ds = some bs → PyData.hasDictAll ds = false
  | [], _, _ => PyData.hasDictAll.eq_1
  | d :: ds, bs, h => by
    cases d with
    | int b =>
      have h : Option.map (b :: ·) (intsOf ds) = some bs := h
      cases hb : intsOf ds with
      | none => rw [hb] at h; cases h
      | some bs' =>
        rw [PyData.hasDictAll.eq_2, ints_noDict hb]
        simp [PyData.hasDict]
    | _ => exact absurd h (by simp [intsOf])
/-! ### join -/
def strsOf : List PyData → Option (List Str)
  | [] => some []
  | .str b :: ds => (strsOf ds).map (b :: ·)
  | _ => none
def joinD : D → List D → Sto → R D
  | .py (.str a), [.py (.list ds)], S => (match strsOf ds with
    | some ys => if (ys.map (·.length)).sum + ys.length * a.length ≤ 16777216 then .ok (.py (.str (Txt.join a ys))) S else .no
    | none => .no)
  | .py (.str a), [.py (.tuple ds)], S => (match strsOf ds with
    | some ys => if (ys.map (·.length)).sum + ys.length * a.length ≤ 16777216 then .ok (.py (.str (Txt.join a ys))) S else .no
    | none => .no)
  | _, _, _ => .no
theorem strs_V {K : PySem.W.Frag} {H : Hp} : ∀ {xs : List V} {ds : List PyData} {bs : List Str}, PpAll K H xs ds → strsOf ds = some bs → xs = bs.map V.str
  | _, _, bs, .nil, h => by cases h; rfl
  | _, _, bs, @PpAll.cons _ _ v vs d ds r rs, h => by
    cases r with
    | str b =>
      have h : Option.map (b :: ·) (strsOf ds) = some bs := h
      cases hb : strsOf ds with
      | none => rw [hb] at h; cases h
      | some bs' =>
        rw [hb] at h
        cases h
        rw [strs_V rs hb]
        rfl
    | _ => exact absurd h (by simp [strsOf])
theorem dm_join : DM X "str" "str.join" joinD := by
  refine ⟨_, mt_join (X := X), fun x xs d ds H S ι E Q hS rx r hw => ?_⟩
  unfold joinD at hw
  split at hw
  · split at hw
    · rename_i ys hys
      split at hw
      · rename_i hz
        cases r with
        | cons r rs =>
          cases rs
          cases r with
          | py r =>
            cases r with
            | lst h hz2 al => exact ⟨_, _, ys, str_of rx, rfl, .inl (strs_V al hys ▸ h.sq), hz, hw _ _ _ (.refl hS) (.py (.str _))⟩
      · exact hw.elim
    · exact hw.elim
  · split at hw
    · rename_i ys hys
      split at hw
      · rename_i hz
        cases r with
        | cons r rs =>
          cases rs
          cases r with
          | py r =>
            cases r with
            | tup h hz2 al => exact ⟨_, _, ys, str_of rx, rfl, .inr (strs_V al hys ▸ h.sq), hz, hw _ _ _ (.refl hS) (.py (.str _))⟩
      · exact hw.elim
    · exact hw.elim
  · exact hw.elim
/-! ### < of whole numbers and of tuples of them -/
def ltD : D → D → Sto → R D
  | .py (.int i), .py (.int j), S => .ok (.py (.bool (decide (i < j)))) S
  | .py (.tuple a), .py (.tuple b), S => (match intsOf a, intsOf b with
    | some ns, some ms => .ok (.py (.bool (HT.lexLt ns ms))) S
    | _, _ => .no)
  | _, _, _ => .no
theorem do_ltX {k : Nat} (o : Okx k X E) : DOp X (compareOp .Lt) ltD := by
  refine ⟨_, (op_lt (X := X)).or (op_ltT (X := X) (by have := o.room.units; omega)), fun x y d e H S ι E Q hS rx ry hw => ?_⟩
  unfold ltD at hw
  split at hw
  · exact .inl ⟨_, _, int_of rx, int_of ry, hw _ _ _ (.refl hS) (.py (.bl _))⟩
  · split at hw
    · rename_i ns ms h1 h2
      cases rx with
      | py rx =>
        cases ry with
        | py ry =>
          cases rx with
          | tup hx hz al =>
            cases ry with
            | tup hy hz2 bl => exact .inr ⟨_, _, ns, ms, rfl, rfl, ints_V al h1 ▸ hx.sq, ints_V bl h2 ▸ hy.sq, hw _ _ _ (.refl hS) (.py (.bl _))⟩
    · exact hw.elim
  · exact hw.elim
/-! ### max and min of a list of whole numbers -/
end DV

set_option maxHeartbeats 4000000
namespace DV
open PySem PySem.Spec PyProof.Rows L2
/-! Methods of texts that make new lists; insert. -/
variable {X : Cx} {E : XK}
def methSL (g : D → List D → Sto → R (List D)) (o : Ex) (a : Ax) : Ax := fun σ S => (o σ S).bind fun x S1 => match x with
  | .py (.str _) => (a σ S1).bind fun ds S2 => g x ds S2
  | _ => .no
/-- a method that makes a new list -/
def DML (X : Cx) (id : String) (g : D → List D → Sto → R (List D)) : Prop := ∃ r, MtR X id r ∧ ∀ x xs d ds H S ι E Q, StR X.K ι H S → Rd X.K ι H x d → RdAll X.K ι H xs ds → Wp X.K X.mg E ι H (relL X.K H) (g d ds S) Q → r x xs H Q
theorem relL_old {K : PySem.W.Frag} {mg : Str → Option Value} {ι ι1 : List Addr} {H H1 : Hp} {S1 : Sto} {r : R (List D)} {Q : VK} (p1 : Post K ι H ι1 H1 S1) (h1 : Wp K mg E ι H (relL K H) r Q) : Wp K mg E ι1 H1 (relL K H1) r Q := by
  cases r with
  | no => exact h1.elim
  | ex c S2 => exact (Wp.re (rel := relL K H1) (Q := Q) p1 (show Wp K mg E ι H (relL K H1) (R.ex c S2) Q from h1))
  | ok ys S2 =>
    intro v H2 ι2 p2 r2
    obtain ⟨a, vs2, h0, rest⟩ := r2
    refine h1 v H2 ι2 (p1.trans p2) ⟨a, vs2, ?_, rest⟩
    cases q0 : H a with
    | none => rfl
    | some u => exact absurd h0 (p1.dom a (by rw [q0]; simp))
section
variable {o e : Expr} {es : List Expr} {f : Ex} {fs : Ax} {name : Str} {id : String} {apos cpos : Pos} {gg : D → List D → Sto → R (List D)}
theorem dl_methS (slot : Slot "str" name id) (hty : typeOf (.builtin id) = pure (.type "method_descriptor")) (hm : DML X id gg) (ho : DE X E o f) (ha : DA X E (e :: es) fs)
    (hbase : attributeBase o name X.env (eval o X.env) = eval o X.env := by rfl)
    (hfew : ((backTo cpos (starEach (e :: es) X.env)).all (fun x => !x.1) && (backToKw cpos (keywordEach [] X.env)).all (fun x => x.1.isSome)
      && decide ((e :: es).length + ([] : List Keyword).length + (if ([] : List Keyword).isEmpty then 0 else 1) < 30)) = true := by rfl)
    (hline : (apos.endLine == cpos.line) = true := by rfl) (hs : starEach (e :: es) X.env = (false, eval e X.env) :: starEach es X.env := by rfl) (hplain : (backTo cpos (starEach es X.env)).any (·.1) = false := by rfl) :
    DL X E (.Call (.Attribute o name apos) (e :: es) [] cpos) (methSL gg f fs) := by
  obtain ⟨t, p, q⟩ := ho
  obtain ⟨l, u, pu, qu⟩ := ha
  obtain ⟨r, hr, qr⟩ := hm
  refine ⟨_, pe_bm PySem.F.plainAttrs_str slot hty hr p pu hbase hfew hline hs hplain, fun σ H σd S ι Q hE hS h => ?_⟩
  refine q σ H σd S ι _ hE hS (Wp.bind0 h fun d S1 _ v H1 ι1 p1 r1 h1 => ?_)
  split at h1
  · rename_i z _
    refine ⟨by cases r1 with | py r1 => cases r1; rfl, ?_⟩
    refine qu σ H1 σd S1 ι1 _ (hE.mono p1.pre p1.keep) p1.sto (Wp.bind0 (Wp.re p1 h1) fun d2 S2 _ v2 H2 ι2 p2 r2 h2 => ?_)
    have h3 : Wp X.K X.mg E ι1 H1 (relL X.K H1) (gg (.py (.str z)) d2 S2) Q := by
      cases hg : gg (.py (.str z)) d2 S2 with
      | no => rw [hg] at h2; exact h2.elim
      | ex c S3 => rw [hg] at h2; exact h2
      | ok ys S3 =>
        rw [hg] at h2
        intro v H3 ι3 p3 r3
        obtain ⟨a, vs2, h0, rest⟩ := r3
        refine h2 v H3 ι3 p3 ⟨a, vs2, ?_, rest⟩
        cases q0 : H a with
        | none => rfl
        | some u => exact absurd h0 (p1.dom a (by rw [q0]; simp))
    exact qr _ _ _ _ _ _ _ E _ p2.sto (r1.mono p2.pre p2.keep) r2 (relL_old p2 h3)
  · exact h1.elim
end
def splitD : D → List D → Sto → R (List D)
  | .py (.str a), [.py (.str b)], S => if (b.length == 0) = false ∧ a.length + 2 ≤ sizeLine ∧ (Txt.split a b).length ≤ sizeLine then .ok ((Txt.split a b).map fun x => D.py (.str x)) S else .no
  | _, _, _ => .no
theorem strs_rd {K : PySem.W.Frag} {ι : List Addr} {H : Hp} : ∀ l : List Str, RdAll K ι H (l.map V.str) (l.map fun i => D.py (.str i))
  | [] => .nil
  | i :: l => .cons (.py (.str _)) (strs_rd l)
theorem dml_split : DML X "str.split" splitD := by
  refine ⟨_, mt_split (X := X), fun x xs d ds H S ι E Q hS rx r hw => ?_⟩
  unfold splitD at hw
  split at hw
  · split at hw
    · rename_i hz
      cases r with
      | cons r rs =>
        cases rs
        refine ⟨_, _, str_of rx, by rw [str_of r], hz.1, hz.2.1, fun p hp => hw _ _ _ (.new hS hp) ⟨p, _, hp, rfl, upd_same, hS.notin hp, by rw [List.length_map]; exact hz.2.2, strs_rd _⟩⟩
    · exact hw.elim
  · exact hw.elim
end DV

set_option maxHeartbeats 4000000
namespace PySem
open Sem (wp)
section
variable {prog : Program} {w : World} {A : Around} {R : Result → Shared → Prop} {I : Addr} {fp wr : List Addr} {n : Nat} {P : Nat → Value → Prop} {St : Nat → Heap → Prop}
def preLists (lst : Nat → List Value) : Nat → List Value
  | 0 => []
  | n + 1 => preLists lst n ++ lst n
def TotL (h0 : Heap) (lst : Nat → List Value) (t0 : Addr) (i : Nat) (h : Heap) (t : Addr) : Prop :=
  (i = 0 ∧ t = t0) ∨ (h0.get? t = none ∧ h.get? t = some { cls := .type "list", data := .seq (preLists lst i).toArray })
theorem TotL.isList {h0 h : Heap} {lst : Nat → List Value} {t0 t : Addr} {i : Nat} (x : TotL h0 lst t0 i h t) (h1 : h.IsList t0 #[]) : h.IsList t (preLists lst i).toArray := by
  rcases x with ⟨rfl, rfl⟩ | ⟨_, e⟩
  · exact h1
  · exact ⟨_, e, rfl, _, rfl⟩
theorem TotL.kept {h0 h h' : Heap} {lst : Nat → List Value} {t0 t : Addr} {i : Nat} (x : TotL h0 lst t0 i h t) (k : ∀ o, h.get? t = some o → h'.get? t = some o) : TotL h0 lst t0 i h' t := by
  rcases x with ⟨rfl, rfl⟩ | ⟨e0, e⟩
  · exact .inl ⟨rfl, rfl⟩
  · exact .inr ⟨e0, k _ e⟩
end
section
variable {prog : Program} {w : World} {A : Around} {E : Value → Shared → Prop} {s : Shared}
end
end PySem
namespace DV
open PySem PySem.Spec PyProof.Rows L2
variable {X : Cx} {E : XK}
/-- sum(lists, []) -/
def listsOf : List PyData → Option (List (List PyData))
  | [] => some []
  | .list l :: ds => (listsOf ds).map (l :: ·)
  | _ => none
def sumL (f : Ex) : Ax := fun σ S => (f σ S).bind fun d S1 => match d with
  | .py (.list ds) => (match listsOf ds with
    | some Ls => if Ls.flatten.length ≤ sizeLine then .ok (Ls.flatten.map .py) S1 else .no
    | none => .no)
  | _ => .no
end DV

set_option maxHeartbeats 4000000
namespace DV
open PySem PySem.Spec PyProof.Rows L2
/-! A list turned about; insert. -/
variable {X : Cx} {E : XK}
def revL (a : Ex) : Ax := fun σ S => (a σ S).bind fun x S1 => match x with
  | .py (.list ds) => .ok (ds.reverse.map .py) S1
  | _ => .no
section
variable {e : Expr} {f : Ex} {k : Nat} {pos p1 p2 p3 : Pos}
end
end DV

set_option maxHeartbeats 4000000
namespace DV
open PySem PySem.Spec PyProof.Rows L2
/-! is True; int of a truth; in of a tuple of tuples; not in range. -/
variable {X : Cx} {E : XK}
/-! ### in of a tuple, deep -/
/-! ### not in range -/
section
variable {a : Expr} {f : Ex} {j : Int} {kk : Nat} {p p1 pos pos2 : Pos}
end
end DV

set_option maxHeartbeats 4000000
namespace L2
open PySem PySem.Spec PyProof.Rows
end L2
namespace DV
open PySem PySem.Spec PyProof.Rows L2
variable {X : Cx} {E : XK}
/-- range(e, -1, -1) -/
def dwnI (e : Ex) : DV.It := fun σ S => (e σ S).bind fun d S1 => match d with
  | .py (.int j) => if -1 ≤ j ∧ j < 16777216 then .ok (rngV 0 (j + 1).toNat).reverse S1 else .no
  | _ => .no
section
variable {a : Expr} {f : Ex} {k1 k2 : Nat} {p p1 p2 p3 p4 pos : Pos}
end
end DV

set_option maxHeartbeats 4000000
namespace DV
open PySem PySem.Spec PyProof.Rows L2
/-! Dicts that are never changed: dict(pairs), d[k]. -/
variable {X : Cx} {E : XK}
def keyOf : PyData → Option Key
  | .int i => some (.inl i)
  | .str x => some (.inr x)
  | _ => none
@[simp] theorem keyOf_keyP (k : Key) : keyOf (keyP k) = some k := by cases k <;> rfl
def pairsOf : List PyData → Option (List (Key × PyData))
  | [] => some []
  | .tuple [k, v] :: ds => (match keyOf k, pairsOf ds with
    | some k, some r => some ((k, v) :: r)
    | _, _ => none)
  | _ => none
def dictF (f : Ex) : Ex := fun σ S => (f σ S).bind fun d S1 => match d with
  | .py (.list ds) => (match pairsOf ds with
    | some kv => if (kv.map Prod.fst).Nodup then .ok (.py (.dict (kv.map fun p => (keyP p.1, p.2)))) S1 else .no
    | none => .no)
  | _ => .no
def tFzD (t : TE) : TE := fun σ H Q => t σ H fun v H1 => ∃ a kvs, v = .ref a ∧ H1 a = some (.dK kvs) ∧ ∀ o, Q v (upd H1 a (.frz o (.dK kvs)))
theorem pe_frzD {e : Expr} {t : TE} (p : PE X e t) : PE X e (tFzD t) := by
  refine ⟨fun pins s σ H Q I h => thn (p.run pins s σ H _ I h) fun u s1 ⟨v, H1, I1, r, a, xs, ev, ha, q⟩ => ?_⟩
  obtain ⟨o, I2⟩ := I1.lock ha trivial
  exact ⟨v, _, I2, r, q o⟩
section
variable {e i : Expr} {f g : Ex} {p pos : Pos}
def dlook : List (PyData × PyData) → Key → Option PyData
  | [], _ => none
  | (p, d) :: r, k => if keyOf p = some k then some d else dlook r k
def dgetF (a b : Ex) : Ex := fun σ S => (a σ S).bind fun x S1 => (b σ S1).bind fun y S2 => match x, y with
  | .py (.dict kvs), .py k => (match keyOf k with
    | some k => (match dlook kvs k with
      | some d => .ok (.py d) S2
      | none => .no)
    | none => .no)
  | _, _ => .no
end
end DV

set_option maxHeartbeats 4000000
namespace DV
open PySem PySem.Spec PyProof.Rows L2
/-! insert; == of lists that may be changed; count of whole numbers and truths. -/
variable {X : Cx} {E : XK}
def insertD : D → List D → Sto → R D
  | .obj n, [.py (.int i), d], S => (match S[n]? with
    | some (.lst ds) => if ds.length < sizeLine ∧ 0 ≤ i ∧ i < 2 ^ 62 then .ok (.py .none) (S.set n (.lst (ds.take i.toNat ++ [d] ++ ds.drop i.toNat))) else .no
    | _ => .no)
  | _, _, _ => .no
def neOD (x y : D) (S : Sto) : R D := match deep S 8 x, deep S 8 y with
  | some d, some e => if SeqAt.shaped d = true ∧ SeqAt.shaped e = true then .ok (.py (.bool (!PyData.eqv d e))) S else .no
  | _, _ => .no
end DV

set_option maxHeartbeats 4000000
namespace DV
open PySem PySem.Spec PyProof.Rows L2
/-! < of data that are alike, place by place, nested. -/
section
variable {X : Cx} {E : XK}
def ltOk (d e : PyData) : Prop := PySem.W.alike d e = true ∧ isNon d = false ∧ d.hasDict = false ∧ e.hasDict = false ∧ d.depth ≤ 60
instance (d e : PyData) : Decidable (ltOk d e) := by unfold ltOk; infer_instance
end
end DV

set_option maxHeartbeats 4000000
namespace DV
open PySem PySem.Spec PyProof.Rows L2
/-! A def that is called upon an error that is handled: what it tells by the error's class. -/
section
variable {X : Cx}
/-- xs.count(x) -/
def countD : D → List D → Sto → R D
  | x, [y], S => (match deep S 8 x, deep S 8 y with
    | some (.list es), some p => if SeqAt.shaped (.list es) = true ∧ SeqAt.shaped p = true then .ok (.py (.int ((es.countP fun z => PyData.eqv z p : Nat) : Int))) S else .no
    | _, _ => .no)
  | _, _, _ => .no
def rCountD (K : PySem.W.Frag) : V → List V → Hp → VK → Prop := fun x xs H Q => ∃ (b : Addr) (y : V) (p : PyData) (es : List PyData), x = .ref b ∧ xs = [y] ∧ Dp K H (.ref b) (.list es) ∧ Dp K H y p ∧ SeqAt.shaped (.list es) = true ∧ SeqAt.shaped p = true ∧
  Q (.int ((es.countP fun z => PyData.eqv z p : Nat) : Int)) H
theorem mt_countD (hu : X.A.units + 65 < cLine) : MtR X "list.count" (rCountD X.K) := by
  intro pins s σ H x xs v us Q I rx rxs h
  obtain ⟨b, y, p, es, rfl, rfl, hb, hy, sh, sp, q⟩ := h
  cases rx
  cases rxs with
  | cons r0 r1 =>
    cases r1
    obtain ⟨ys, rd⟩ := Dp.reads I p y _ hy r0
    have lay : PyData.canLayAll0 es = true := SeqAt.canLay_of_shaped sh
    cases hb with
    | lst hl al =>
      obtain ⟨us, ru, ⟨⟨c1, d1, t1, s1⟩, m, e1, e2, e3, e4⟩, le⟩ := I.list hl
      simp only at e2 e4
      subst e2 e4
      obtain ⟨zs, all⟩ := Dp.readsAll I es _ us al ru
      have mp : us.map (SeqAt.readOf s.heap) = es := SeqAt.readsAll_map es us zs lay all
      refine call_meets PySem.F.slot_list_count ⟨_, e1, rfl⟩ PySem.F.entry_list_count (PySem.F.args_list_count_2 _ _) (SeqAt.list_countAt b us.toArray m d1 s1 _ (fun u => PyData.eqv (SeqAt.readOf s.heap u) p))
        ⟨e1, SeqAt.items_eqAt (vs := us.toArray) all rd lay (SeqAt.canLay_of_shaped sp) (room_in_shaped sp hu), ?_⟩
      have ec : us.toArray.toList.countP (fun u => PyData.eqv (SeqAt.readOf s.heap u) p) = es.countP fun z => PyData.eqv z p := by
        rw [← mp, List.countP_map]
        rfl
      rw [ec]
      exact ⟨.int _, H, I.tok _, ⟨_, rfl⟩, q⟩
theorem dm_countU (hu : X.A.units + 65 < cLine) : DM X "list" "list.count" countD := by
  refine ⟨_, mt_countD (X := X) hu, fun x xs d ds H S ι E Q hS rx r hw => ?_⟩
  unfold countD at hw
  split at hw
  · split at hw
    · rename_i es p he hp
      split at hw
      · rename_i hs
        cases r with
        | cons r rs =>
          cases rs
          have dx := deep_dp hS _ rx he (noDict_of hs.1)
          obtain ⟨a, rfl⟩ := dp_list_ref dx
          exact ⟨a, _, p, es, rfl, rfl, dx, deep_dp hS _ r hp (noDict_of hs.2), hs.1, hs.2, hw _ _ _ (.refl hS) (.py (.int _))⟩
      · exact hw.elim
    · exact hw.elim
  · exact hw.elim
theorem dm_indexU (hu : X.A.units + 65 < cLine) : DM X "list" "list.index" indexD := by
  refine ⟨_, mt_indexD (X := X) hu, fun x xs d ds H S ι E Q hS rx r hw => ?_⟩
  unfold indexD at hw
  split at hw
  · split at hw
    · rename_i es p he hp
      split at hw
      · rename_i hs
        split at hw
        · rename_i j hj
          cases r with
          | cons r rs =>
            cases rs
            have dx := deep_dp hS _ rx he (noDict_of hs.1)
            obtain ⟨a, rfl⟩ := dp_list_ref dx
            unfold placeOf at hj
            obtain ⟨h1, h2, h3⟩ := List.findIdx?_eq_some_iff_getElem.mp hj
            refine ⟨a, _, p, es, j, es[j], rfl, rfl, dx, deep_dp hS _ r hp (noDict_of hs.2), hs.1, hs.2, List.getElem?_eq_getElem h1, h2, fun m z' hm hz => ?_, hw _ _ _ (.refl hS) (.py (.int _))⟩
            obtain ⟨h4, h5⟩ := List.getElem?_eq_some_iff.mp hz
            have := h3 m hm
            rw [h5] at this
            simpa using this
        · exact hw.elim
      · exact hw.elim
    · exact hw.elim
  · exact hw.elim
/-- != of whole numbers, texts, truths -/
def neFD : D → D → Sto → R D
  | .py d, .py e, S => (match flatD d e with
    | some k => .ok (.py (.bool (!k))) S
    | none => .no)
  | _, _, _ => .no
theorem do_neF : DOp X (compareOp .NotEq) neFD := by
  refine ⟨_, op_ne (X := X), fun x y d e H S ι E Q hS rx ry hw => ?_⟩
  cases rx with
  | obj _ => exact hw.elim
  | raw _ => exact hw.elim
  | py rx =>
    cases ry with
    | obj _ => exact hw.elim
    | raw _ => exact hw.elim
    | py ry =>
      unfold neFD at hw
      simp only at hw
      split at hw
      · rename_i k hf
        obtain ⟨h1, h2⟩ := flat_scal rx ry hf
        refine ⟨h1, ?_⟩
        rw [h2]
        exact hw _ _ _ (.refl hS) (.py (.bl _))
      · exact hw.elim
end
/-! ### isinstance of the error that is handled -/
/-- the name in slot i holds the thing at a: the answer is b -/
def isaE (a i : Nat) (b : Bool) : Ex := fun σ S => match σ[i]? with
  | some (some (.raw a')) => if a' = a then .ok (.py (.bool b)) S else .no
  | _ => .no
section
variable {X : Cx} {E : XK} {a D : Addr} {oe : Obj} {pos p p1 p2 : Pos} {x y : Str}
theorem call_isH {u : Value} {b : Bool} (C : ExcC X.K D) (hp : (a, oe) ∈ X.pn) (hz : Zc (.ref D) none oe) (hf : ∃ vs, oe.data = .fields vs) (e : PySem.W.kitOne X.K (.ref D) u = some b) :
    CallR X (.builtin "isinstance") (fun xs H Q => ∃ c : V, xs = [.ref a, c] ∧ (∀ w, RelV c w → w = u) ∧ Q (.bl b) H) := by
  intro pins s σ H xs us Q I r h
  obtain ⟨c, rfl, hc, q⟩ := h
  cases r with
  | cons r0 r =>
    cases r with
    | cons r1 r =>
      cases r
      cases r0
      cases hc _ r1
      have at_ := (I.pin (a, oe) (List.mem_append_left _ hp)).1
      have inst : PySem.W.InstAt s.heap a oe D none := by
        obtain ⟨vs, hv⟩ := hf
        obtain ⟨k1, k2, k3, k4⟩ := oe
        obtain ⟨z1, z2⟩ := hz
        dsimp only at z1 z2 hv
        subst z1 z2 hv
        exact ⟨at_, rfl, rfl, trivial⟩
      refine PySem.W.kia_one (PySem.W.handS_kitx_exc C.hg C.hk C.hs C.hd C.ha C.hn C.ht C.hm) I.kIn inst e (fun z => nomatch z) fun tk => ?_
      exact ⟨.bl b, H, I.kept (t' := tk) fun _ _ z => z, rfl, q⟩
theorem de_isa {u : Value} {cv : V} {b : Bool} (i : Nat) (C : ExcC X.K D) (hp : (a, oe) ∈ X.pn) (hz : Zc (.ref D) none oe) (hf : ∃ vs, oe.data = .fields vs) (e : PySem.W.kitOne X.K (.ref D) u = some b)
    (hc : ∃ t, PE X (.Name y p2) t ∧ ∀ σ H Q, Q cv H → t σ H Q) (hcv : ∀ w, RelV cv w → w = u) (hm : X.mg "isinstance" = none) (hN : X.N[i]? = some x := by rfl) (hv : Vis X.env.scope x := by first | exact Or.inl rfl | exact Or.inr (Or.inl rfl) | exact Or.inr (Or.inr rfl))
    (hd : (x == ("__debug__" : Str)) = false := by decide) (hcd : (x == ("__classdict__" : Str)) = false := by decide) (hg : Gl X "isinstance" := by rfl)
    (he : starEach [.Name x p1, .Name y p2] X.env = (false, eval (.Name x p1) X.env) :: starEach [.Name y p2] X.env := by rfl) (he2 : starEach [.Name y p2] X.env = (false, eval (.Name y p2) X.env) :: starEach [] X.env := by rfl) (hpl : (backTo pos (starEach [.Name y p2] X.env)).any (·.1) = false := by rfl) :
    DE X E (.Call (.Name "isinstance" p) [.Name x p1, .Name y p2] [] pos) (isaE a i b) := by
  obtain ⟨tc, pc, qc⟩ := hc
  refine ⟨_, pe_callB (call_isH C hp hz hf e) hg hm rfl (pa_cons (pe_var (i := i) hN hv hd hcd) (pa_cons pc pa_nil he2) he) (by decide) (by decide) he hpl, fun σ H σd S ι Q hE hS h => ?_⟩
  unfold isaE at h
  split at h
  · rename_i a' hs
    split at h
    · rename_i ea
      subst ea
      obtain ⟨v, hv, rv⟩ := hE.at_ i _ hs
      cases rv
      exact ⟨.ref a', hv, qc _ _ _ ⟨cv, rfl, hcv, h _ _ _ (.refl hS) (.py (.bl b))⟩⟩
    · exact h.elim
  · exact h.elim
theorem cls_own {C : Addr} (hm : X.mg y = some (.ref C)) (hg : Gl X y := by rfl) (hd : (y == ("__debug__" : Str)) = false := by decide) : ∃ t, PE X (.Name y p2) t ∧ ∀ σ H Q, Q (V.ref C) H → t σ H Q :=
  ⟨_, pe_glob (v := V.ref C) hg hm (show RelV (V.ref C) (Value.ref C) from rfl) hd, fun σ H Q q => q⟩
theorem cls_bltn {T : String} (hm : X.mg y = none) (hb : bootBuiltins y = some (.type T) := by rfl) (hg : Gl X y := by rfl) (hn : y ≠ "__name__" := by decide) (hd : (y == ("__debug__" : Str)) = false := by decide) : ∃ t, PE X (.Name y p2) t ∧ ∀ σ H Q, Q (V.ty T) H → t σ H Q :=
  ⟨_, pe_bltn (v := .ty T) hg hm hb rfl hn hd, fun σ H Q q => q⟩
end
/-! ### such a def's promise -/
/-- called upon an error of the class c that is handled it tells the text t -/
def WordD (P : Program) (w : World) (K : PySem.W.Frag) (mg : Str → Option Value) (base : Heap) (k : Nat) (f : Addr) (c t : Str) : Prop :=
  ∀ (A : Around) (outer : List Env) (s : Shared) (H : Hp) (Q : VK) (a : Addr) (oe : Obj), L2H.RoomH k A → L2H.PinOk outer H s (a, oe) → Zc (clsV mg c) none oe → (∃ vs, oe.data = .fields vs) → Env0 P w K mg base A outer s H →
    (∃ ι S, StR K ι H S ∧ ∀ H' ι', Post K ι H ι' H' S → Q (.str t) H') → codeAny (model P w) A (.call (.ref f) ⟨[.ref a], []⟩) (CR C8.CX0 outer P w H s Q C8.E0) s
section
variable {P : Program} {w : World} {K : PySem.W.Frag} {mg : Str → Option Value} {base : Heap}
theorem word_ok {x qual e : Str} {st : Stmt} {f D : Addr} {fd : FuncData} {N : List Str} {k : Nat} {c t : Str} {b : Addr → Sx} (F : L2.Fun K x qual st f fd) (Sc : FnScope N [e] (defScope st)) (hb : Binds K fd [e] []) (hD : clsV mg c = .ref D)
    (hbody : ∀ (cdv : Value) (A : Around) (outer : List Env) (s : Shared) (H : Hp) (a : Addr) (oe : Obj), Zc (.ref D) none oe → (∃ vs, oe.data = .fields vs) → (A.deeper (envOfC qual (defScope st) s.heap.objs.size f cdv)).units + 65 < cLine →
      DSs (L2H.cxH C8.CX0 P w K mg base N qual (defScope st) f cdv A outer s H C8.E0 (a, oe)) C8.E0 (defBody st) (b a))
    (res : ∀ (a : Addr) (S : Sto), b a (init N.length [.raw a]) S = .rt (.py (.str t)) S) : WordD P w K mg base (k + 1) f c t := by
  obtain ⟨oc, od, kV, doc, pm, an, cdv, ct, osl, rfl, lk, hcd⟩ := F.ex
  intro A outer s H Q a oe hr hpin hz hf e0 hq
  rw [hD] at hz
  obtain ⟨ι, S, hS, hq⟩ := hq
  have KX : K.In s.heap := e0.mod.kin.keeps fun b o e => (e0.bs b o e).1
  have lim : s.heap.NoLimit := e0.mod.nolimit.keeps fun b o e => (e0.bs b o e).1
  have bind := hb s [.ref a] KX rfl
  rw [List.append_nil] at bind
  have hkind : ∀ y ∈ [e].zip [Value.ref a], (defScope st).names.lookup y.1 = some .local ∨ ((defScope st).names.lookup y.1 = some .cell ∧ ((cellsFrom (s.heap.objs.size + 1) (defScope st).names []).lookup y.1).isSome = true) := fun ⟨n, v⟩ hy => by
    rcases Sc.par n (List.of_mem_zip hy).1 with q | q
    · exact .inl q
    · exact .inr ⟨q, PySem.W.cellsFrom_some _ _ _ (.inl q)⟩
  refine codeAny_call_function hr.depth (KX _ _ lk) rfl Sc.co Sc.gen rfl (PySem.W.codeRec_of KX hcd) (bind _ _ _ _ ?_)
  refine wpAny_newFunctionEnv_cells Sc.kind hkind fun env he s1 xx => ?_
  subst he
  refine ⟨lim.keeps xx.toInCall.keep, codeAny_func ?_⟩
  have hr2 := (L2H.RoomH.deeper hr (envOfC qual (defScope st) s.heap.objs.size f cdv)).un
  obtain ⟨tt, ht, hd⟩ := hbody cdv A outer s H a oe hz hf (by omega)
  have I : Inv (L2H.cxH C8.CX0 P w K mg base N qual (defScope st) f cdv A outer s H C8.E0 (a, oe)) [] (L2.start N [.ref a]) H s1 := L2H.inv_startH Sc hpin e0 rfl (.cons rfl .nil) xx
  refine wpAny_mono (ht.run [] s1 (L2.start N [.ref a]) H { nx := fun _ H' => Q .non H', rt := Q } I (hd _ _ _ S ι _ (init_rel N (.cons (.raw a) .nil)) hS ?_)) (fun fl s' hs => ?_) fun e s' hs => hs
  · rw [res a S]
    intro v H' ι' pp rv
    rw [str_of rv]
    exact hq H' ι' pp
  · have fin : ∀ {σ' : L2.St} {H' : Hp} {v : V} {u : Value}, Inv (L2H.cxH C8.CX0 P w K mg base N qual (defScope st) f cdv A outer s H C8.E0 (a, oe)) [] σ' H' s' → RelV v u → Q v H' → CE outer P w H s Q u s' :=
      fun {σ' H' v u} J rv q => ⟨v, H', J.os, J.bare, J.base, J.hok, rv, q⟩
    cases fl with
    | ret u =>
      obtain ⟨v, σ', H', J, rv, q⟩ := hs
      exact fin J rv q
    | next =>
      obtain ⟨σ', H', J, q⟩ := hs
      exact fin (v := V.non) (u := Value.none) J rfl q
    | brk =>
      obtain ⟨_, _, _, q⟩ := hs
      exact False.elim q
    | cont =>
      obtain ⟨_, _, _, q⟩ := hs
      exact False.elim q
end
end DV

set_option maxHeartbeats 4000000
namespace DV
open PySem PySem.Spec PyProof.Rows L2
/-! A lambda without parameters, handed to a def that calls it and tells what its value shows, or a word of its error. -/
def saidR (W : List (Str × Str)) (r : R D) : R D := match r with
  | .ok d S => reprD [d] S
  | .ex c S => (match W.lookup c with
    | some t => .ok (.py (.str t)) S
    | none => .no)
  | .no => .no
/-- the table of a def that makes lambdas stands in the store -/
def tabIn (P : Nat) (q : Str) (S : Sto) : Prop := ∃ i : Nat, S[i]? = some (.tab P q)
open Classical in
noncomputable def saidE (P : Nat) (q : Str) (W : List (Str × Str)) (f : Ex) : Ex := fun σ S => if tabIn P q S then saidR W (f σ S) else .no
/-! ### the lambda's body -/
section
variable {X : Cx} {E : XK} {k : Nat}
theorem okx_lam {A : Around} {outer : List Env} {s : Shared} {H : Hp} {scope : Scope} {f c' : Addr} (nd : X.N.Nodup) (hr : Room k (A.deeper (LamX.lamEnv X scope s.heap.objs.size f c'))) (hg : A.guards = some []) : Okx k (LamX.lamCx X A outer s H E scope f c') E where
  calm := rfl
  nd := nd
  room := hr
  gd := hg
  take := takes_of rfl rfl rfl rfl
  pass := passes_call (takes_of rfl rfl rfl rfl) fun _ _ _ _ h => h
  own := passes_of rfl
/-- what is wanted of an expression that does f upon data -/
def wishE (K : PySem.W.Frag) (mg : Str → Option Value) (fx : Ex) (E : XK) : TE := fun σ H Q => ∃ σd S ι, EnR K ι H σ σd ∧ StR K ι H S ∧ Wp K mg E ι H (relD K) (fx σd S) Q
theorem pe_wish {e : Expr} {fx : Ex} (h : DE X E e fx) : PE X e (wishE X.K X.mg fx E) := by
  obtain ⟨t, p, q⟩ := h
  exact ⟨fun pins s σ H Q I ⟨σd, S, ι, hE, hS, hw⟩ => p.run pins s σ H Q I (q σ H σd S ι Q hE hS hw)⟩
/-- x(), x the lambda that the def got: Y is that def's context (within its try) -/
theorem pe_lam {pins : List (Addr × Obj)} {σ : L2.St} {H : Hp} {s : Shared} {Ng : List Str} {qg : Str} {sg : Scope} {g f c' : Addr} {cdg pm ctv : Value} {params : Arguments} {body : Expr} {scope : Scope} {i : Nat} {x : Str} {pn : List (Addr × Obj)} {xe : Value → Shared → Prop} {W : WX} {tb : XK → TE} {p1 p2 : Pos} {Eg : XK}
    (I : Inv X pins σ H s) (L : LamX.LamS X.env.scope scope) (hf : s.heap.get? f = some (PySem.W.kla_obj "<lambda>" (X.env.qual ++ "<lambda>") params body scope (cloFrom X.env.cells scope.names []) pm c' ctv)) (hn : H f = none) (hr : f ∉ frs X.stack)
    (hb : bindArgs (PySem.W.kla_fn "<lambda>" (X.env.qual ++ "<lambda>") params body scope (cloFrom X.env.cells scope.names []) pm (.ref c') ctv) ⟨[], []⟩ = pure [])
    (tk : Takes ((cxOf C8.CX0 X.prog X.w X.K X.mg X.base Ng qg sg g cdg X.A X.stack s H Eg).tr pn xe) W) (rm : Room (k + 1) (X.A.deeper (envOfC qg sg s.heap.objs.size g cdg))) (gd : X.A.guards = some [])
    (hbody : ∀ (A : Around) (outer : List Env) (s : Shared) (H : Hp) (E : XK), Room k (A.deeper (LamX.lamEnv X scope s.heap.objs.size f c')) → A.guards = some [] → PE (LamX.lamCx X A outer s H E scope f c') body (tb E))
    (hN : Ng[i]? = some x) (hv : Vis sg x) (hd : (x == ("__debug__" : Str)) = false) (hcd : (x == ("__classdict__" : Str)) = false) :
    PE ((cxOf C8.CX0 X.prog X.w X.K X.mg X.base Ng qg sg g cdg X.A X.stack s H Eg).tr pn xe) (.Call (.Name x p1) [] [] p2)
      (fun σ2 H2 Q => σ2[i]? = some (some (.ref f)) ∧ H2 c' = some (LamX.CodeO c' (X.env.qual ++ "<lambda>")) ∧ tb (WE W σ2) σ H2 Q) := by
  refine ⟨fun pins2 s2 σ2 H2 Q I2 h => ?_⟩
  obtain ⟨hslot, hcode, hwish⟩ := h
  have rd := (pe_var (pos := p1) (i := i) hN hv hd hcd).run pins2 s2 σ2 H2 (fun v H' => v = .ref f ∧ H' = H2) I2 ⟨.ref f, hslot, rfl, rfl⟩
  refine wpAny_Call_Name_kw (thn rd fun u s3 ⟨v, H3, I3, rv, ev, eH⟩ => ?_)
  subst ev
  rw [eH] at I3
  cases (show u = Value.ref f from rv)
  have there := I3.base.keep f _ hf hn hr (fun z => nomatch (show f ∈ ([] : List Addr) from z))
  refine PySem.W.callWith_F0 ⟨_, _, _, _, there⟩ ?_
  obtain ⟨⟨o3, flds, tq, e1, e2, e3⟩, _, _⟩ := I3.hok c' _ hcode
  have run : codeAny (model X.prog X.w) (X.A.deeper (envOfC qg sg s.heap.objs.size g cdg)) (.call (.ref f) ⟨[], []⟩) (CR (L2.CX X.prog X.w) (envOfC qg sg s.heap.objs.size g cdg :: X.stack) X.prog X.w H2 s3 Q (WE W σ2)) s3 := by
    refine PySem.W.kla_callFunE rm.depth there rfl L.co L.gen rfl ⟨c', o3, flds, tq, rfl, e1, e2, e3⟩ ?_
    rw [hb]
    refine wpAny_pure (wpAny_newFunctionEnv (fun y m => (L.own y m).2) (fun y m => absurd m (by simp)) (fun hh ns bs => ⟨I3.nolimit.fresh _ bs, ?_⟩) L.kind)
    show codeAny _ _ (.expr body (LamX.lamEnv X scope s3.heap.objs.size f c')) _ _
    have kept : ∀ b o, s3.heap.get? b = some o → hh.get? b = some o := fun b o e => bs.extBut b o (Nat.ne_of_lt (Heap.lt_size e)) (Heap.get?_push_of_some _ e)
    have un : Un (frs X.stack) [] H H2 s.heap s3.heap := I3.base
    have J := LamX.lam_start2 (A := X.A.deeper (envOfC qg sg s.heap.objs.size g cdg)) (outer := envOfC qg sg s.heap.objs.size g cdg :: X.stack) (E := WE W σ2) (f := f) (c' := c') (tk := s3.toks + ([] : List (Str × Value)).length) I L I3.env0 rm.hd un ns kept
    refine PySem.W.kla_codeExpr (wpAny_mono ((hbody _ _ s3 H2 (WE W σ2) (rm.deeper _) gd).run [] _ _ H2 Q J hwish) (fun v s' hq => ?_) fun e s' hq => hq)
    obtain ⟨v', H', J', rv', q⟩ := hq
    exact ⟨v', H', J'.os, J'.bare, J'.base, J'.hok, rv', q⟩
  refine wpAny_call (codeAny_mono run fun r s' hq => ?_)
  match r, hq with
  | .error e, hq => exact passAt tk σ2 pins2 H2 s3 e s' I3 hq
  | .ok (.ret u), hq => exact I3.after hq
  | .ok .next, hq => exact hq.elim
  | .ok .brk, hq => exact hq.elim
  | .ok .cont, hq => exact hq.elim
end
/-! ### the lambda is made -/
/-- what the heap knows behind a lambda's making: as much as ahead, or its code object, newly told by the table at P -/
def MadeL (H H1 : Hp) (P c' : Addr) (q : Str) : Prop := H1 = H ∨ ∃ ps more, H P = some (.tbl ps) ∧ H c' = none ∧ H1 = upd (upd H P (.tbl (ps ++ more))) c' (LamX.CodeO c' q)
theorem MadeL.at_ {H H1 : Hp} {P c' : Addr} {q : Str} (m : MadeL H H1 P c' q) {b : Addr} {o : HO} (e : H b = some o) : H1 b = some o ∨ (b = P ∧ ∃ ps, H1 b = some (.tbl ps)) := by
  rcases m with rfl | ⟨ps, more, h1, h2, rfl⟩
  · exact .inl e
  · have ne : b ≠ c' := ne_of_none e h2
    rw [upd_ne ne]
    by_cases hb : b = P
    · subst hb
      exact .inr ⟨rfl, _, upd_same⟩
    · rw [upd_ne hb]
      exact .inl e
section
variable {X : Cx} {pins : List (Addr × Obj)} {σ : L2.St} {H : Hp} {s : Shared}
theorem lam_mk {c P : Addr} {params : Arguments} {body : Expr} {scope : Scope} {pos : Pos} {E Q : Value → Shared → Prop} (I : Inv X pins σ H s) (TB : LamX.TabB X.base X.mg c P) (hcode : X.env.code = .ref c)
    (tb : LamX.TabS H P (X.env.qual ++ "<lambda>")) (hdef : defaultsOf params X.env = ([], [])) (hfree : ∀ y ∈ scope.names, y.2 = .free → ∃ c, X.env.cells.lookup y.1 = some c)
    (h : ∀ (f c' : Addr) (pm ctv : Value) (H1 : Hp) (s' : Shared), Inv X pins σ H1 s' → MadeL H H1 P c' (X.env.qual ++ "<lambda>") → LamX.TabS H1 P (X.env.qual ++ "<lambda>") →
      s'.heap.get? f = some (PySem.W.kla_obj "<lambda>" (X.env.qual ++ "<lambda>") params body scope (cloFrom X.env.cells scope.names []) pm c' ctv) → H1 f = none → f ∉ frs X.stack → H1 c' = some (LamX.CodeO c' (X.env.qual ++ "<lambda>")) → Q (.ref f) s') :
    wpAny (model X.prog X.w) X.A (eval (.Lambda params body scope pos) X.env) Q E s := by
  obtain ⟨ps, hP, tr, am⟩ := tb
  have atP : s.heap.get? P = some { cls := .none, data := .fields ps } := I.hok P _ hP
  have noFr : ∀ f, s.heap.objs.size ≤ f → f ∉ frs X.stack := fun f hf z => by
    rcases List.mem_cons.mp (I.stkSub _ z) with e | e
    · have := I.lt
      rw [← e] at this
      exact absurd hf (Nat.not_le_of_lt this)
    · exact I.nofs hf e
  refine PySem.W.kla_eval hdef ?_
  cases hc : codeAmong pos ps.toList with
  | some cv =>
    obtain ⟨c', rfl, hco⟩ := am pos cv hc
    refine PySem.W.kla_makeFunctionHit (mg := X.mg) (c := c) (P := P) (ps := ps) (closure_ok hfree) I.ok.glob (I.mod.glob.keeps I.bk) hcode (TB.code.keeps I.bk) atP tr hc (TB.bm.keeps I.bk) fun ctv h' tk kp sz => ?_
    have J : Inv X pins σ H { s with heap := h'.push (PySem.W.kla_obj "<lambda>" (X.env.qual ++ "<lambda>") params body scope (cloFrom X.env.cells scope.names []) ((X.mg "__name__").getD .none) c' ctv), toks := tk } :=
      I.kept fun b o e => Heap.get?_push_of_some _ (kp b o e)
    exact h h'.objs.size c' _ ctv H _ J (.inl rfl) ⟨ps, hP, tr, am⟩ (Heap.get?_push_size _ rfl) (I.hok.fresh sz) (noFr _ sz) hco
  | none =>
    refine PySem.W.kla_makeFunction (mg := X.mg) (c := c) (P := P) (ps := ps) (closure_ok hfree) I.ok.glob (I.mod.glob.keeps I.bk) hcode (TB.code.keeps I.bk) atP tr hc TB.gP (TB.bm.keeps I.bk) fun c' ctv h' tk kp ge lt rec_ htb => ?_
    obtain ⟨c2, oc, flds, tq, ec, hoc, hd, hv⟩ := rec_
    cases ec
    have sz : s.heap.objs.size ≤ h'.objs.size := Nat.le_trans ge (Nat.le_of_lt lt)
    have nC : H c' = none := I.hok.fresh ge
    have nPC : P ≠ c' := ne_of_none hP nC
    have J := LamX.inv_table (t' := tk) (more := #[rawInt pos.line, rawInt pos.col, .ref c']) (h' := h'.push (PySem.W.kla_obj "<lambda>" (X.env.qual ++ "<lambda>") params body scope (cloFrom X.env.cells scope.names []) ((X.mg "__name__").getD .none) c' ctv)) I hP
      (fun b o hb e => Heap.get?_push_of_some _ (kp b o hb e)) (Heap.get?_push_of_some _ htb) ge ⟨oc, flds, tq, Heap.get?_push_of_some _ hoc, hd, hv⟩
    refine h h'.objs.size c' _ ctv _ _ J (.inr ⟨ps, _, hP, nC, rfl⟩) ⟨_, by rw [upd_ne nPC, upd_same], ?_, fun p' cv hcv => ?_⟩ (Heap.get?_push_size _ rfl) ?_ (noFr _ sz) upd_same
    · have el : (ps ++ #[rawInt pos.line, rawInt pos.col, Value.ref c']).toList = ps.toList ++ [rawInt pos.line, rawInt pos.col, .ref c'] := by simp
      rw [el]
      exact PySem.TriplesOk_snoc _ _ _ _ tr
    · have el : (ps ++ #[rawInt pos.line, rawInt pos.col, Value.ref c']).toList = ps.toList ++ [rawInt pos.line, rawInt pos.col, .ref c'] := by simp
      rw [el] at hcv
      rcases LamX.among_app _ tr hcv with z | rfl
      · obtain ⟨c0, e1, e2⟩ := am p' cv z
        refine ⟨c0, e1, ?_⟩
        have n1 : c0 ≠ c' := ne_of_none e2 nC
        have n2 : c0 ≠ P := fun w => by
          rw [w, hP] at e2
          exact LamX.codeO_ne ps (Option.some.inj e2).symm
        rw [upd_ne n1, upd_ne n2]
        exact e2
      · exact ⟨c', rfl, upd_same⟩
    · have n1 : h'.objs.size ≠ c' := Nat.ne_of_gt lt
      have n2 : h'.objs.size ≠ P := Nat.ne_of_gt (Nat.lt_of_lt_of_le (Heap.lt_size atP) sz)
      rw [upd_ne n1, upd_ne n2]
      exact I.hok.fresh sz
end
/-- what was told of the heap is told behind it -/
theorem MadeL.keep {H H1 : Hp} {P c' : Addr} {q : Str} (m : MadeL H H1 P c' q) (tb : LamX.TabS H P q) : Keep H H1 := by
  obtain ⟨ps, hP, _, _⟩ := tb
  refine ⟨fun b xs e => ?_, fun b o u e => ?_⟩
  · rcases m.at_ e with z | ⟨rfl, _⟩
    · exact z
    · rw [hP] at e
      cases e
  · rcases m.at_ e with z | ⟨rfl, _⟩
    · exact z
    · rw [hP] at e
      cases e
theorem MadeL.post {K : PySem.W.Frag} {ι : List Addr} {S : Sto} {H H1 : Hp} {P c' : Addr} {q : Str} (m : MadeL H H1 P c' q) (hS : StR K ι H S) (h0 : tabIn P q S) (tb1 : LamX.TabS H1 P q) : Post K ι H ι H1 S := by
  obtain ⟨i0, h0⟩ := h0
  have tb := hS.tb i0 P q h0
  have kp := m.keep tb
  obtain ⟨ps, hP, _, _⟩ := tb
  have lst : ∀ (b : Addr) (vs : MO), H b = some vs.ho → H1 b = some vs.ho := fun b vs e => by
    rcases m.at_ e with z | ⟨rfl, _⟩
    · exact z
    · rw [hP] at e
      cases vs <;> cases e
  have dom : ∀ b, H b ≠ none → H1 b ≠ none := fun b e => by
    obtain ⟨o, e⟩ := Option.ne_none_iff_exists'.mp e
    rcases m.at_ e with z | ⟨_, _, z⟩
    · rw [z]
      simp
    · rw [z]
      simp
  refine ⟨List.prefix_refl _, kp, ⟨hS.len, hS.nd, fun n a e => dom a (hS.there n a e), fun n o a e1 e2 => (hS.at_ n o a e1 e2).mono (List.prefix_refl _) kp (lst a), fun n P' q' e => ?_⟩, fun b vs n e => ⟨lst b (.lst vs) e, n⟩, dom⟩
  by_cases hn : n = i0
  · subst hn
    rw [h0] at e
    cases e
    exact tb1
  have ad : ∀ (m P0 : Nat) (q0 : Str), S[m]? = some (.tab P0 q0) → ι[m]? = some P0 := fun m P0 q0 e => by
    have hm : m < ι.length := by rw [hS.len]; exact (List.getElem?_eq_some_iff.mp e).1
    have e1 := List.getElem?_eq_getElem hm
    have z := hS.at_ m _ _ e e1
    generalize ι[m] = a at z e1
    cases z
    exact e1
  have ne : P' ≠ P := fun z => hn (nodup_at hS.nd (ad n P' q' e) (z ▸ ad i0 P q h0))
  obtain ⟨ps, h1, h2, h3⟩ := hS.tb n P' q' e
  have to : ∀ (b : Addr) (o : HO), H b = some o → b ≠ P → H1 b = some o := fun b o e hb => by
    rcases m.at_ e with z | ⟨z, _⟩
    · exact z
    · exact absurd z hb
  refine ⟨ps, to _ _ h1 ne, h2, fun pos cv hc => ?_⟩
  obtain ⟨c, e1, e2⟩ := h3 pos cv hc
  refine ⟨c, e1, to _ _ e2 fun z => ?_⟩
  rw [z, hP] at e2
  exact LamX.codeO_ne _ (Option.some.inj e2).symm
/-! ### the def that calls it -/
section
variable {X : Cx} {E : XK} {k kw : Nat}
/-- the suite: return word(e) -/
theorem pe_word {a : Addr} {oe : Obj} {cls : Value} {d : Option Addr} {pn : List (Addr × Obj)} {W : List (Str × Str)} {xw e : Str} {fw : Addr} {fdw : FuncData} {ew : Str} {i : Nat} {p1 p2 p3 : Pos} (hr : Room kw X.A) (at_ : At X.K X.mg xw fw fdw [ew])
    (hW : ∀ c t, W.lookup c = some t → WordD X.prog X.w X.K X.mg X.base kw fw c t) (hz : Zc cls d oe) (hf : ∃ vs, oe.data = .fields vs) (hg : Gl X xw) (hdb : (xw == ("__debug__" : Str)) = false) (hN : X.N[i]? = some e) (hv : Vis X.env.scope e) (hd : (e == ("__debug__" : Str)) = false) (hcd : (e == ("__classdict__" : Str)) = false)
    (he : starEach [.Name e p1] X.env = (false, eval (.Name e p1) X.env) :: starEach [] X.env) (hpl : (backTo p3 (starEach [] X.env)).any (·.1) = false) :
    PE (X.suite a ((a, oe) :: pn)) (.Call (.Name xw p2) [.Name e p1] [] p3) (fun σ H Q => σ[i]? = some (some (.ref a)) ∧ d = none ∧ ∃ c t, cls = clsV X.mg c ∧ W.lookup c = some t ∧ ∃ ι S, StR X.K ι H S ∧ ∀ H' ι', Post X.K ι H ι' H' S → Q (.str t) H') := by
  refine ⟨fun pins s σ H Q I h => ?_⟩
  obtain ⟨hs, rfl, c, t, rfl, hl, ι, S, hS, hq⟩ := h
  have rd := (pa_cons (X := X.suite a ((a, oe) :: pn)) (pe_var (pos := p1) (i := i) hN hv hd hcd) pa_nil he).run p3 pins s σ H (fun vs H' => vs = [.ref a] ∧ H' = H) I ⟨.ref a, hs, rfl, rfl⟩
  refine wpAny_Call_Name_kw (ld_glob (X := X.suite a ((a, oe) :: pn)) I hg at_.g ?_ hdb)
  refine PySem.W.callWith_K (h₀ := X.base) I.ok.mod.kin at_.kp (thn rd fun us s1 ⟨vs, H1, I1, r1, e1, e2⟩ => ⟨I1.kIn, ?_⟩) he hpl
  subst e1
  rw [e2] at I1
  cases r1 with
  | cons r0 r1 =>
    cases r1
    cases r0
    obtain ⟨g1, g2, g3, g4, g5⟩ := I1.pin (a, oe) (List.mem_append_left _ (List.mem_cons_self ..))
    have pin : L2H.PinOk X.stack H s1 (a, oe) := ⟨g1, g2, fun m => (List.mem_cons.mp (I1.stkSub a m)).elim g3 g4, g5⟩
    refine wpAny_call (codeAny_mono (hW c t hl (X.A.mark (some (.ref a))) X.stack s1 H Q a oe ⟨hr.dp, hr.un⟩ pin hz hf I1.env0 ⟨ι, S, hS, hq⟩) fun r s' hq => ?_)
    match r, hq with
    | .error e, hq => exact hq.elim
    | .ok (.ret u), hq => exact I1.after hq
    | .ok .next, hq => exact hq.elim
    | .ok .brk, hq => exact hq.elim
    | .ok .cont, hq => exact hq.elim
theorem WordD.up {P : Program} {w : World} {K : PySem.W.Frag} {mg : Str → Option Value} {base : Heap} {j k : Nat} {f : Addr} {c t : Str} (h : WordD P w K mg base j f c t) (l : j ≤ k) : WordD P w K mg base k f c t :=
  fun A outer s H Q a oe hr => h A outer s H Q a oe (hr.mono l)
/-- x(lambda: body), x: try: return repr(a()) / except G as e: return word(e) -/
theorem de_said {xs xw xg a e ew : Str} {st : Stmt} {g fw G cL P : Addr} {fd fdw : FuncData} {q : Str} {W : List (Str × Str)} {params : Arguments} {body : Expr} {scope : Scope} {p lpos pos r1 r2 r3 r4 r5 r6 r7 r8 r9 r10 r11 r12 : Pos} {fx : Ex}
    (o : Okx (k + 2) X E) (F : L2.Fun X.K xs xs st g fd) (Sc : FnScope [a, e] [a] (defScope st)) (at_ : At X.K X.mg xs g fd [a])
    (hbd : defBody st = [.Try [.Return (some (.Call (.Name "repr" r1) [.Call (.Name a r2) [] [] r3] [] r4)) r5] [.ExceptHandler (some (.Name xg r6)) (some e) [.Return (some (.Call (.Name xw r7) [.Name e r8] [] r9)) r10] r11] [] [] r12])
    (atw : At X.K X.mg xw fw fdw [ew]) (hW : ∀ c t, W.lookup c = some t → WordD X.prog X.w X.K X.mg X.base kw fw c t) (hkw : kw ≤ k + 1) (mG : X.mg xg = some (.ref G)) (hG : ∀ c t, W.lookup c = some t → PySem.W.exmOne X.K (clsV X.mg c) (.ref G) = some true)
    (mrepr : X.mg "repr" = none) (hcode : X.env.code = .ref cL) (TB : LamX.TabB X.base X.mg cL P) (hq : q = X.env.qual ++ "<lambda>") (hL : LamX.lamSB X.env.scope scope = true)
    (hfx : ∀ (A : Around) (outer : List Env) (s : Shared) (H : Hp) (E : XK) (f c' : Addr), Okx k (LamX.lamCx X A outer s H E scope f c') E → DE (LamX.lamCx X A outer s H E scope f c') E body fx)
    (hdef : defaultsOf params X.env = ([], []) := by rfl) (hb : ∀ (q : Str) (cl : List (Str × Addr)) (pm cv ctv : Value), bindArgs (PySem.W.kla_fn "<lambda>" q params body scope cl pm cv ctv) ⟨[], []⟩ = pure [] := by intros; rfl)
    (hg : Gl X xs := by rfl) (hdb : (xs == ("__debug__" : Str)) = false := by decide) (s1 : (defScope st).names.lookup ("repr" : Str) = some .globalImplicit := by rfl) (s2 : (defScope st).names.lookup xg = some .globalImplicit := by rfl) (s3 : (defScope st).names.lookup xw = some .globalImplicit := by rfl)
    (s4 : (defScope st).names.lookup a = some .local := by rfl) (s5 : (defScope st).names.lookup e = some .local := by rfl) (d1 : (xg == ("__debug__" : Str)) = false := by decide) (d2 : (xw == ("__debug__" : Str)) = false := by decide) (d3 : (a == ("__debug__" : Str)) = false := by decide) (d4 : (e == ("__debug__" : Str)) = false := by decide)
    (d5 : (a == ("__classdict__" : Str)) = false := by decide) (d6 : (e == ("__classdict__" : Str)) = false := by decide) : DE X E (.Call (.Name xs p) [.Lambda params body scope lpos] [] pos) (saidE P q W fx) := by
  refine ⟨fun σ H Q => ∃ σd S ι, EnR X.K ι H σ σd ∧ StR X.K ι H S ∧ Wp X.K X.mg E ι H (relD X.K) (saidE P q W fx σd S) Q, ⟨fun pins s σ H Q I h => ?_⟩, fun σ H σd S ι Q hE hS h => ⟨σd, S, ι, hE, hS, h⟩⟩
  obtain ⟨σd, S, ι, hE, hS, hw⟩ := h
  unfold saidE at hw
  split at hw
  · rename_i h0
    subst hq
    · have tb := hS.tb _ _ _ h0.choose_spec
      have L := LamX.lamS_by hL
      refine wpAny_Call_Name_kw (ld_glob I hg at_.g ?_ hdb)
      refine PySem.W.callWith_K (h₀ := X.base) I.ok.mod.kin at_.kp ?_ (by rfl) (by rfl)
      show wpAny _ _ (spliced ((false, eval (.Lambda params body scope lpos) X.env) :: backTo pos (starEach [] X.env))) _ _ s
      refine Calls.spliced_cons (lam_mk I TB hcode tb hdef (L.has I.ok) fun f c' pm ctv H1 s1' I1 made tb1 hf hn hfr hco => ?_)
      refine Calls.spliced_nil ⟨I1.kIn, ?_⟩
      have P1 := made.post hS h0 tb1
      have hE1 : EnR X.K ι H1 σ σd := hE.mono P1.pre P1.keep
      have hw1 : Wp X.K X.mg E ι H1 (relD X.K) (saidR W (fx σd S)) Q := Wp.re P1 hw
      obtain ⟨oc, od, kV, doc, pmd, an, cdv, ct, osl, rfl, lk, hcd⟩ := F.ex
      have bind := at_.b s1' [.ref f] I1.kIn rfl
      rw [List.append_nil] at bind
      have rc : codeAny (model X.prog X.w) X.A (.call (.ref g) ⟨[.ref f], []⟩) (CR C8.CX0 X.stack X.prog X.w H1 s1' Q C8.E0) s1' := by
        refine LamX.run_ofS (N := [a, e]) (ps := [a]) (us := [.ref f]) (vs := [.ref f]) lk hcd Sc (o.room.mono (Nat.le_refl _)) I1.env0 bind (.cons rfl .nil) rfl fun hr' => ?_
        rw [hbd]
        let Y : Cx := (cxOf C8.CX0 X.prog X.w X.K X.mg X.base [a, e] xs (defScope st) g cdv X.A X.stack s1' H1 C8.E0).nox
        have okz : ∀ (pn : List (Addr × Obj)) (xe : Value → Shared → Prop), PassesOwn (model X.prog X.w) Y.A Y.env xe → Okx (k + 1) (Y.tr pn xe) C8.E0 := fun pn xe own =>
          { calm := rfl, nd := Sc.nd, room := hr', gd := o.gd, pass := passes_call LamX.takes0 (fun _ _ _ _ h => h), take := LamX.takes0, own := own }
        have try_ := ps_try_as (X := Y) (x := xg) (n := e) (c := .ref G) (i := 1) (np := r6) (pos := r12) (pos' := r11) (Wout := fun _ _ _ _ => False)
          (tb := fun W' => fun D σ2 H2 => σ2[0]? = some (some (.ref f)) ∧ H2 c' = some (LamX.CodeO c' (X.env.qual ++ "<lambda>")) ∧ wishE X.K X.mg fx (WE W' σ2) σ H2 fun v H3 => ∃ p, Dp X.K H3 v p ∧ p.showable = true ∧ p.hasDict = false ∧ p.depth ≤ 60 ∧ p.shown.length ≤ sizeLine ∧ D.rt (.str p.shown) H3)
          (ts := fun a' cls d => fun D σ2 H2 => σ2[1]? = some (some (.ref a')) ∧ d = none ∧ ∃ c t, cls = clsV X.mg c ∧ W.lookup c = some t ∧ ∃ ι S, StR X.K ι H2 S ∧ ∀ H' ι', Post X.K ι H2 ι' H' S → D.rt (.str t) H')
          (body := [.Return (some (.Call (.Name "repr" r1) [.Call (.Name a r2) [] [] r3] [] r4)) r5]) (b₀ := .Return (some (.Call (.Name xw r7) [.Name e r8] [] r9)) r10) (suite := [])
          rfl rfl Sc.nd rfl s5 ⟨s2, d1, .inl mG⟩ LamX.takes0 (fun W' pn xe tk own => ?_) (fun a' oe cls d pn hz hf => ?_)
        · refine ⟨_, PSs.nox (pss_one try_), rfl, hco, σd, S, ι, hE1, P1.sto, ?_⟩
          unfold saidR at hw1
          cases hr1 : fx σd S with
          | no =>
            rw [hr1] at hw1
            exact hw1.elim
          | ok d S1 =>
            rw [hr1] at hw1
            intro v H3 ι3 pp rv
            unfold reprD at hw1
            simp only at hw1
            split at hw1
            · rename_i p hp
              split at hw1
              · rename_i hc
                exact ⟨p, deep_dp pp.sto _ rv hp hc.2.1, hc.1, hc.2.1, hc.2.2.1, hc.2.2.2, hw1 _ _ _ pp (.py (.str _))⟩
              · exact hw1.elim
            · exact hw1.elim
          | ex c S1 =>
            rw [hr1] at hw1
            simp only at hw1
            intro H3 ι3 pp
            cases hl : W.lookup c with
            | none =>
              rw [hl] at hw1
              exact hw1.elim
            | some t =>
              rw [hl] at hw1
              exact ⟨true, hG c t hl, fun _ a' na => ⟨rfl, rfl, c, t, rfl, hl, ι3, S1, pp.sto, fun H4 ι4 p4 => hw1 _ _ _ (pp.trans p4) (.py (.str t))⟩, fun z => nomatch z⟩
        · have act := pe_lam (Eg := C8.E0) (W := W') (tb := wishE X.K X.mg fx) (p1 := r2) (p2 := r3) (i := 0) I1 L hf hn hfr (hb _ _ _ _ _) tk hr' o.gd (fun A outer s H E hr2 hg2 => pe_wish (hfx A outer s H E f c' (okx_lam o.nd hr2 hg2))) rfl (.inl s4) d3 d5
          have cal := pe_callB (X := Y.tr pn xe) (x := "repr") (p := r1) (pos := r4) (call_reprD (okz pn xe own)) s1 mrepr rfl (pa_cons act pa_nil) (by decide) (by decide)
          have ret := pss_one (ps_ret (pos := r5) cal)
          refine ⟨fun pins2 s2 σ2 H2 N I2 h => ret.run pins2 s2 σ2 H2 N I2 ?_⟩
          obtain ⟨k1, k2, σ3, S3, ι3, k3, k4, k5⟩ := h
          exact ⟨k1, k2, σ3, S3, ι3, k3, k4, k5.mono fun v H3 ⟨p, e1, e2, e3, e4, e5, e6⟩ => ⟨v, p, rfl, e1, e2, e3, e4, e5, e6⟩⟩
        · have wd := pe_word (X := Y) (a := a') (oe := oe) (cls := cls) (d := d) (pn := pn) (W := W) (e := e) (i := 1) (p1 := r8) (p2 := r7) (p3 := r9) (kw := k + 1) hr' atw (fun c t h => (hW c t h).up hkw) hz hf s3 d2 rfl (.inl s5) d4 d6 rfl rfl
          have ret := pss_one (ps_ret (pos := r10) wd)
          exact ⟨fun pins2 s2 σ2 H2 N I2 h => ret.run pins2 s2 σ2 H2 N I2 h⟩
      refine wpAny_call (codeAny_mono rc fun r s' hq => ?_)
      match r, hq with
      | .error e, hq => exact hq.elim
      | .ok (.ret u), hq => exact I1.after hq
      | .ok .next, hq => exact hq.elim
      | .ok .brk, hq => exact hq.elim
      | .ok .cont, hq => exact hq.elim
  · exact hw.elim
end
end DV

set_option maxHeartbeats 4000000
namespace DV
open PySem PySem.Spec PyProof.Rows L2
/-! The end of a law whose def makes lambdas: its table of code objects is number 0 of the store. -/
section
variable {P : Program} {w : World} {K : PySem.W.Frag} {mg : Str → Option Value} {base : Heap}
/-- dfn, where the code object is known -/
theorem dfnT {x qual : Str} {st : Stmt} {f cL : Addr} {fd : FuncData} {N ps : List Str} {k : Nat} {b : Sx} (F : L2.Fun K x qual st f fd) (hc : fd.code = .ref cL) (S : FnScope N ps (defScope st))
    (hbody : ∀ (A : Around) (outer : List Env) (s : Shared) (H : Hp) (E : XK), Okx k (cxOf (L2.CX P w) P w K mg base N qual (defScope st) f (.ref cL) A outer s H E) E →
      DSs (cxOf (L2.CX P w) P w K mg base N qual (defScope st) f (.ref cL) A outer s H E) E (defBody st) b) : FnD P w K mg base (k + 1) f fd ps (fnF N.length b) := by
  obtain ⟨oc, od, kV, doc, pm, an, cdv, ct, osl, rfl, lk, hcd⟩ := F.ex
  have ec : cdv = .ref cL := hc
  subst ec
  refine ⟨fun A outer s H args us vs Q E hr hg e0 hb r hsp => ?_⟩
  obtain ⟨hl, ι, Sd, ds, hS, rr, hw⟩ := hsp
  have KX : K.In s.heap := e0.mod.kin.keeps fun b o e => (e0.bs b o e).1
  have lim : s.heap.NoLimit := e0.mod.nolimit.keeps fun b o e => (e0.bs b o e).1
  have hkind : ∀ y ∈ ps.zip us, (defScope st).names.lookup y.1 = some .local ∨ ((defScope st).names.lookup y.1 = some .cell ∧ ((cellsFrom (s.heap.objs.size + 1) (defScope st).names []).lookup y.1).isSome = true) := fun ⟨n, v⟩ hy => by
    rcases S.par n (List.of_mem_zip hy).1 with q | q
    · exact .inl q
    · exact .inr ⟨q, PySem.W.cellsFrom_some _ _ _ (.inl q)⟩
  refine codeAny_call_function hr.depth (KX _ _ lk) rfl S.co S.gen rfl (PySem.W.codeRec_of KX hcd) (hb _ _ _ _ ?_)
  refine wpAny_newFunctionEnv_cells S.kind hkind fun env he s1 xx => ?_
  subst he
  refine ⟨lim.keeps xx.toInCall.keep, codeAny_func ?_⟩
  obtain ⟨t, ht, hq⟩ := hbody A outer s H E (okx_def S hr hg)
  have I : Inv (cxOf (L2.CX P w) P w K mg base N qual (defScope st) f (.ref cL) A outer s H E) [] (start N vs) H s1 := inv_start S hr.hd e0 hl r xx
  refine wpAny_mono (ht.run [] s1 (start N vs) H _ I (hq _ _ _ _ _ _ (init_rel N rr) hS (WpF.fn hS hw))) (fun fl s' hs => ?_) fun e s' hs => hs
  have fin : ∀ {σ' : L2.St} {H' : Hp} {v : V} {u : Value}, Inv (cxOf (L2.CX P w) P w K mg base N qual (defScope st) f (.ref cL) A outer s H E) [] σ' H' s' → RelV v u → Q v H' → CE outer P w H s Q u s' :=
    fun {σ' H' v u} J rv q => ⟨v, H', J.os, J.bare, J.base, J.hok, rv, q⟩
  cases fl with
  | ret u =>
    obtain ⟨v, σ', H', J, rv, q⟩ := hs
    exact fin J rv q
  | next =>
    obtain ⟨σ', H', J, q⟩ := hs
    exact fin (v := V.non) (u := Value.none) J rfl q
  | brk =>
    obtain ⟨_, _, _, q⟩ := hs
    exact False.elim q
  | cont =>
    obtain ⟨_, _, _, q⟩ := hs
    exact False.elim q
theorem law_atT {k : Nat} {fa a T : Addr} {q : Str} {fd : FuncData} {x : Str} {F : List D → Sto → R D} {s : Shared} {ns : List Int} {H : Hp}
    (hF : FnD P w K mg base k fa fd [x] F) (hr : Room k callerA) (e0 : Env0 P w K mg base callerA [] s H) (hb : ∀ (s : Shared) (u : Value), BindsTo s fd ⟨[u], []⟩ [(x, u)]) (hl : ns.length ≤ sizeLine)
    (hS : FL K H a (ns.map V.int)) (hT : H T = some (.tbl #[])) (res : ∃ S', F [.py (.list (ns.map .int))] [.tab T q] = .ok (.py (.bool true)) S') :
    codeAny (model P w) callerA (.call (.ref fa) ⟨[.ref a], []⟩) (fun r s' => r = .ok (.ret (.bool true)) ∧ s'.os = s.os ∧ AllBare s'.gens ∧ ∃ H', Un [] [] H H' s.heap s'.heap ∧ HOk P w H' s'.heap) s := by
  obtain ⟨S', hres⟩ := res
  have hsp : spD K mg 1 F [.ref a] H (fun v _ => v = .bl true) fun _ _ _ => False := by
    refine ⟨rfl, [T], [.tab T q], [.py (.list (ns.map .int))], ⟨rfl, by simp, fun n b e => ?_, fun n o b e1 e2 => ?_, fun n P' q' e => ?_⟩, .cons (.py (.lst hS (by rw [List.length_map]; exact hl) (ints_pp ns))) .nil, ?_⟩
    · cases n with
      | zero =>
        cases e
        rw [hT]
        simp
      | succ n => simp at e
    · cases n with
      | zero =>
        cases e1
        cases e2
        exact .tab
      | succ n => simp at e1
    · cases n with
      | zero =>
        cases e
        exact LamX.TabS.nil hT
      | succ n => simp at e
    · rw [hres]
      exact fun v H' ι' _ r => bool_of r
  refine codeAny_mono (hF.run callerA [] s H ⟨[.ref a], []⟩ [.ref a] [.ref a] _ _ hr rfl e0 (hb s (.ref a)) (.cons rfl .nil) hsp) fun r s' h => ?_
  match r, h with
  | .error e, h => exact (cx_false h).elim
  | .ok .next, h => exact h.elim
  | .ok .brk, h => exact h.elim
  | .ok .cont, h => exact h.elim
  | .ok (.ret u), ⟨v, H', os, bare, un, hok, rv, q⟩ =>
    have q' : v = .bl true := q
    subst q'
    have e : u = Value.bool true := rv
    exact ⟨by rw [e], os, bare, H', un, hok⟩
/-- what the head leaves, with the script and the table tracked -/
theorem law_callT {mb : Str → Option Value} {k : Nat} {fa a T cL : Addr} {q : Str} {fd : FuncData} {x : Str} {F : List D → Sto → R D} {s : Shared} {vs : List Value} {ns : List Int}
    (KX : K.In s.heap) (hns : s.heap.Ns mainGlobals mg) (hb : s.heap.Ns builtinsNs mb) (hbb : ∀ x : Str, x ≠ "__name__" → mb x = bootBuiltins x) (hlim : s.heap.NoLimit) (hg : s.gens = #[])
    (hT : s.heap.get? T = some (PySem.W.tabObj #[])) (nT : K.lookup T = none) (hc : PySem.W.codeHdIn K cL T = true)
    (hbm : ∃ (bm : Addr) (ob : Obj), mg "__builtins__" = some (.ref bm) ∧ bm ≠ builtinsNs ∧ s.heap.get? bm = some ob ∧ ob.cls = .type "module" ∧ ob.dict = some builtinsNs ∧ ob.data = .plain)
    (ha : s.heap.get? a = some { cls := .type "list", data := .seq vs.toArray }) (hi : IntsAre vs ns) (hl : ns.length ≤ sizeLine) (hr : Room k callerA)
    (hF : ∀ base : Heap, K.In base → base.Ns mainGlobals mg → LamX.TabB base mg cL T → FnD P w K mg base k fa fd [x] F) (hbind : ∀ (s : Shared) (u : Value), BindsTo s fd ⟨[u], []⟩ [(x, u)])
    (res : ∃ S', F [.py (.list (ns.map .int))] [.tab T q] = .ok (.py (.bool true)) S') :
    codeAny (model P w) callerA (.call (.ref fa) ⟨[.ref a], []⟩) (fun r s' => r = .ok (.ret (.bool true)) ∧ OldK s.heap s'.heap ∧ s'.os = s.os ∧ AllBare s'.gens) s := by
  have rv := vals_ints hi
  have aT : a ≠ T := fun z => by
    rw [z, hT] at ha
    have z' : Data.fields #[] = Data.seq vs.toArray _ := congrArg Obj.data (Option.some.inj ha)
    cases z'
  have step : ∀ H : Hp, H T = some (.tbl #[]) → FL K H a (ns.map V.int) → HOk P w H s.heap → (∀ b u, H b = some u → b = T ∨ (b = a ∧ ∃ o xs, u = .frz o (.lst xs))) → (∀ u, H a = some u → K.lookup a = none) →
      codeAny (model P w) callerA (.call (.ref fa) ⟨[.ref a], []⟩) (fun r s' => r = .ok (.ret (.bool true)) ∧ OldK s.heap s'.heap ∧ s'.os = s.os ∧ AllBare s'.gens) s := by
    intro H hHT hS hok hA hK
    have free : ∀ {b : Addr} {o : Obj}, s.heap.get? b = some o → b ≠ a → b ≠ T → H b = none := fun {b o} _ n1 n2 => by
      cases q : H b with
      | none => rfl
      | some u => exact ((hA b u q).elim n2 fun z => n1 z.1).elim
    have seen : ∀ {b : Addr} {o : Obj}, s.heap.get? b = some o → (∀ vs n, o.data ≠ .seq vs n) → o.data ≠ .fields #[] → (hidT s.heap H).get? b = some o := fun {b o} e h1 h2 => hidT_get e (free e (fun z => by
      rw [z, ha] at e
      cases e
      exact h1 _ _ rfl) fun z => by
      rw [z, hT] at e
      cases e
      exact h2 rfl)
    have nsK : ∀ {b : Addr} {m : Str → Option Value}, s.heap.Ns b m → (hidT s.heap H).Ns b m := fun {b m} hn => by
      obtain ⟨o, es, ep, e, d, r⟩ := hn
      exact ⟨o, es, ep, seen e (fun vs n z => by rw [d] at z; cases z) (fun z => by rw [d] at z; cases z), d, r⟩
    have hKb : K.In (hidT s.heap H) := fun b o e => hidT_get (KX b o e) (by
      cases q : H b with
      | none => rfl
      | some u =>
        rcases hA b u q with z | z
        · rw [z, nT] at e
          cases e
        · rw [z.1] at e q
          rw [hK u q] at e
          cases e)
    have hM : Mod K mg (hidT s.heap H) := ⟨hKb, nsK hns, ⟨mb, nsK hb, hbb⟩, by obtain ⟨mc, h1, h2⟩ := hlim; exact ⟨mc, nsK h1, h2⟩⟩
    have nGT : mainGlobals ≠ T := fun z => by
      obtain ⟨o, es, ep, e, d, _⟩ := hns
      rw [z, hT] at e
      cases e
      cases d
    have TB : LamX.TabB (hidT s.heap H) mg cL T := by
      refine ⟨PySem.W.codeHd_of_K hKb hc, ?_, nGT⟩
      obtain ⟨bm, ob, b1, b2, b3, b4, b5, b6⟩ := hbm
      refine ⟨bm, ob, b1, b2, fun z => ?_, fun z => ?_, seen b3 (fun vs n z => by rw [b6] at z; cases z) (fun z => by rw [b6] at z; cases z), b4, b5, b6⟩
      · obtain ⟨o, es, ep, e, d, _⟩ := hns
        rw [z, e] at b3
        cases b3
        rw [d] at b6
        cases b6
      · rw [z, hT] at b3
        cases b3
        cases b6
    have e0 : Env0 P w K mg (hidT s.heap H) callerA [] s H :=
      { frames := rfl, mod := hM, bs := fun b o e => of_hidT e, bsz := Nat.le_of_eq (hidT_size _ _), funs := trivial, frf := fun b hb => (by cases hb), hok := hok, bare := .of_eq hg }
    refine codeAny_mono (law_atT (hF _ hKb (nsK hns) TB) hr e0 hbind hl hS hHT res) fun r s' h => ?_
    obtain ⟨rfl, os, bare, H', un, hok'⟩ := h
    obtain ⟨more, grown⟩ := un.tbls T #[] hHT
    have gT : s'.heap.get? T = some { cls := .none, data := .fields (#[] ++ more) } := hok' T _ grown
    have other : ∀ b o, b ≠ T → s.heap.get? b = some o → s'.heap.get? b = some o := fun b o nb e => by
      cases q : H b with
      | none => exact un.keep b o e q (by simp) (by simp)
      | some u =>
        obtain ⟨_, ob, xs, rfl⟩ := (hA b u q).resolve_left nb
        have e1 := (hok b _ q).1
        have e2 := (hok' b _ (un.frzs b ob _ q)).1
        rw [e] at e1
        cases e1
        exact e2
    refine ⟨rfl, ⟨fun b o e => ?_, fun b o e => ?_⟩, os, bare⟩
    · by_cases hb : b = T
      · subst hb
        rw [hT] at e
        cases e
        exact .inr (.inl ⟨((PySem.W.codeHd_of_K KX hc).tab hT).isCodeTable, rfl, #[], more, rfl, gT⟩)
      · exact .inl (other b o hb e)
    · by_cases hb : b = T
      · subst hb
        exact ⟨_, gT⟩
      · exact ⟨o, other b o hb e⟩
  have okT : ∀ {H : Hp}, H T = some (.tbl #[]) → (∀ b u, H b = some u → b ≠ T → ObjOk P w H s.heap b u) → HOk P w H s.heap := fun {H} h1 h2 b u e => by
    by_cases hb : b = T
    · subst hb
      rw [h1] at e
      cases e
      exact hT
    · exact h2 b u e hb
  cases hk : K.lookup a with
  | some o =>
    have e := KX a o hk
    rw [ha] at e
    cases e
    have at_ : ∀ b u, upd (fun _ => none) T (.tbl #[]) b = some u → b = T := fun b u z => by
      by_cases q : b = T
      · exact q
      · rw [upd_ne q] at z
        cases z
    refine step (upd (fun _ => none) T (.tbl #[])) upd_same (.inr ⟨_, vs.toArray, _, hk, rfl, rfl, rfl, rfl, by rw [List.size_toArray, hi.length]; exact hl, by simpa using rv⟩) (okT upd_same fun b u z nb => absurd (at_ b u z) nb) (fun b u z => .inl (at_ b u z)) fun u z => absurd (at_ a u z) aT
  | none =>
    have at_ : ∀ b u, upd (upd (fun _ => none) T (.tbl #[])) a (.frz { cls := .type "list", data := .seq vs.toArray } (.lst (ns.map V.int))) b = some u → b = T ∨ (b = a ∧ u = .frz { cls := .type "list", data := .seq vs.toArray } (.lst (ns.map V.int))) := fun b u z => by
      by_cases q : b = a
      · subst q
        rw [upd_same] at z
        cases z
        exact .inr ⟨rfl, rfl⟩
      · rw [upd_ne q] at z
        by_cases q2 : b = T
        · exact .inl q2
        · rw [upd_ne q2] at z
          cases z
    refine step _ ((upd_ne (Ne.symm aT)).trans upd_same) (.inl ⟨_, upd_same⟩) (okT ((upd_ne (Ne.symm aT)).trans upd_same) fun b u z nb => ?_) (fun b u z => (at_ b u z).imp id fun ⟨e1, e2⟩ => ⟨e1, _, _, e2⟩) fun _ _ => hk
    obtain ⟨rfl, rfl⟩ := (at_ b u z).resolve_left nb
    exact ⟨ha, by rw [List.length_map]; exact hl, vs, _, rv, ha⟩
end
theorem walk_ofT {l : PySem.W.OpenLaw} {n k : Nat} {q : Program} {loose : List Str} {XP : (Str → Option Value) → Heap → Prop} {YP : World → Heap → Prop} {d : DefRec} {K : Params → PySem.W.Frag} {F : Nat → List D → Sto → R D} {x qn : Str} {T cL : Addr}
    (hn : l.most = some n) (hn2 : n ≤ sizeLine) (hdf : d.params.defaults = []) (hr : Room k callerA) (hY : ∀ (w : World) (h : Heap), YP w h → (K w.params).In h ∧ h.get? T = some (PySem.W.tabObj #[])) (nT : ∀ w : World, (K w.params).lookup T = none) (hc : ∀ w : World, PySem.W.codeHdIn (K w.params) cL T = true)
    (hF : ∀ (w : World) (mg : Str → Option Value) (fa : Addr) (h : Heap), (K w.params).In h → h.Ns mainGlobals mg → mg d.name = some (.ref fa) →
      ∃ fd : FuncData, (∀ (s : Shared) (u : Value), BindsTo s fd ⟨[u], []⟩ [(x, u)]) ∧ ∀ base : Heap, (K w.params).In base → base.Ns mainGlobals mg → LamX.TabB base mg cL T → FnD l.prog w (K w.params) mg base k fa fd [x] (F T))
    (res : ∀ (T : Nat) (ns : List Int), ns.length ≤ n → ∃ S', F T [.py (.list (ns.map .int))] [.tab T qn] = .ok (.py (.bool true)) S') :
    PySem.W.WalkO q loose XP YP l.row.toRowW d [] (fun f vs => PySem.call f vs) := by
  refine Att.attach_call hn hdf fun w s₀ s₁ mg mb fa o pm cd doc a vs ns G Y ho hd hcd hmg hobj hints hlen hg => ?_
  obtain ⟨KX, hT⟩ := hY w _ Y
  obtain ⟨fd, hb, h⟩ := hF w mg fa _ KX G.T.g hmg
  exact law_callT KX G.T.g G.T.b G.T.builtins G.T.nolimit hg hT (nT w) (hc w) G.T.bmain hobj hints (Nat.le_trans hlen hn2) hr h hb (res T ns hlen)
end DV

set_option maxHeartbeats 4000000
namespace L2
open PySem PySem.Spec PyProof.Rows
section
variable {X : Cx}
/-- lists put together: a new list -/
theorem op_catN : OpR X (binaryOp .Add) (fun x y H Q => ∃ l b xs zs, x = V.ref l ∧ y = V.ref b ∧ SqL X.K H l xs ∧ SqL X.K H b zs ∧ xs.length + zs.length ≤ sizeLine ∧ ∀ p, H p = none → Q (.ref p) (upd H p (.lst (xs ++ zs)))) := by
  intro pins s σ H x y v u Q I rx ry h
  obtain ⟨l, b, xs, zs, rfl, rfl, hl, hb, hz, q⟩ := h
  cases rx
  cases ry
  obtain ⟨us, ru, ⟨⟨c1, d1, t1, s1⟩, m1, e1, f1, g1, h1⟩, _⟩ := I.list hl
  obtain ⟨ws, rw_, ⟨⟨c2, d2, t2, s2⟩, m2, e2, f2, g2, h2⟩, _⟩ := I.list hb
  simp only at f1 g1 h1 f2 g2 h2
  subst f1 g1 h1 f2 g2 h2
  have sz : us.toArray.size + ws.toArray.size ≤ sizeLine := by
    rw [List.size_toArray, List.size_toArray, ← ru.length, ← rw_.length]
    exact hz
  refine concat_meets ⟨_, e1, rfl⟩ ⟨_, e2, rfl⟩ noFill_list_add seq_list_add PySem.F.slot_list_add PySem.F.entry_list_add (PySem.F.args_list_add_2 _ _) (list_addW l b us.toArray ws.toArray m1 m2 none none s1 s2 sz) ⟨e1, e2, ?_⟩
  have ea : us.toArray ++ ws.toArray = (us ++ ws).toArray := by simp
  rw [ea]
  exact ⟨.ref _, _, I.lnew (t' := s.toks) (ru.append rw_) (by rw [List.length_append]; exact hz), rfl, q _ I.fresh⟩
/-- a text times a whole number of 2 and more -/
theorem op_repS : OpR X (binaryOp .Mult) (fun x y H Q => ∃ (z : Str) (k : Int), x = V.str z ∧ y = V.int k ∧ 2 ≤ k ∧ k ≤ 1000 ∧ 1 ≤ z.length ∧ z.length ≤ 1000 ∧ Q (.str ⟨(List.replicate k.toNat z.cps).foldl (· ++ ·) #[]⟩) H) := by
  intro pins s σ H x y v u Q I rx ry h
  obtain ⟨z, k, rfl, rfl, k0, k1, z0, z1, q⟩ := h
  obtain ⟨tz, rfl⟩ := rx
  obtain ⟨tk, rfl⟩ := ry
  have n1 : ¬ k < 1 := by omega
  have ne : (k == 1 || z.length == 0) = false := by
    have a1 : (k == 1) = false := beq_eq_false_iff_ne.mpr (by omega)
    have a2 : (z.length == 0) = false := beq_eq_false_iff_ne.mpr (by omega)
    rw [a1, a2]
    rfl
  refine PySem.P.mul_str ?_ (fun _ _ => ?_) (fun _ _ => ?_) ?_
  · have a1 : ¬ k < -(2 ^ 63 : Int) := by omega
    have a2 : ¬ k ≥ 2 ^ 63 := by omega
    rw [decide_eq_false a1, decide_eq_false a2]
    rfl
  · have a1 : (1000 : Int) ≤ (2 ^ 63 - 1) / k := Int.le_ediv_of_mul_le (by omega) (by omega)
    omega
  · have : z.length * k.toNat ≤ 1000 * 1000 := Nat.mul_le_mul z1 (by omega)
    have sl : (sizeLine : Nat) = 16777216 := sizeLine_eq
    exact decide_eq_false (by omega)
  · rw [if_neg n1, ne, if_neg Bool.false_ne_true]
    refine ⟨?_, .str _, H, I.tok _, ⟨_, rfl⟩, q⟩
    show (List.foldl (fun x1 x2 => x1 ++ x2) #[] (List.replicate k.toNat z.cps)).size ≤ sizeLine
    have sz : ∀ (m : Nat) (acc : Array Nat), (List.foldl (fun x1 x2 => x1 ++ x2) acc (List.replicate m z.cps)).size = acc.size + m * z.cps.size := by
      intro m
      induction m with
      | zero => simp
      | succ m ih =>
        intro acc
        rw [List.replicate_succ, List.foldl_cons, ih, Array.size_append, Nat.succ_mul]
        omega
    rw [sz]
    have : k.toNat * z.cps.size ≤ 1000 * 1000 := Nat.mul_le_mul (by omega) z1
    have sl : (sizeLine : Nat) = 16777216 := sizeLine_eq
    simp
    omega
end
end L2
namespace DV
open PySem PySem.Spec PyProof.Rows L2
section
variable {X : Cx} {E : XK} {a b e : Expr} {f g : Ex} {pos p1 p2 p3 : Pos}
/-- a text times 2 and more -/
def mulSD : D → D → Sto → R D
  | .py (.str z), .py (.int k), S => if 2 ≤ k ∧ k ≤ 1000 ∧ 1 ≤ z.length ∧ z.length ≤ 1000 then .ok (.py (.str ⟨(List.replicate k.toNat z.cps).foldl (· ++ ·) #[]⟩)) S else .no
  | _, _, _ => .no
theorem do_mulS : DOp X (binaryOp .Mult) mulSD := by
  refine ⟨_, op_repS (X := X), fun x y d e H S ι E Q hS rx ry hw => ?_⟩
  unfold mulSD at hw
  split at hw
  · split at hw
    · rename_i h
      exact ⟨_, _, str_of rx, int_of ry, h.1, h.2.1, h.2.2.1, h.2.2.2, hw _ _ _ (.refl hS) (.py (.str _))⟩
    · exact hw.elim
  · exact hw.elim
/-- a text turned about -/
def revS (a : Ex) : Ex := fun σ S => (a σ S).bind fun x S1 => match x with
  | .py (.str z) => if z.length ≤ sizeLine then .ok (.py (.str ⟨z.cps.toList.reverse.toArray⟩)) S1 else .no
  | _ => .no
/-- the items of a list -/
def lstOf (S : Sto) : D → Option (List D)
  | .py (.list ds) => some (ds.map .py)
  | .obj n => match S[n]? with
    | some (.lst ds) => some ds
    | _ => none
  | _ => none
theorem lst_of {K : PySem.W.Frag} {ι : List Addr} {H : Hp} {S : Sto} {v : V} {d : D} {ds : List D} (hS : StR K ι H S) (r : Rd K ι H v d) (h : lstOf S d = some ds) : ∃ a vs, v = .ref a ∧ SqL K H a vs ∧ RdAll K ι H vs ds := by
  cases r with
  | py r =>
    cases r with
    | lst hf hz hs =>
      cases h
      exact ⟨_, _, rfl, hf.sq, .of_pys hs⟩
    | _ => cases h
  | raw a => cases h
  | obj e =>
    rename_i n a
    simp only [lstOf] at h
    split at h
    · rename_i ds' he
      cases h
      cases hS.at_ _ _ _ he e with
      | lst ha rr => exact ⟨a, _, rfl, .of ha, rr⟩
    · cases h
/-- a new list: two lists put together -/
def catL (a b : Ex) : Ax := fun σ S => (a σ S).bind fun x S1 => (b σ S1).bind fun y S2 => match lstOf S2 x, lstOf S2 y with
  | some xs, some ys => if xs.length + ys.length ≤ sizeLine then .ok (xs ++ ys) S2 else .no
  | _, _ => .no
theorem dl_cat (ha : DE X E a f) (hb : DE X E b g) : DL X E (.BinOp a .Add b pos) (catL f g) := by
  obtain ⟨t, p, q⟩ := ha
  obtain ⟨u, pu, qu⟩ := hb
  refine ⟨_, pe_op (op_catN (X := X)) p pu, fun σ H σd S ι Q hE hS h => ?_⟩
  refine q σ H σd S ι _ hE hS (Wp.bind0 h fun d S1 _ v H1 ι1 p1 r1 h1 => ?_)
  refine qu σ H1 σd S1 ι1 _ (hE.mono p1.pre p1.keep) p1.sto ?_
  cases hg : g σd S1 with
  | no => rw [hg] at h1; exact h1.elim
  | ex c S2 => rw [hg] at h1; exact Wp.re (rel := relL X.K H) (Q := Q) p1 (show Wp X.K X.mg E ι H (relL X.K H) (R.ex c S2) Q from h1)
  | ok e S2 =>
    rw [hg, bind_ok] at h1
    intro w H2 ι2 p2 r2
    split at h1
    · rename_i xs ys hx hy
      split at h1
      · rename_i hz
        obtain ⟨l, vs, rfl, hl, al⟩ := lst_of p2.sto (r1.mono p2.pre p2.keep) hx
        obtain ⟨m, ws, rfl, hm, bl⟩ := lst_of p2.sto r2 hy
        have hz' : vs.length + ws.length ≤ sizeLine := by rw [al.length, bl.length]; exact hz
        refine ⟨l, m, vs, ws, rfl, rfl, hl, hm, hz', fun o no => ?_⟩
        have pp := p1.trans p2
        refine h1 _ _ _ (pp.trans (.new p2.sto no)) ⟨o, vs ++ ws, ?_, rfl, upd_same, p2.sto.notin no, by rw [List.length_append]; exact hz', RdAll.mono (List.prefix_refl _) (.new no) (Paired.app al bl)⟩
        cases q0 : H o with
        | none => rfl
        | some u => exact absurd no (pp.dom o (by rw [q0]; simp))
      · exact h1.elim
    · exact h1.elim
/-- a new list: a list so many times -/
def repL (a b : Ex) : Ax := fun σ S => (a σ S).bind fun x S1 => (b σ S1).bind fun y S2 => match lstOf S2 x, y with
  | some xs, .py (.int k) => if -1000 ≤ k ∧ k ≤ 1000 ∧ xs.length ≤ 1000 then .ok (List.replicate k.toNat xs).flatten S2 else .no
  | _, _ => .no
/-- {} and {x: n} -/
theorem de_dict0 : DE X E (.Dict [] [] pos) (cE (.dict [])) := by
  refine ⟨_, pe_frzD pe_dnewK, fun σ H σd S ι Q hE hS h => ?_⟩
  intro a na
  refine ⟨a, [], rfl, upd_same, fun o => ?_⟩
  rw [upd_upd]
  exact h _ _ _ (.new hS na) (.py (.dic (kvs := []) (ds := []) upd_same (by simp) .nil))
def dict1E (i : Nat) (n : Int) : Ex := fun σ S => match σ[i]? with
  | some (some (.py (.str z))) => .ok (.py (.dict [(.str z, .int n)])) S
  | _ => .no
theorem de_dict1 (i : Nat) {x : Str} {n : Int} {j : Nat} (hN : X.N[i]? = some x := by rfl) (hv : Vis X.env.scope x := by first | exact Or.inl rfl | exact Or.inr (Or.inl rfl) | exact Or.inr (Or.inr rfl)) (hd : (x == ("__debug__" : Str)) = false := by decide)
    (hcd : (x == ("__classdict__" : Str)) = false := by decide) : DE X E (.Dict [some (.Name x p1)] [.Constant (.int n) j p2] pos) (dict1E i n) := by
  refine ⟨_, pe_frzD (pe_disp (pps_cons (pe_var hN hv hd hcd) pe_int pps_nil) rfl rfl (by simp) (by simp)), fun σ H σd S ι Q hE hS h => ?_⟩
  unfold dict1E at h
  split at h
  · rename_i z hz
    obtain ⟨v, hv, rv⟩ := hE.at_ i _ hz
    intro a na
    refine ⟨v, hv, upd_same, [(.inr z, .int n)], ?_, by simp, a, [(.inr z, .int n)], rfl, upd_same, fun o => ?_⟩
    · rw [str_of rv]
      rfl
    · rw [upd_upd, upd_upd]
      exact h _ _ _ (.new hS na) (.py (.dic (kvs := [(.inr z, .int n)]) (ds := [.int n]) upd_same (by simp [sizeLine_eq]) (.cons (.int n) .nil)))
  · exact h.elim
/-- is an error of the class c one of the class C -/
def isW (c C : String) : Bool := C == "ValueError" || c == C
@[simp] theorem isaE_raw {a : Nat} {b : Bool} {r : En} {S : Sto} : isaE a 0 b (some (.raw a) :: r) S = .ok (.py (.bool b)) S := by simp [isaE]
end
end DV

set_option maxHeartbeats 4000000
namespace DV
open PySem
/-! Lists of truths, counted and gone through. -/
theorem bools_lay : ∀ bs : List Bool, PyData.canLayAll0 (bs.map PyData.bool) = true ∧ PyData.depthAll (bs.map PyData.bool) = 0
  | [] => ⟨PyData.canLayAll0.eq_1, PyData.depthAll.eq_1⟩
  | x :: xs => by
    rw [List.map_cons, PyData.canLayAll0.eq_2, PyData.depthAll.eq_2, (bools_lay xs).1, (bools_lay xs).2, PyData.canLay0.eq_2, PyData.depth.eq_5]
    exact ⟨rfl, rfl⟩
theorem bools_shaped (bs : List Bool) : SeqAt.shaped (.list (bs.map PyData.bool)) = true := by
  unfold SeqAt.shaped
  rw [PyData.canLay0.eq_5, (bools_lay bs).1, PyData.depth.eq_1, (bools_lay bs).2]
  rfl
theorem bool_shaped (b : Bool) : SeqAt.shaped (.bool b) = true := by
  unfold SeqAt.shaped
  rw [PyData.canLay0.eq_2, PyData.depth.eq_5]
  rfl
theorem bool_eqv (a b : Bool) : PyData.eqv (.bool a) (.bool b) = (a == b) := by cases a <;> cases b <;> simp [PyData.eqv]
theorem countD_bools (bs : List Bool) (k : Bool) (n : Nat) (h : bs.count k = n) (S : Sto) : countD (.py (.list (bs.map PyData.bool))) [.py (.bool k)] S = .ok (.py (.int (n : Nat))) S := by
  subst h
  unfold countD
  have e1 : deep S 8 (.py (.list (bs.map PyData.bool))) = some (.list (bs.map PyData.bool)) := rfl
  have e2 : deep S 8 (.py (.bool k)) = some (.bool k) := rfl
  simp only [e1, e2]
  rw [if_pos ⟨bools_shaped bs, bool_shaped k⟩]
  have e : (bs.map PyData.bool).countP (fun z => PyData.eqv z (.bool k)) = bs.count k := by
    rw [List.countP_map, List.count]
    congr 1
    first | done | (funext a; exact bool_eqv a k)
  rw [e]
theorem indexD_bools (bs : List Bool) (k : Bool) (j : Nat) (h : bs.findIdx? (· == k) = some j) (S : Sto) : indexD (.py (.list (bs.map PyData.bool))) [.py (.bool k)] S = .ok (.py (.int (j : Nat))) S := by
  unfold indexD
  have e1 : deep S 8 (.py (.list (bs.map PyData.bool))) = some (.list (bs.map PyData.bool)) := rfl
  have e2 : deep S 8 (.py (.bool k)) = some (.bool k) := rfl
  simp only [e1, e2]
  rw [if_pos ⟨bools_shaped bs, bool_shaped k⟩]
  have e : placeOf (bs.map PyData.bool) (.bool k) = some j := by
    unfold placeOf
    rw [List.findIdx?_map, ← h]
    congr 1
    first | done | (funext a; exact bool_eqv a k)
  rw [e]
theorem sl_word : sizeLine = 16777216 := sizeLine_eq
end DV

set_option maxHeartbeats 4000000
namespace DV
open PySem PySem.Spec PyProof.Rows L2
/-! The text of a thing in which there are dicts. -/
mutual
inductive Dd (K : PySem.W.Frag) (H : Hp) : V → PyData → Prop
  | non : Dd K H .non .none
  | bl (b : Bool) : Dd K H (.bl b) (.bool b)
  | int (i : Int) : Dd K H (.int i) (.int i)
  | str (x : Str) : Dd K H (.str x) (.str x)
  | lst {a : Addr} {xs : List V} {ds : List PyData} : SqL K H a xs → DdAll K H xs ds → Dd K H (.ref a) (.list ds)
  | tup {a : Addr} {xs : List V} {ds : List PyData} : SqT K H a xs → DdAll K H xs ds → Dd K H (.ref a) (.tuple ds)
  | dic {a : Addr} {o : Obj} {kvs : List (Key × V)} {ds : List PyData} : H a = some (.frz o (.dK kvs)) → DdAll K H (kvs.map Prod.snd) ds → Dd K H (.ref a) (.dict ((kvs.map fun kv => keyP kv.1).zip ds))
inductive DdAll (K : PySem.W.Frag) (H : Hp) : List V → List PyData → Prop
  | nil : DdAll K H [] []
  | cons {v : V} {vs : List V} {d : PyData} {ds : List PyData} : Dd K H v d → DdAll K H vs ds → DdAll K H (v :: vs) (d :: ds)
end
section
variable {K : PySem.W.Frag} {H : Hp}
mutual
theorem Pp.dd : ∀ {v : V} {d : PyData}, Pp K H v d → Dd K H v d
  | _, _, .non => .non
  | _, _, .bl b => .bl b
  | _, _, .int i => .int i
  | _, _, .str x => .str x
  | _, _, .lst h _ hs => .lst h.sq (PpAll.dd hs)
  | _, _, .tup h _ hs => .tup h.sq (PpAll.dd hs)
  | _, _, .dic h _ hs => .dic h (PpAll.dd hs)
theorem PpAll.dd : ∀ {vs : List V} {ds : List PyData}, PpAll K H vs ds → DdAll K H vs ds
  | _, _, .nil => .nil
  | _, _, .cons h hs => .cons (Pp.dd h) (PpAll.dd hs)
end
mutual
theorem deep_dd {ι : List Addr} {S : Sto} (hS : StR K ι H S) : ∀ (n : Nat) {v : V} {d : D} {p : PyData}, Rd K ι H v d → deep S n d = some p → Dd K H v p
  | 0, _, _, _, _, h => by cases h
  | n + 1, v, .py d, p, r, h => by
    cases r with
    | py r => cases h; exact r.dd
  | n + 1, v, .raw m, p, r, h => by cases h
  | n + 1, v, .obj m, p, r, h => by
    cases r with
    | obj e =>
      simp only [deep] at h
      split at h
      · rename_i ds hd
        rw [Option.map_eq_some_iff] at h
        obtain ⟨ps, h1, h2⟩ := h
        subst h2
        cases hS.at_ _ _ _ hd e with
        | lst ha rr => exact .lst (.of ha) (deep_ddall hS n rr h1)
      · cases h
theorem deep_ddall {ι : List Addr} {S : Sto} (hS : StR K ι H S) (n : Nat) : ∀ {vs : List V} {ds : List D} {ps : List PyData}, RdAll K ι H vs ds → ds.mapM (deep S n) = some ps → DdAll K H vs ps
  | _, [], _, .nil, h => by
    simp at h
    subst h
    exact .nil
  | _, d :: ds, ps, .cons r rs, h => by
    rw [List.mapM_cons] at h
    simp only [Option.bind_eq_bind, Option.bind_eq_some_iff, Option.pure_def, Option.some.injEq] at h
    obtain ⟨p, h1, qs, h2, rfl⟩ := h
    exact .cons (deep_dd hS n r h1) (deep_ddall hS n rs h2)
end
end
section
variable {X : Cx} {pins : List (Addr × Obj)} {σ : L2.St} {H : Hp} {s : Shared}
theorem keys_show {P : Program} {w : World} {h : Heap} : ∀ {es : List DictEntry} {vs : List (Key × Value)} {kvs : List (Key × V)}, Pairs (mixKind P w) es vs → KV kvs vs →
    Vals (kvs.map Prod.snd) (es.map (·.val)) ∧ (∃ as, ReadsAll h (es.map (·.key)) (kvs.map fun kv => keyP kv.1) as) ∧
    (PyData.showableAll (kvs.map fun kv => keyP kv.1) = true → (∀ t ∈ PyData.shownAll (kvs.map fun kv => keyP kv.1), t.length ≤ sizeLine) → ∀ d, ReprAllK P w [] h d (es.map (·.key)) (PyData.shownAll (kvs.map fun kv => keyP kv.1)))
  | _, _, _, .nil, .nil => ⟨.nil, ⟨_, .nil⟩, fun _ _ d => by
    show ReprAllK P w [] h d [] (PyData.shownAll [])
    rw [PyData.shownAll.eq_1]
    exact .nil⟩
  | _, _, _, .cons hk hv hs, .cons r rs => by
    obtain ⟨h1, ⟨as, h2⟩, h3⟩ := keys_show hs rs
    obtain ⟨e1, e2⟩ := r
    rename_i e kv es vs p kvs
    refine ⟨.cons (by show RelV p.2 e.val; rw [hv]; exact e2) h1, ?_⟩
    rw [← e1, mixKind_is] at hk
    rcases keyIs_shape hk with ⟨i, t, hp, he⟩ | ⟨x, t, hp, he⟩
    · obtain ⟨p1, p2⟩ := p
      replace hp : p1 = _ := hp
      subst hp
      refine ⟨⟨_, .cons (by show Reads h e.key (.int i) _; rw [he]; exact .int i t) h2⟩, fun q1 q2 d => ?_⟩
      rw [List.map_cons, PyData.showableAll.eq_2] at q1
      obtain ⟨q3, q4⟩ := Bool.and_eq_true_iff.mp q1
      have q5 : ∀ t ∈ PyData.shownAll (kvs.map fun kv => keyP kv.1), t.length ≤ sizeLine := fun t ht => q2 t (by rw [List.map_cons, PyData.shownAll.eq_2]; exact List.mem_cons_of_mem _ ht)
      rw [List.map_cons, List.map_cons, PyData.shownAll.eq_2]
      refine .cons ?_ (h3 q4 q5 d)
      rw [he]
      simp only [keyP, PyData.shown]
      exact .of_is (ReprIs.int t (by simpa [keyP, PyData.showable] using q3)) _ _ _
    · obtain ⟨p1, p2⟩ := p
      replace hp : p1 = _ := hp
      subst hp
      refine ⟨⟨_, .cons (by show Reads h e.key (.str x) _; rw [he]; exact .str x t) h2⟩, fun q1 q2 d => ?_⟩
      rw [List.map_cons, PyData.showableAll.eq_2] at q1
      obtain ⟨q3, q4⟩ := Bool.and_eq_true_iff.mp q1
      have q5 : ∀ t ∈ PyData.shownAll (kvs.map fun kv => keyP kv.1), t.length ≤ sizeLine := fun t ht => q2 t (by rw [List.map_cons, PyData.shownAll.eq_2]; exact List.mem_cons_of_mem _ ht)
      have q6 := q2 (keyP (.inr x)).shown (by rw [List.map_cons, PyData.shownAll.eq_2]; exact List.mem_cons_self ..)
      rw [List.map_cons, List.map_cons, PyData.shownAll.eq_2]
      refine .cons ?_ (h3 q4 q5 d)
      rw [he]
      simp only [keyP, PyData.shown] at q6 ⊢
      exact .of_is (ReprIs.str x t q6) _ _ _
theorem zip_fst {α β : Type} {as : List α} {bs : List β} (h : as.length = bs.length) : (as.zip bs).map (·.1) = as := List.map_fst_zip (by omega)
theorem zip_snd {α β : Type} {as : List α} {bs : List β} (h : as.length = bs.length) : (as.zip bs).map (·.2) = bs := List.map_snd_zip (by omega)
theorem DdAll.length {K : PySem.W.Frag} {H : Hp} : ∀ {vs : List V} {ds : List PyData}, DdAll K H vs ds → vs.length = ds.length
  | _, _, .nil => rfl
  | _, _, .cons _ hs => by rw [List.length_cons, List.length_cons, DdAll.length hs]
mutual
theorem Dd.ok (I : Inv X pins σ H s) : ∀ {v : V} {d : PyData} {u : Value}, Dd X.K H v d → RelV v u → (∃ as, Reads s.heap u d as) ∧
    (d.showable = true → d.shown.length ≤ sizeLine → ∃ bs, ReadAtMost s.heap d.depth bs ∧ ReprK X.prog X.w bs s.heap d.depth u d.shown)
  | _, _, _, .non, r => by
    cases r
    exact ⟨⟨_, .none⟩, fun _ _ => ⟨[], (fun _ h => nomatch h), by simp only [PyData.shown]; exact .of_is ReprIs.none _ _ _⟩⟩
  | _, _, _, .bl b, r => by
    cases r
    exact ⟨⟨_, .bool b⟩, fun _ _ => ⟨[], (fun _ h => nomatch h), by simp only [PyData.shown]; exact .of_is (ReprIs.bool b) _ _ _⟩⟩
  | _, _, _, .int i, r => by
    obtain ⟨t, rfl⟩ := r
    exact ⟨⟨_, .int i t⟩, fun hs _ => ⟨[], (fun _ h => nomatch h), by simp only [PyData.shown]; exact .of_is (ReprIs.int t (by simpa [PyData.showable] using hs)) _ _ _⟩⟩
  | _, _, _, .str x, r => by
    obtain ⟨t, rfl⟩ := r
    exact ⟨⟨_, .str x t⟩, fun _ hz => ⟨[], (fun _ h => nomatch h), by simp only [PyData.shown]; exact .of_is (ReprIs.str x t (by simpa only [PyData.shown] using hz)) _ _ _⟩⟩
  | _, _, _, .lst (a := a) (ds := ds) hs ha, r => by
    cases r
    obtain ⟨its, rv, ⟨o, n, ho, hc, _, hd⟩, _⟩ := I.list hs
    obtain ⟨⟨as, hr⟩, hK⟩ := DdAll.ok I ha rv
    have r : Reads s.heap (.ref a) (.list ds) _ := .list ho hc hd hr
    refine ⟨⟨_, r⟩, fun hs hz => ?_⟩
    have hz' : (listText (PyData.shownAll ds)).length ≤ sizeLine := by simpa only [PyData.shown] using hz
    obtain ⟨bs, hb, hk⟩ := hK (by simpa [PyData.showable] using hs) (fun t ht => Nat.le_trans (listText_mem_le ht) hz')
    have hna : a ∉ bs := not_mem_of_deeper r (by simp only [PyData.depth]; omega) hb
    refine ⟨a :: bs, ReadAtMost.cons r (by simp only [PyData.depth]; omega) hb, ?_⟩
    simp only [PyData.depth, PyData.shown]
    cases its with
    | nil =>
      cases ha with
      | nil =>
        simp only [PyData.shownAll, listText_nil]
        exact ReprK.listEmpty ho hc hd
      | cons => cases rv
    | cons x l => exact ReprK.list ho hc hd hna (by simpa using hk.length_eq) (fun i y e => hk.item i y (by simpa using e))
  | _, _, _, .tup (a := a) (ds := ds) hs ha, r => by
    cases r
    obtain ⟨its, rv, ⟨o, ho, hc, n, hd⟩, _⟩ := I.tuple hs
    obtain ⟨⟨as, hr⟩, hK⟩ := DdAll.ok I ha rv
    have r : Reads s.heap (.ref a) (.tuple ds) _ := .tuple ho hc hd hr
    refine ⟨⟨_, r⟩, fun hs hz => ?_⟩
    have hz' : (tupleText (PyData.shownAll ds)).length ≤ sizeLine := by simpa only [PyData.shown] using hz
    obtain ⟨bs, hb, hk⟩ := hK (by simpa [PyData.showable] using hs) (fun t ht => Nat.le_trans (tupleText_mem_le ht) hz')
    have hna : a ∉ bs := not_mem_of_deeper r (by simp only [PyData.depth]; omega) hb
    refine ⟨a :: bs, ReadAtMost.cons r (by simp only [PyData.depth]; omega) hb, ?_⟩
    simp only [PyData.depth, PyData.shown]
    exact ReprK.tuple ho hc hd hna hk
  | _, _, _, .dic (a := a) (o := o) (kvs := kvs) (ds := ds) he ha, r => by
    cases r
    obtain ⟨_, hsys, vs, rel, ⟨o, es, ep, ho, hc, hd, _, hp, _⟩⟩ := dk_rd I.hok (.inr ⟨o, he⟩)
    obtain ⟨rv, ⟨as, hrk⟩, hkk⟩ := keys_show (h := s.heap) hp rel
    obtain ⟨⟨bs, hr⟩, hK⟩ := DdAll.ok I ha rv
    have hl : (kvs.map fun kv => keyP kv.1).length = ds.length := by rw [List.length_map, ← ha.length, List.length_map]
    generalize hD : (kvs.map fun kv => keyP kv.1).zip ds = D
    have e1 : D.map (·.1) = kvs.map fun kv => keyP kv.1 := by rw [← hD]; exact zip_fst hl
    have e2 : D.map (·.2) = ds := by rw [← hD]; exact zip_snd hl
    rw [← e1] at hrk hkk
    rw [← e2] at hr hK
    have r : Reads s.heap (.ref a) (.dict D) _ := .dict ho hc.1 hd hrk hr
    refine ⟨⟨_, r⟩, fun hs hz => ?_⟩
    have hz' : (dictText (PyData.shownKv D)).length ≤ sizeLine := by simpa only [PyData.shown] using hz
    obtain ⟨hs1, hs2⟩ := PyData.showableKv_split D (by simpa [PyData.showable] using hs)
    have k1 := hkk hs1 (fun t ht => let ⟨p, hp, hl⟩ := PyData.shownKv_key_le D t ht; Nat.le_trans hl (Nat.le_trans (dictText_mem_le hp) hz')) (PyData.depthKv D)
    obtain ⟨b2, hb2, k2⟩ := hK hs2 (fun t ht => let ⟨p, hp, hl⟩ := PyData.shownKv_val_le D t ht; Nat.le_trans hl (Nat.le_trans (dictText_mem_le hp) hz'))
    have hb : ReadAtMost s.heap (PyData.depthKv D) b2 := hb2.mono (PyData.depthAll_vals_le D)
    have hna : a ∉ b2 := not_mem_of_deeper r (by simp only [PyData.depth]; omega) hb
    refine ⟨a :: b2, ReadAtMost.cons r (by simp only [PyData.depth]; omega) hb, ?_⟩
    simp only [PyData.depth, PyData.shown, PyData.shownKv_eq]
    exact ReprK.dict ho hc.1 hd hsys hna (ReprEntriesK.of_two es.toList _ _ (k1.more_le (as := []) (as' := b2) (fun b hb => absurd hb List.not_mem_nil) (Nat.le_refl _)) (k2.more_le (fun b hb => hb) (PyData.depthAll_vals_le D)))
theorem DdAll.ok (I : Inv X pins σ H s) : ∀ {vs : List V} {ds : List PyData} {us : List Value}, DdAll X.K H vs ds → Vals vs us → (∃ as, ReadsAll s.heap us ds as) ∧
    (PyData.showableAll ds = true → (∀ t ∈ PyData.shownAll ds, t.length ≤ sizeLine) → ∃ bs, ReadAtMost s.heap (PyData.depthAll ds) bs ∧ ReprAllK X.prog X.w bs s.heap (PyData.depthAll ds) us (PyData.shownAll ds))
  | _, _, _, .nil, r => by
    cases r
    exact ⟨⟨_, .nil⟩, fun _ _ => ⟨[], (fun _ h => nomatch h), by simp only [PyData.shownAll]; exact .nil⟩⟩
  | _, _, _, .cons (d := d) (ds := ds) h hs, r => by
    cases r with
    | cons r1 r2 =>
      obtain ⟨⟨as, q1⟩, k1⟩ := Dd.ok I h r1
      obtain ⟨⟨bs, q2⟩, k2⟩ := DdAll.ok I hs r2
      refine ⟨⟨_, .cons q1 q2⟩, fun hs hz => ?_⟩
      have hs' : d.showable = true ∧ PyData.showableAll ds = true := by simpa [PyData.showableAll] using hs
      obtain ⟨b1, hb1, k1⟩ := k1 hs'.1 (hz _ (by simp only [PyData.shownAll]; exact List.mem_cons_self ..))
      obtain ⟨b2, hb2, k2⟩ := k2 hs'.2 (fun t ht => hz t (by simp only [PyData.shownAll]; exact List.mem_cons_of_mem _ ht))
      refine ⟨b1 ++ b2, ?_, ?_⟩
      · simp only [PyData.depthAll]
        exact (hb1.mono (Nat.le_max_left _ _)).append (hb2.mono (Nat.le_max_right _ _))
      · simp only [PyData.depthAll, PyData.shownAll]
        exact .cons ((k1.more fun b hb => List.mem_append_left _ hb).level_le (Nat.le_max_left _ _)) (k2.more_le (fun b hb => List.mem_append_right _ hb) (Nat.le_max_right _ _))
end
theorem shows_dd (I : Inv X pins σ H s) {a : Addr} {d : PyData} (r : Dd X.K H (.ref a) d) (hs : d.showable = true) (hsz : d.shown.length ≤ sizeLine) : ∃ T idr, ShowsBy X.prog X.w s.heap a d T idr := by
  cases r with
  | lst hq ha =>
    rename_i xs ds
    obtain ⟨its, rv, ⟨o, n, ho, hc, _, hd⟩, _⟩ := I.list hq
    obtain ⟨⟨as, hr⟩, hK⟩ := DdAll.ok I ha rv
    have r : Reads s.heap (.ref a) (.list ds) _ := .list ho hc hd hr
    have hz' : (listText (PyData.shownAll ds)).length ≤ sizeLine := by simpa only [PyData.shown] using hsz
    obtain ⟨bs, hb, hk⟩ := hK (by simpa [PyData.showable] using hs) (fun t ht => Nat.le_trans (listText_mem_le ht) hz')
    have hna : a ∉ bs := not_mem_of_deeper r (by simp only [PyData.depth]; omega) hb
    refine ⟨"list", "list.__repr__", F.slot_list_repr.toG, F.slot_list_str, F.slot_list_format, fun s hk0 => ⟨o, hk0 _ _ ho, hc⟩, fun A E s Q hg hu hk0 hQ => ?_⟩
    simp only [PyData.depth] at hu
    simp only [PyData.shown] at hQ
    cases its with
    | nil =>
      cases ha with
      | nil =>
        simp only [PyData.shownAll, listText_nil] at hQ
        exact call_list_repr_empty ⟨o, hk0 _ _ ho, hc⟩ (hk0 _ _ ho) hd (hQ s.heap _ _ fun _ _ e => e)
      | cons => cases rv
    | cons x l => exact call_list_reprK ho hc hd hna (by simpa using hk.length_eq) (fun i y e => hk.item i y (by simpa using e)) hg (fun b _ => Clear.nil b) hu hk0 hQ hz'
  | tup hq ha =>
    rename_i xs ds
    obtain ⟨its, rv, ⟨o, ho, hc, n, hd⟩, _⟩ := I.tuple hq
    obtain ⟨⟨as, hr⟩, hK⟩ := DdAll.ok I ha rv
    have r : Reads s.heap (.ref a) (.tuple ds) _ := .tuple ho hc hd hr
    have hz' : (tupleText (PyData.shownAll ds)).length ≤ sizeLine := by simpa only [PyData.shown] using hsz
    obtain ⟨bs, hb, hk⟩ := hK (by simpa [PyData.showable] using hs) (fun t ht => Nat.le_trans (tupleText_mem_le ht) hz')
    have hna : a ∉ bs := not_mem_of_deeper r (by simp only [PyData.depth]; omega) hb
    refine ⟨"tuple", "tuple.__repr__", F.slot_tuple_repr, F.slot_tuple_str, F.slot_tuple_format, fun s hk0 => ⟨o, hk0 _ _ ho, hc⟩, fun A E s Q hg hu hk0 hQ => ?_⟩
    simp only [PyData.depth] at hu
    simp only [PyData.shown] at hQ
    exact call_tuple_reprK ho hc hd hna hk hg (fun b _ => Clear.nil b) hu hk0 hQ hz'
  | dic he ha =>
    rename_i o kvs ds
    obtain ⟨_, hsys, vs, rel, ⟨o, es, ep, ho, hc, hd, _, hp, _⟩⟩ := dk_rd I.hok (.inr ⟨o, he⟩)
    obtain ⟨rv, ⟨as, hrk⟩, hkk⟩ := keys_show (h := s.heap) hp rel
    obtain ⟨⟨bs, hr⟩, hK⟩ := DdAll.ok I ha rv
    have hl : (kvs.map fun kv => keyP kv.1).length = ds.length := by rw [List.length_map, ← ha.length, List.length_map]
    generalize hD : (kvs.map fun kv => keyP kv.1).zip ds = D at *
    have e1 : D.map (·.1) = kvs.map fun kv => keyP kv.1 := by rw [← hD]; exact zip_fst hl
    have e2 : D.map (·.2) = ds := by rw [← hD]; exact zip_snd hl
    rw [← e1] at hrk hkk
    rw [← e2] at hr hK
    have r : Reads s.heap (.ref a) (.dict D) _ := .dict ho hc.1 hd hrk hr
    have hz' : (dictText (PyData.shownKv D)).length ≤ sizeLine := by simpa only [PyData.shown] using hsz
    obtain ⟨hs1, hs2⟩ := PyData.showableKv_split D (by simpa [PyData.showable] using hs)
    have k1 := hkk hs1 (fun t ht => let ⟨p, hp, hl⟩ := PyData.shownKv_key_le D t ht; Nat.le_trans hl (Nat.le_trans (dictText_mem_le hp) hz')) (PyData.depthKv D)
    obtain ⟨b2, hb2, k2⟩ := hK hs2 (fun t ht => let ⟨p, hp, hl⟩ := PyData.shownKv_val_le D t ht; Nat.le_trans hl (Nat.le_trans (dictText_mem_le hp) hz'))
    have hb : ReadAtMost s.heap (PyData.depthKv D) b2 := hb2.mono (PyData.depthAll_vals_le D)
    have hna : a ∉ b2 := not_mem_of_deeper r (by simp only [PyData.depth]; omega) hb
    refine ⟨"dict", "dict.__repr__", F.slot_dict_repr, F.slot_dict_str, F.slot_dict_format, fun s hk0 => ⟨_, hk0 _ _ ho, hc.1⟩, fun A E s Q hg hu hk0 hQ => ?_⟩
    simp only [PyData.depth] at hu
    simp only [PyData.shown, PyData.shownKv_eq] at hQ
    exact call_dict_reprK ho hc.1 hd hsys hna (ReprEntriesK.of_two es.toList _ _
      (k1.more_le (as := []) (as' := b2) (fun b hb => absurd hb List.not_mem_nil) (Nat.le_refl _)) (k2.more_le (fun b hb => hb) (PyData.depthAll_vals_le D))) hg (fun b _ => Clear.nil b) hu hk0 hQ (by rw [← PyData.shownKv_eq]; exact hz')
theorem call_reprX {k : Nat} {E : XK} (o : Okx k X E) : CallR X (.builtin "repr") (fun xs H Q => ∃ x p, xs = [x] ∧ Dd X.K H x p ∧ p.showable = true ∧ p.depth ≤ 60 ∧ p.shown.length ≤ sizeLine ∧ Q (.str p.shown) H) := by
  intro pins s σ H xs us Q I r h
  obtain ⟨x, p, rfl, hd, h1, h3, h4, q⟩ := h
  obtain ⟨u, rfl, ru⟩ := vals1 r
  have hu := o.room.un
  have ref : ∀ a, Dd X.K H (.ref a) p → wpAny (model X.prog X.w) X.A (call (.builtin "repr") [.ref a]) (EP X pins σ Q) X.xe s := fun a hd => by
    obtain ⟨T, idr, S⟩ := shows_dd I hd h1 h4
    exact call_repr_slot (by omega) (S.typeIs s fun _ _ e => e) S.slotRepr (S.call X.A.in1 _ s _ o.gd (by show X.A.units + 1 + p.depth < cLine; omega) (fun _ _ e => e) fun h' u tk hk => ⟨_, _, rfl, .str _, H, I.kept (t' := tk) hk, ⟨_, rfl⟩, q⟩)
  cases hd with
  | non =>
    cases ru
    exact PySem.P.repr_of_none ⟨.str _, H, I.tok _, ⟨_, rfl⟩, by simpa only [PyData.shown] using q⟩
  | bl b =>
    cases ru
    exact PySem.P.repr_of_bool ⟨.str _, H, I.tok _, ⟨_, rfl⟩, by simpa only [PyData.shown] using q⟩
  | int i =>
    obtain ⟨t, rfl⟩ := ru
    exact PySem.P.repr_of_int (by simpa [PyData.showable] using h1) ⟨.str _, H, I.tok _, ⟨_, rfl⟩, by simpa only [PyData.shown] using q⟩
  | str z =>
    obtain ⟨t, rfl⟩ := ru
    exact PySem.P.repr_of_str ⟨.str _, H, I.tok _, ⟨_, rfl⟩, by simpa only [PyData.shown] using q⟩ (by simpa only [PyData.shown] using h4)
  | lst hq al =>
    cases ru
    exact ref _ (.lst hq al)
  | tup hq al =>
    cases ru
    exact ref _ (.tup hq al)
  | dic he al =>
    cases ru
    exact ref _ (.dic he al)
def reprX : List D → Sto → R D
  | [d], S => (match deep S 8 d with
    | some p => if p.showable = true ∧ p.depth ≤ 60 ∧ p.shown.length ≤ sizeLine then .ok (.py (.str p.shown)) S else .no
    | none => .no)
  | _, _ => .no
theorem dc_reprX {k : Nat} {E : XK} (o : Okx k X E) : DC X (.builtin "repr") reprX := by
  refine ⟨_, call_reprX o, fun xs ds H S ι E Q hS r hw => ?_⟩
  unfold reprX at hw
  split at hw
  · split at hw
    · rename_i p hp
      split at hw
      · rename_i hc
        cases r with
        | cons r rs =>
          cases rs
          exact ⟨_, p, rfl, deep_dd hS _ r hp, hc.1, hc.2.1, hc.2.2, hw _ _ _ (.refl hS) (.py (.str _))⟩
      · exact hw.elim
    · exact hw.elim
  · exact hw.elim
end
end DV

set_option maxHeartbeats 4000000
namespace DV
open PySem PySem.Spec PyProof.Rows L2
/-! Texts in order. -/
variable {X : Cx}
def leS : D → D → Sto → R D
  | .py (.str x), .py (.str y), S => .ok (.py (.bool (!decide (y.cps.toList < x.cps.toList)))) S
  | _, _, _ => .no
theorem do_leS : DOp X (compareOp .LtE) leS := by
  refine ⟨_, op_le_str (X := X), fun x y d e H S ι E Q hS rx ry hw => ?_⟩
  unfold leS at hw
  split at hw
  · exact ⟨_, _, str_of rx, str_of ry, hw _ _ _ (.refl hS) (.py (.bl _))⟩
  · exact hw.elim
end DV

set_option maxHeartbeats 4000000
namespace DV
open PySem PySem.Spec PyProof.Rows L2
/-! str(int), tuple[::-1], len(set(ints)). -/
/-! ### a tuple turned about -/
section
variable {prog : Program} {w : World} {A : Around} {E : Value → Shared → Prop} {s : Shared}
end
section
variable {X : Cx} {E : XK} {a b e : Expr} {f g : Ex} {k : Nat} {pos p p1 p2 p3 q : Pos}
def revTE (a : Ex) : Ex := fun σ S => (a σ S).bind fun x S1 => match x with
  | .py (.tuple ds) => .ok (.py (.tuple ds.reverse)) S1
  | _ => .no
/-! ### str(int) -/
def strD : List D → Sto → R D
  | [.py (.int i)], S => if i.natAbs.log2 < 1920 then .ok (.py (.str (toString i))) S else .no
  | _, _ => .no
theorem dc_str : DC X (.type "str") strD := by
  refine ⟨_, call_str_int (X := X), fun xs ds H S ι E Q hS r hw => ?_⟩
  unfold strD at hw
  split at hw
  · split at hw
    · rename_i hz
      cases r with
      | cons r rs =>
        cases rs
        exact ⟨_, by rw [int_of r], hz, hw _ _ _ (.refl hS) (.py (.str _))⟩
    · exact hw.elim
  · exact hw.elim
/-! ### len(set(ints)) -/
/-! ### pairs of ints in order -/
/-! ### a part of a tuple, of a list -/
def tFzO (t : TE) : TE := fun σ H Q => t σ H fun v H1 => (∃ a xs, v = .ref a ∧ H1 a = some (.lst xs) ∧ ∀ o, Q v (upd H1 a (.frz o (.lst xs)))) ∨ Q v H1
theorem pe_frzO {t : TE} (p : PE X e t) : PE X e (tFzO t) := by
  refine ⟨fun pins s σ H Q I h => thn (p.run pins s σ H _ I h) fun u s1 ⟨v, H1, I1, r, q⟩ => ?_⟩
  rcases q with ⟨a, xs, ev, ha, q⟩ | q
  · obtain ⟨o, I2⟩ := I1.lock ha trivial
    exact ⟨v, _, I2, r, q o⟩
  · exact ⟨v, H1, I1, r, q⟩
def sliceAV (x : D) (lo hi : Option Int) (S : Sto) : R D := match x with
  | .py (.tuple ds) => .ok (.py (.tuple (cutP ds lo hi))) S
  | .py (.list ds) => .ok (.py (.list (cutP ds lo hi))) S
  | _ => .no
def sliceA (a : Ex) (lo hi : Px) : Ex := fun σ S => (a σ S).bind fun x S1 => (lo σ S1).bind fun l S2 => (hi σ S2).bind fun h S3 => sliceAV x l h S3
theorem de_sliceA {lo hi : Option Expr} {fl fh : Px} (he : DE X E e f) (hl : DP X E lo fl) (hh : DP X E hi fh) : DE X E (.Subscript e (.Slice lo hi none p2) pos) (sliceA f fl fh) := by
  obtain ⟨t, p, q⟩ := he
  obtain ⟨tl, pl, ql⟩ := hl
  obtain ⟨th, ph, qh⟩ := hh
  refine ⟨_, pe_frzO (pe_slice ((sl_tupS (X := X)).or sl_list) p pl ph), fun σ H σd S ι Q hE hS h => ?_⟩
  refine q σ H σd S ι _ hE hS (Wp.bind h fun x S1 _ v H1 ι1 p1 r1 h1 => ?_)
  refine ql σ H1 σd S1 ι1 _ (hE.mono p1.pre p1.keep) p1.sto (Wp.bind h1 fun l S2 _ l' H2 ι2 p2 rl h2 => ?_)
  refine qh σ H2 σd S2 ι2 _ ((hE.mono p1.pre p1.keep).mono p2.pre p2.keep) p2.sto (Wp.bind h2 fun u S3 _ u' H3 ι3 p3 ru h3 => ?_)
  cases rl
  cases ru
  have r3 := (r1.mono p2.pre p2.keep).mono p3.pre p3.keep
  unfold sliceAV at h3
  split at h3
  · rename_i ds _
    cases r3 with
    | py r3 =>
      cases r3 with
      | tup hT hz al =>
        have hc := cut_pp al l u
        have hcl := cut_len ds l u
        refine .inl ⟨_, _, rfl, hT.sq, fun ha => .inr (h3 _ _ _ (.refl p3.sto) (.py ?_)), fun _ p o ho hp => .inr (h3 _ _ _ (.new p3.sto hp) (.py (.tup (.new ho) (Nat.le_trans hcl hz) (hc.keep (.new hp)))))⟩
        rw [al.length] at ha
        rw [cut_all ds l u ha]
        exact .tup hT hz al
  · rename_i ds _
    cases r3 with
    | py r3 =>
      cases r3 with
      | lst hF hz al =>
        have hc := cut_pp al l u
        have hcl := cut_len ds l u
        refine .inr ⟨_, _, rfl, hF.sq, fun p hp => .inl ⟨p, _, rfl, upd_same, fun o => ?_⟩⟩
        rw [upd_upd]
        exact h3 _ _ _ (.new p3.sto hp) (.py (.lst (.inl ⟨o, upd_same⟩) (Nat.le_trans hcl hz) (hc.keep (.new hp))))
  · exact h3.elim
end
end DV

set_option maxHeartbeats 2000000
namespace DV
open PySem PySem.Spec PyProof.Rows L2
/-! some list, or another where it is empty -/
section
variable {X : Cx} {E : XK} {a b : Expr} {f g : Ex} {rest : List Expr} {pos : Pos}
end
end DV

set_option maxHeartbeats 4000000
namespace DV
open PySem PySem.Spec PyProof.Rows L2
open Sem (wp)
/-! (a, b, ..) = a list by value -/
section
variable {prog : Program} {w : World} {A : Around} {E : Value → Shared → Prop} {s : Shared}
end
section
variable {X : Cx} {E : XK} {pos : Pos}
end
end DV

set_option maxHeartbeats 4000000
namespace DV
open PySem PySem.Spec PyProof.Rows L2
/-! len(set(texts)) with repetitions; len(set(tuples of ints)). -/
def stepS (acc : List Str) (v : Str) : List Str := if acc.any (· == v) then acc else acc ++ [v]
def dedS (xs : List Str) : List Str := xs.foldl stepS []
def metS (xs : List Str) (i : Nat) : List Str := dedS (xs.take i)
theorem metS_succ {xs : List Str} {i : Nat} (h : i < xs.length) : metS xs (i + 1) = stepS (metS xs i) (xs.getD i Str.empty) := by
  unfold metS dedS
  rw [List.take_succ_eq_append_getElem h, List.foldl_append]
  simp [List.getD_eq_getElem?_getD, h]
theorem metS_all (xs : List Str) : metS xs xs.length = dedS xs := by unfold metS; rw [List.take_length]
theorem stepS_any (σ : List Str) (v k : Str) : (stepS σ v).any (· == k) = (σ.any (· == k) || decide (k = v)) := by
  unfold stepS
  by_cases h : σ.any (· == v) = true
  · rw [if_pos h]
    by_cases e : k = v
    · subst e; rw [h]; simp
    · simp [e]
  · rw [if_neg h, List.any_append]
    by_cases e : k = v
    · subst e; simp
    · have hb : (v == k) = false := by simpa [beq_iff_eq] using (fun h' : v = k => e h'.symm)
      simp [hb, e]
theorem stepS_length (σ : List Str) (v : Str) : (stepS σ v).length = if σ.any (· == v) then σ.length else σ.length + 1 := by
  unfold stepS; split <;> simp
theorem foldS_le : ∀ (xs acc : List Str), (xs.foldl stepS acc).length ≤ acc.length + xs.length
  | [], acc => by simp
  | x :: xs, acc => by
    have h := foldS_le xs (stepS acc x)
    have h2 := stepS_length acc x
    rw [List.foldl_cons]
    split at h2 <;> simp <;> omega
theorem dedS_le (xs : List Str) : (dedS xs).length ≤ xs.length := by simpa [dedS] using foldS_le xs []
theorem metS_le (xs : List Str) (i : Nat) : (metS xs i).length ≤ i := Nat.le_trans (dedS_le _) (by rw [List.length_take]; exact Nat.min_le_left _ _)
section
variable {prog : Program} {w : World} {A : Around} {R : Result → Shared → Prop} {I : Addr} {fp wr : List Addr} {G : Array GenState → Array GenState → Prop} {n : Nat} {P : Nat → Value → Prop} {St : Nat → Shared → Prop}
theorem set_loop_texts (W : WalksS prog w A.in1 I fp wr G n P St) (S : Addr) (hSf : S ∉ fp) (xs : List Str) (hsz : xs.length = n) (hb : n + 1 < scanBound)
    (hval : ∀ i v, P i v → ∃ t, v = .str (xs.getD i Str.empty) t) :
    ∀ (k i : Nat) (s : Shared), n - i = k → i ≤ n → St i s →
      s.heap.SetOf (PySem.strKind prog w) S (fun k' => (metS xs i).any (· == k')) (metS xs i).length →
      (∀ s', Moved (S :: wr) G s s' → s'.heap.SetOf (PySem.strKind prog w) S (fun k' => (metS xs n).any (· == k')) (metS xs n).length → R (.ok (.ret .none)) s') →
      codeAny (model prog w) A (.builtin "set.update.loop" ⟨[.ref S, .ref I], []⟩) R s := by
  have hSw : S ∉ wr := fun h => hSf (W.sub _ h)
  have hsub : ∀ b ∈ wr, b ∈ S :: wr := fun b hb => List.mem_cons_of_mem _ hb
  intro k
  induction k with
  | zero =>
    intro i s hk hi hst hS hR
    obtain rfl : i = n := by omega
    refine codeAny_builtin PyProof.Rows.F.entry_set_update_loop ?_
    rw [Around.under_plainId PyProof.Rows.F.plain_set_update_loop _]
    show wpAny _ A.in1 (pyNext (.ref I) >>= _) _ _ s
    refine wpAny_bind (W.done s _ _ hst fun s' hm => ?_)
    show wpAny _ A.in1 (ret Value.none) _ _ s'
    obtain ⟨o, es, ep, t, ho, rest⟩ := hS
    exact wpAny_pure (hR s' (hm.mono hsub) ⟨o, es, ep, t, hm.heap S _ hSw ho, rest⟩)
  | succ k ih =>
    intro i s hk hi hst hS hR
    have hlt : i < n := by omega
    refine codeAny_builtin PyProof.Rows.F.entry_set_update_loop ?_
    rw [Around.under_plainId PyProof.Rows.F.plain_set_update_loop _]
    show wpAny _ A.in1 (pyNext (.ref I) >>= _) _ _ s
    refine wpAny_bind (W.item i s _ _ hlt hst fun v s' hP hst' hm => ?_)
    obtain ⟨t, rfl⟩ := hval i v hP
    obtain ⟨o, es, ep, tb, ho, rest⟩ := hS
    have hS' : s'.heap.SetOf (PySem.strKind prog w) S (fun k' => (metS xs i).any (· == k')) (metS xs i).length := ⟨o, es, ep, tb, hm.heap S _ hSw ho, rest⟩
    have hroom : (metS xs i).length + 1 < scanBound := by have := metS_le xs i; omega
    show wpAny _ A.in1 (holding [Value.str (xs.getD i Str.empty) t] (setAdd S (.str (xs.getD i Str.empty) t)) >>= _) _ _ s'
    refine wpAny_bind (wpAny_holding ?_)
    unfold setAdd
    refine wpAny_holding ?_
    refine wpAny_bind ((PySem.strKind prog w).pyHash (k := xs.getD i Str.empty) (strKind_is _ _ _ _) ?_)
    refine wpAny_setAddHashed_of (knd := PySem.strKind prog w) (s := { s' with toks := s'.toks + 1 }) (strKind_is _ _ _ _) rfl hS' hroom fun h' hsb hS2 => ?_
    have hl : i < xs.length := by omega
    have hSi : h'.SetOf (PySem.strKind prog w) S (fun k' => (metS xs (i + 1)).any (· == k')) (metS xs (i + 1)).length :=
      SetOf_congr hS2 (fun k' => by rw [metS_succ hl, stepS_any]) (by rw [metS_succ hl, stepS_length])
    refine wpAny_pure ⟨plainId_quiet PyProof.Rows.F.plain_set_update_loop _, ih (i + 1) _ (by omega) hlt (W.frame _ s' _ _ hst' (Nat.le_succ _) fun b hb o e => ?_) hSi fun s'' hm'' hS'' => ?_⟩
    · rw [hsb.2 b (fun h : b = S => hSf (by rw [← h]; exact hb))]; exact e
    · refine hR s'' (Moved.trans W.gtrans ((hm.mono hsub).then_heap (Nat.le_succ _) fun b o hb e => ?_) hm'') hS''
      rw [hsb.2 b (fun h : b = S => hb (by rw [h]; exact List.mem_cons_self))]; exact e
end
section
variable {prog : Program} {w : World} {A : Around} {E : Value → Shared → Prop} {s : Shared}
open PySem.F in
theorem call_set_texts {l : Addr} {items : Array Value} {xs : List Str} {Q : Value → Shared → Prop}
    (hh : A.handled = none) (hl : s.heap.IsList l items) (hi : PyProof.Rows.StrsAre items.toList xs) (hb : items.size + 1 < scanBound)
    (h : ∀ (h' : Heap) (tk : Nat), h'.SetOf (PySem.strKind prog w) s.heap.objs.size (fun k' => (metS xs items.size).any (· == k')) (metS xs items.size).length →
      (∀ b o, b < s.heap.objs.size → s.heap.get? b = some o → h'.get? b = some o) → Q (.ref s.heap.objs.size) { s with heap := h', toks := tk }) :
    wpAny (model prog w) A (call (.type "set") [.ref l]) Q E s := by
  obtain ⟨c, tl, hmro⟩ := PySem.F.called_set.mro
  have hmade := PySem.F.called_set.made
  have hsub := PySem.F.called_set.sub
  refine wpAny_call (codeAny_of_tree ?_)
  show wpAny _ _ (callAny (.type "set") _) _ _ _
  refine wpAny_pure ⟨Code.quiet_builtin _ (by decide +kernel), codeAny_builtin PySem.F.entry_type_call ?_⟩
  rw [Around.under_plain (weight_type_call_type "set" [.ref l] []) rfl]
  have h1 := PySem.F.called_set.notType
  have h2 := PySem.F.called_set.canCreate
  have hct := PySem.F.typeCall_set_1 (.ref l)
  repeat (any_goals (first | assumption | wp_step))
  refine codeAny_mono (code_set_new_1 (.ref l) (E := E) (Q₁ := fun obj s₁ => ∃ led : Bool, obj = .ref s.heap.objs.size ∧ s₁ = { s with heap := s.heap.push { cls := .type "set", dict := none, data := .set #[] 0 (.fresh 0 0 led) } }) fun led => ⟨led, rfl, rfl⟩) fun r s₁ hr => ?_
  match r, hr with
  | .error e, hr => exact hr
  | .ok .next, hr => exact hr.elim
  | .ok .brk, hr => exact hr.elim
  | .ok .cont, hr => exact hr.elim
  | .ok (.ret obj), hr =>
    obtain ⟨led, rfl, rfl⟩ := hr
    have hS : (s.heap.push { cls := .type "set", dict := none, data := .set #[] 0 (.fresh 0 0 led) }).get? s.heap.objs.size = some { cls := .type "set", dict := none, data := .set #[] 0 (.fresh 0 0 led) } := Heap.get?_push_size _ rfl
    have hT : Shared.TypeIs { s with heap := s.heap.push { cls := .type "set", dict := none, data := .set #[] 0 (.fresh 0 0 led) } } (.ref s.heap.objs.size) "set" := ⟨_, hS, rfl⟩
    have hli := PySem.F.called_set.init.lookup
    have hbi := PySem.F.called_set.init.bind (.ref s.heap.objs.size)
    repeat (any_goals (first | assumption | wp_step))
    refine codeAny_mono (codeAny_call_builtin (R := wants (fun r s₂ => r = .none ∧ ∃ h' tk, s₂ = { s with heap := h', toks := tk } ∧
        h'.SetOf (PySem.strKind prog w) s.heap.objs.size (fun k' => (metS xs items.size).any (· == k')) (metS xs items.size).length ∧
        (∀ b o, b < s.heap.objs.size → s.heap.get? b = some o → h'.get? b = some o)) E) PySem.F.called_set.init.plain PySem.F.entry_set_init (check_set_init_1 hT ?_)) fun r₂ s₂ hr₂ => ?_
    · obtain ⟨ol, hol, hcl, nl, hdl⟩ := hl
      obtain ⟨ocls, odict, odata, oslots⟩ := ol
      simp only at hcl hdl
      subst hcl; subst hdl
      have hol' : (s.heap.push { cls := .type "set", dict := none, data := .set #[] 0 (.fresh 0 0 led) }).get? l = some { cls := .type "list", dict := odict, data := .seq items nl, slots := oslots } := Heap.get?_push_of_some _ hol
      have hsls := PySem.F.sub_list_set
      have hslf := PySem.F.sub_list_frozenset
      have hne : (Value.type "list" == Value.type "dict") = false := by decide
      have hl1 : (s.heap.push { cls := .type "set", dict := none, data := .set #[] 0 (.fresh 0 0 led) }).IsList l items := ⟨_, hol', rfl, nl, rfl⟩
      unfold Builtin.«set.__init__» noKeywords Builtin.Frozenset.updateFrom
      generalize hPI : pyIter = PI
      wp_walk
      subst hPI
      refine wpAny_pyIter_list hl1 ?_
      refine wpAny_bind (wpAny_runValue ?_)
      have hlS : l < s.heap.objs.size := Heap.lt_size hol
      have hh3 : A.in1.in1.in1.handled = none := by simp [hh]
      have hneI : l ≠ (s.heap.push { cls := .type "set", dict := none, data := .set #[] 0 (.fresh 0 0 led) }).objs.size := by
        rw [Heap.size_push]; exact Nat.ne_of_lt (Nat.lt_succ_of_lt hlS)
      have hSf : s.heap.objs.size ∉ [(s.heap.push { cls := .type "set", dict := none, data := .set #[] 0 (.fresh 0 0 led) }).objs.size, l] := by
        rw [Heap.size_push]; simp only [List.mem_cons, List.mem_singleton, List.not_mem_nil, or_false, not_or]
        exact ⟨Nat.ne_of_lt (Nat.lt_succ_self _), Nat.ne_of_gt hlS⟩
      have hsz : xs.length = items.size := by rw [← StrsAre.len_eq hi, Array.length_toList]
      have hval : ∀ (i : Nat) (v : Value), items[i]? = some v → ∃ t, v = .str (xs.getD i Str.empty) t := fun i v hv => SS.strs_at hi i v (by rw [Array.getElem?_toList]; exact hv)
      refine set_loop_texts ((Walks.list hh3 _ l hneI items).toS) s.heap.objs.size
        hSf xs hsz hb hval (items.size - 0) 0 _ (by omega) (Nat.zero_le _)
        ⟨⟨_, Heap.get?_push_size _ rfl, rfl, rfl⟩, (hl1.push _)⟩ ?hS0 ?hR
      case hS0 =>
        have hget : ((s.heap.push { cls := .type "set", dict := none, data := .set #[] 0 (.fresh 0 0 led) }).push { cls := .type "list_iterator", data := .fields #[.ref l, .int 0 0] }).get? s.heap.objs.size
            = some { cls := .type "set", dict := none, data := .set #[] 0 (.fresh 0 0 led) } := Heap.get?_push_of_some _ hS
        exact PyProof.Rows.SetOf_congr ((PyProof.Rows.setObjOf_fresh (knd := PySem.strKind prog w) led).setOf hget (by unfold scanBound; omega)) (fun _ => by simp [metS, dedS]) (by simp [metS, dedS])
      case hR =>
        intro s' hm hS'
        obtain ⟨h', g', d', tk', os'⟩ := s'
        have eg : g' = s.gens := hm.gens
        have ed : d' = s.drawn := hm.drawn
        have eo : os' = s.os := hm.os
        subst eg; subst ed; subst eo
        show wpAny _ _ _ _ _ _
        refine wpAny_pure ?_
        show wpAny _ _ (ret Value.none) _ _ _
        refine wpAny_pure ⟨rfl, h', tk', rfl, hS', fun b o hb e => ?_⟩
        have hb1 : b ≠ s.heap.objs.size := Nat.ne_of_lt hb
        have hb2 : b ≠ (s.heap.push { cls := .type "set", dict := none, data := .set #[] 0 (.fresh 0 0 led) }).objs.size := by
          rw [Heap.size_push]; exact Nat.ne_of_lt (Nat.lt_succ_of_lt hb)
        exact hm.heap b o (by simp only [List.mem_cons, List.mem_singleton, List.not_mem_nil, or_false, not_or]; exact ⟨hb1, hb2⟩) (Heap.get?_push_of_some _ (Heap.get?_push_of_some _ e))
    · match r₂, hr₂ with
      | .error e, hr₂ => exact hr₂
      | .ok .next, hr₂ => exact hr₂.elim
      | .ok .brk, hr₂ => exact hr₂.elim
      | .ok .cont, hr₂ => exact hr₂.elim
      | .ok (.ret r), hr₂ =>
        obtain ⟨rfl, h', tk, rfl, hS', hk'⟩ := hr₂
        repeat (any_goals (first | assumption | wp_step))
        exact h _ _ hS' hk'
end
def textsOf : List PyData → Option (List Str)
  | [] => some []
  | .str b :: ds => (textsOf ds).map (b :: ·)
  | _ :: _ => none
def tupsOf : List PyData → Option (List (List Int))
  | [] => some []
  | .tuple b :: ds => (intsOf b).bind fun x => (tupsOf ds).map (x :: ·)
  | _ :: _ => none
theorem dtexts_V {K : PySem.W.Frag} {H : Hp} : ∀ {xs : List V} {ds : List PyData} {bs : List Str}, DpAll K H xs ds → textsOf ds = some bs → xs = bs.map V.str
  | _, _, bs, .nil, h => by
    cases h
    rfl
  | _, d :: ds, bs, .cons r rs, h => by
    cases r with
    | str x =>
      have h : Option.map (x :: ·) (textsOf ds) = some bs := h
      cases hb : textsOf ds with
      | none =>
        rw [hb] at h
        cases h
      | some cs =>
        rw [hb] at h
        cases h
        rw [dtexts_V rs hb]
        rfl
    | _ => exact absurd h (by simp [textsOf])
theorem texts_noDict : ∀ {ds : List PyData} {bs : List Str}, textsOf ds = some bs → PyData.hasDictAll ds = false
  | [], _, _ => rfl
  | d :: ds, bs, h => by
    cases d with
    | str x =>
      have h : Option.map (x :: ·) (textsOf ds) = some bs := h
      cases hb : textsOf ds with
      | none =>
        rw [hb] at h
        cases h
      | some cs => exact (texts_noDict hb : PyData.hasDictAll ds = false)
    | _ => exact absurd h (by simp [textsOf])
theorem tups_noDict : ∀ {ds : List PyData} {bs : List (List Int)}, tupsOf ds = some bs → PyData.hasDictAll ds = false
  | [], _, _ => rfl
  | d :: ds, bs, h => by
    cases d with
    | tuple b =>
      have h : ((intsOf b).bind fun x => (tupsOf ds).map (x :: ·)) = some bs := h
      cases hi : intsOf b with
      | none =>
        rw [hi] at h
        cases h
      | some x =>
        rw [hi] at h
        have h : Option.map (x :: ·) (tupsOf ds) = some bs := h
        cases hb : tupsOf ds with
        | none =>
          rw [hb] at h
          cases h
        | some cs =>
          have e1 : PyData.hasDict (.tuple b) = PyData.hasDictAll b := by simp [PyData.hasDict]
          have e2 : PyData.hasDictAll (.tuple b :: ds) = (PyData.hasDict (.tuple b) || PyData.hasDictAll ds) := by simp [PyData.hasDictAll]
          rw [e2, e1, ints_noDict hi, tups_noDict hb]
          rfl
    | _ => exact absurd h (by simp [tupsOf])
theorem dtups_V {K : PySem.W.Frag} {H : Hp} : ∀ {xs : List V} {ds : List PyData} {bs : List (List Int)}, DpAll K H xs ds → tupsOf ds = some bs →
    ∃ ks : List (Addr × List Int), xs = ks.map (fun p => V.ref p.1) ∧ (∀ p ∈ ks, SqT K H p.1 (p.2.map V.int)) ∧ ks.map Prod.snd = bs
  | _, _, bs, .nil, h => by
    cases h
    exact ⟨[], rfl, fun p hp => (by cases hp), rfl⟩
  | _, d :: ds, bs, .cons r rs, h => by
    cases r with
    | @tup a xs b hx al =>
      have h : ((intsOf b).bind fun x => (tupsOf ds).map (x :: ·)) = some bs := h
      cases hi : intsOf b with
      | none =>
        rw [hi] at h
        cases h
      | some x =>
        rw [hi] at h
        have h : Option.map (x :: ·) (tupsOf ds) = some bs := h
        cases hb : tupsOf ds with
        | none =>
          rw [hb] at h
          cases h
        | some cs =>
          rw [hb] at h
          cases h
          obtain ⟨ks, e1, e2, e3⟩ := dtups_V rs hb
          have ex := dints_V al hi
          subst ex
          refine ⟨(a, x) :: ks, by rw [e1]; rfl, fun p hp => ?_, by rw [← e3]; rfl⟩
          rcases List.mem_cons.mp hp with rfl | hp
          · exact hx
          · exact e2 p hp
    | _ => exact absurd h (by simp [tupsOf])
/-- each thing once, as first met -/
def stepT (acc : List (List Int)) (v : List Int) : List (List Int) := if v ∈ acc then acc else acc ++ [v]
def dedT (xs : List (List Int)) : List (List Int) := xs.foldl stepT []
theorem foldT_mem : ∀ (xs acc : List (List Int)) (v : List Int), v ∈ xs.foldl stepT acc ↔ v ∈ acc ∨ v ∈ xs
  | [], acc, v => by simp
  | x :: xs, acc, v => by
    rw [List.foldl_cons, foldT_mem xs]
    unfold stepT
    split
    · rename_i h
      constructor
      · rintro (q | q)
        · exact .inl q
        · exact .inr (List.mem_cons_of_mem _ q)
      · rintro (q | q)
        · exact .inl q
        · rcases List.mem_cons.mp q with rfl | q
          · exact .inl h
          · exact .inr q
    · simp [or_assoc]
theorem mem_dedT (xs : List (List Int)) (v : List Int) : v ∈ dedT xs ↔ v ∈ xs := by simp [dedT, foldT_mem]
theorem foldT_nodup : ∀ (xs acc : List (List Int)), acc.Nodup → (xs.foldl stepT acc).Nodup
  | [], acc, h => h
  | x :: xs, acc, h => by
    rw [List.foldl_cons]
    refine foldT_nodup xs _ ?_
    unfold stepT
    split
    · exact h
    · rename_i q
      exact List.nodup_append.mpr ⟨h, by simp, fun a ha b hb e => by
        rw [List.mem_singleton.mp hb] at e
        exact q (e ▸ ha)⟩
theorem nodup_dedT (xs : List (List Int)) : (dedT xs).Nodup := foldT_nodup xs [] List.nodup_nil
theorem len_dedT {xs ys : List (List Int)} (hn : ys.Nodup) (h1 : ∀ v ∈ ys, v ∈ xs) (h2 : ∀ v ∈ xs, v ∈ ys) : ys.length = (dedT xs).length :=
  Nat.le_antisymm (hn.length_le_of_subset fun v hv => (mem_dedT _ _).mpr (h1 v hv)) ((nodup_dedT xs).length_le_of_subset fun v hv => h2 v ((mem_dedT _ _).mp hv))
section
variable {X : Cx} {E : XK} {a : Expr} {f : Ex} {p p2 q pos : Pos}
def tLenSetS (K : PySem.W.Frag) (ta : TE) : TE := fun σ H Q => ta σ H fun x H1 => ∃ l : Addr, x = V.ref l ∧
  ((∃ ns : List Str, SqL K H1 l (ns.map V.str) ∧ ns.length ≤ 4000 ∧ Q (.int (dedS ns).length) H1) ∨
   ∃ ks : List (Addr × List Int), SqL K H1 l (ks.map fun p => V.ref p.1) ∧ (∀ p ∈ ks, SqT K H1 p.1 (p.2.map V.int)) ∧ ks.length < 64 ∧ Q (.int (dedT (ks.map Prod.snd)).length) H1)
theorem pe_lenSetS {k : Nat} {ta : TE} (hr : Room k X.A) (hc : X.calm = true) (hm : X.mg "len" = none) (hm2 : X.mg "set" = none) (ha : PE X a ta) (hg : Gl X "len" := by rfl) (hg2 : Gl X "set" := by rfl)
    (na : starEach [a] X.env = (false, eval a X.env) :: starEach [] X.env := by rfl) : PE X (.Call (.Name "len" p) [.Call (.Name "set" p2) [a] [] q] [] pos) (tLenSetS X.K ta) := by
  refine ⟨fun pins s σ H Q I h => ?_⟩
  refine Call_ (ld_blt I hg hm PySem.boot_len ?_)
  refine PyProof.Rows.callWith_builtin1 (PyProof.Rows.args_cons ?_ rfl) rfl rfl
  refine Call_ (ld_blt I hg2 hm2 PyProof.Rows.boot_set ?_)
  refine PyProof.Rows.callWith_type1 (PyProof.Rows.args_cons (thn (ha.run pins s σ H _ I h) fun v s1 ⟨x, H1, I1, r1, q1⟩ => PyProof.Rows.args_nil ?_) na) na rfl
  obtain ⟨l, rfl, q1⟩ := q1
  cases r1
  have sl : (sizeLine : Nat) = 16777216 := sizeLine_eq
  rcases q1 with ⟨ns, hq, h1, q1⟩ | ⟨ks, hq, hk, h1, q1⟩
  · obtain ⟨its, r, pl, hz⟩ := I1.list hq
    have hl : its.toArray.size = ns.length := by rw [List.size_toArray, ← r.length, List.length_map]
    refine call_set_texts (I1.ok.hd hc) pl.isList (xs := ns) (by simpa using strsAre_of r) (by unfold scanBound; omega) fun h' tk hS hk => ?_
    rw [hl, metS_all] at hS
    have hle := dedS_le ns
    refine PyProof.Rows.args_nil ?_
    obtain ⟨o, es, ep, t, ho, hex, hd, _, _, _, hf, hn⟩ := hS
    have I2 : Inv X pins σ H1 { s1 with heap := h', toks := tk } := I1.kept fun b o e => hk b o (Heap.lt_size e) e
    refine call_len_set ho hex hd hf (by rw [hn] <;> omega) ⟨.int (dedS ns).length, H1, I2.tok _, ⟨_, by rw [hn]⟩, q1⟩
  · obtain ⟨its, r, pl, hz⟩ := I1.list hq
    refine call_set_tups (P := X.prog) (w := X.w) ks (I1.ok.hd hc) pl.isList (by simpa using refs_of_vals r) (fun p hp => I1.isT (hk p hp)) h1 (by have := hr.units; omega) fun h' tk L es ep t R g kp => ?_
    refine PyProof.Rows.args_nil ?_
    have I2 : Inv X pins σ H1 { s1 with heap := h', toks := tk } := I1.kept kp
    have e : L.length = (dedT (ks.map Prod.snd)).length := by
      rw [← len_dedT (ys := L.map (·.2)) R.nd (fun v hv => ?_) (fun v hv => ?_), List.length_map]
      · obtain ⟨p, hp, rfl⟩ := List.mem_map.mp hv
        exact List.mem_map.mpr ⟨p, List.mem_of_mem_take (g.sub p hp), rfl⟩
      · obtain ⟨p, hp, rfl⟩ := List.mem_map.mp hv
        exact g.all p (by rw [List.take_length]; exact hp)
    have hsz : es.size = (dedT (ks.map Prod.snd)).length := (R.size (s := { s1 with heap := h', toks := tk })).trans e
    obtain ⟨o, ho, hex, hd⟩ := R.ob
    refine call_len_set ho hex hd (R.fits (s := { s1 with heap := h', toks := tk })) ?_ ⟨.int (dedT (ks.map Prod.snd)).length, H1, I2.tok _, ⟨_, by rw [hsz]⟩, q1⟩
    have := R.few
    rw [R.size (s := { s1 with heap := h', toks := tk })]
    omega
def lenSetX (d : D) (S : Sto) : R D := match deep S 8 d with
  | some (.list ds) => (match textsOf ds with
    | some ns => if ns.length ≤ 4000 then .ok (.py (.int ((dedS ns).length : Nat))) S else .no
    | none => (match tupsOf ds with
      | some ns => if ns.length < 64 then .ok (.py (.int ((dedT ns).length : Nat))) S else .no
      | none => .no))
  | _ => .no
theorem de_lensetX {kk : Nat} (o : Okx kk X E) (hm : X.mg "len" = none) (hm2 : X.mg "set" = none) (ha : DE X E a f) (hg : Gl X "len" := by rfl) (hg2 : Gl X "set" := by rfl)
    (na : starEach [a] X.env = (false, eval a X.env) :: starEach [] X.env := by rfl) : DE X E (.Call (.Name "len" p) [.Call (.Name "set" p2) [a] [] q] [] pos) (op1 lenSetX f) := by
  obtain ⟨t, pt, qt⟩ := ha
  refine ⟨_, pe_lenSetS o.room o.calm hm hm2 pt hg hg2 na, fun σ H σd S ι Q hE hS h => ?_⟩
  refine qt σ H σd S ι _ hE hS (Wp.bind h fun d S1 _ v H1 ι1 p1 r1 h1 => ?_)
  unfold lenSetX at h1
  split at h1
  · rename_i ds hd
    split at h1
    · rename_i ns hns
      split at h1
      · rename_i hz
        have dx := deep_dp p1.sto _ r1 hd (by rw [PyData.hasDict.eq_5]; exact texts_noDict hns)
        cases dx with
        | lst hL al => exact ⟨_, rfl, .inl ⟨ns, dtexts_V al hns ▸ hL, hz, h1 _ _ _ (.refl p1.sto) (.py (.int _))⟩⟩
      · exact h1.elim
    · split at h1
      · rename_i ns hns
        split at h1
        · rename_i hz
          have dx := deep_dp p1.sto _ r1 hd (by rw [PyData.hasDict.eq_5]; exact tups_noDict hns)
          cases dx with
          | lst hL al =>
            obtain ⟨ks, e1, e2, e3⟩ := dtups_V al hns
            subst e1
            subst e3
            exact ⟨_, rfl, .inr ⟨ks, hL, e2, by rwa [List.length_map] at hz, h1 _ _ _ (.refl p1.sto) (.py (.int _))⟩⟩
        · exact h1.elim
      · exact h1.elim
  · exact h1.elim
end
end DV

set_option maxHeartbeats 4000000
namespace DV
open PySem PySem.Spec PyProof.Rows L2
/-! [f, g, ..][i](..): a def out of a written list, called. -/
inductive Pk (X : Cx) (k n : Nat) : List Expr → List Addr → List (List D → Sto → R D) → Prop
  | nil : Pk X k n [] [] []
  | cons {x : Str} {p : Pos} {f : Addr} {fd : FuncData} {ps : List Str} {F : List D → Sto → R D} {j : Nat} {es : List Expr} {as : List Addr} {Fs : List (List D → Sto → R D)} :
      FnD X.prog X.w X.K X.mg X.base j f fd ps F → At X.K X.mg x f fd ps → j ≤ k → ps.length = n → Gl X x → (x == ("__debug__" : Str)) = false → Pk X k n es as Fs → Pk X k n (.Name x p :: es) (f :: as) (F :: Fs)
section
variable {X : Cx} {E : XK} {k n : Nat}
theorem Pk.pa {es : List Expr} {as : List Addr} {Fs : List (List D → Sto → R D)} (h : Pk X k n es as Fs) : PA X es (fun σ H Q => Q (as.map V.ref) H) := by
  induction h with
  | nil => exact ⟨fun pos pins s σ H Q I h => pa_nil.run pos pins s σ H Q I h⟩
  | cons hF at_ hj hn hg hd _ ih => exact ⟨fun pos pins s σ H Q I h => (pa_cons (pe_glob (v := .ref _) hg at_.g rfl hd) ih (by rfl)).run pos pins s σ H Q I h⟩
theorem Pk.len {es : List Expr} {as : List Addr} {Fs : List (List D → Sto → R D)} (h : Pk X k n es as Fs) : as.length = es.length := by
  induction h with
  | nil => rfl
  | cons _ _ _ _ _ _ _ ih => simp [ih]
def Callable (X : Cx) (k n : Nat) (f : Addr) (F : List D → Sto → R D) : Prop := ∃ (fd : FuncData) (ps : List Str) (j : Nat), FnD X.prog X.w X.K X.mg X.base j f fd ps F ∧ PySem.W.keepIn X.K (.ref f) = true ∧ Binds X.K fd ps [] ∧ j ≤ k ∧ ps.length = n
theorem Pk.get {es : List Expr} {as : List Addr} {Fs : List (List D → Sto → R D)} (h : Pk X k n es as Fs) : ∀ (i : Nat) (F : List D → Sto → R D), Fs[i]? = some F → ∃ f, as[i]? = some f ∧ Callable X k n f F := by
  induction h with
  | nil => intro i F h; simp at h
  | cons hF at_ hj hn hg hd _ ih =>
    intro i G h
    cases i with
    | zero =>
      cases h
      exact ⟨_, rfl, _, _, _, hF, at_.kp, at_.b, hj, hn⟩
    | succ i => exact ih i G (by simpa using h)
end
end DV

set_option maxHeartbeats 4000000
namespace DV
open PySem PySem.Spec PyProof.Rows L2
/-! sum of a tuple; min and max of lists and tuples by value whose items are alike (numbers, texts, tuples of these). -/
section
variable {prog : Program} {w : World} {A : Around} {E : Value → Shared → Prop} {s : Shared}
end
section
variable {X : Cx}
end
end DV

set_option maxHeartbeats 4000000
namespace DV
open PySem PySem.Spec PyProof.Rows L2
/-! A lambda with one parameter: its body's context, its call. -/
structure LamP (x : Str) (sc scope : Scope) : Prop where
  kind : scope.kind = .function
  co : scope.isCoroutine = false
  gen : scope.isGenerator = false
  par : scope.names.lookup x = some .local
  cel : ∀ y ∈ scope.names, y.2 ≠ .cell
  loc : ∀ y ∈ scope.names, y.2 = .local → y.1 = x
  free : ∀ y ∈ scope.names, y.2 = .free → sc.names.lookup y.1 = some .cell ∨ sc.names.lookup y.1 = some .free
  no : scope.names.lookup Str.empty = none
  ne : x ≠ Str.empty
theorem LamP.has {X : Cx} {x : Str} {scope : Scope} (L : LamP x X.env.scope scope) (ok : X.Ok) : ∀ y ∈ scope.names, y.2 = .free → ∃ c, X.env.cells.lookup y.1 = some c := fun y hy e => by
  rcases L.free y hy e with k | k
  · exact ok.has _ (.inl k)
  · exact ok.has _ (.inr k)
section
variable {X : Cx} {pins : List (Addr × Obj)} {σ : L2.St} {H HZ : Hp} {s s1 : Shared}
end
end DV

set_option maxHeartbeats 4000000
namespace DV
open PySem PySem.Spec PyProof.Rows L2
/-! sorted(xs, key=lambda x: ..) -/
section
variable {P : Program} {w : World} {H H' : Hp} {h h' : Heap}
end
section
variable {X : Cx} {pins : List (Addr × Obj)} {σ : L2.St} {H : Hp} {s : Shared}
end
/-! ### the sort -/
section
variable {prog : Program} {w : World} {A : Around} {E : Value → Shared → Prop} {s : Shared} {a kS : Addr} {e e1 : Nat} {vs : List Value} {keys : Array Value} {R : PySem.Fin → Shared → Prop}
end
end DV

set_option maxHeartbeats 4000000
namespace DV
open PySem PySem.Spec PyProof.Rows L2
/-! The walk of sorted(xs, key=lambda x: ..). -/
section
variable {X : Cx} {pins : List (Addr × Obj)} {σ : L2.St} {H : Hp} {s : Shared}
/-- what stands while the keys are made -/
structure MidK (X : Cx) (s : Shared) (H : Hp) (ι : List Addr) (kS a : Addr) (e1 : Nat) (kA : Array Value) (e : Nat) (Hi : Hp) (ιi : List Addr) (Si : Sto) (vks : List V) (kz : List PyData) (s' : Shared) : Prop where
  os : s'.os = s.os
  bare : AllBare s'.gens
  un : Un (frs X.stack) [] H Hi s.heap s'.heap
  hok : HOk X.prog X.w Hi s'.heap
  post : Post X.K ι H ιi Hi Si
  hk : s'.heap.get? kS = some (seqObj "list" kA e)
  ha : s'.heap.get? a = some (seqObj "list" #[] e1)
  nk : Hi kS = none
  na : Hi a = none
  vals : Vals vks kA.toList
  pp : PpAll X.K Hi vks kz
end
end DV

set_option maxHeartbeats 4000000
namespace DV
open PySem PySem.Spec PyProof.Rows L2
/-! len(set(a tuple of whole numbers)) -/
section
variable {X : Cx} {E : XK} {a b e : Expr} {f g : Ex} {k : Nat} {pos p p1 p2 p3 q : Pos}
end
end DV

set_option maxHeartbeats 4000000
namespace DV
open PySem PySem.Spec PyProof.Rows L2
/-! dicts with tuple keys that are changed: {}, d[a, b] = v, (a, b) in d -/
section
variable {K : PySem.W.Frag} {ι ι' : List Addr} {H H' : Hp} {S S' : Sto}
theorem KeepA.dt {H : Hp} {p : Addr} {kvs : List (List Key × V)} {o : HO} (h : H p = some (.dT kvs)) : KeepA H (upd H p o) := by
  have ne : ∀ (b : Addr) (u : HO), H b = some u → (∀ kvs, u ≠ .dT kvs) → upd H p o b = some u := fun b u e n => by
    rw [upd_ne (fun z => by subst z; rw [h] at e; cases e; exact n kvs rfl)]
    exact e
  exact ⟨⟨fun b xs e => ne b _ e (fun _ z => by cases z), fun b o u e => ne b _ e (fun _ z => by cases z)⟩, fun P q ⟨ps, h1, h2, h3⟩ => ⟨ps, ne _ _ h1 (fun _ z => by cases z), h2, fun pos cv hc => by
    obtain ⟨c, e1, e2⟩ := h3 pos cv hc
    exact ⟨c, e1, ne _ _ e2 (fun _ z => by unfold LamX.CodeO at z; cases z)⟩⟩⟩
end
section
variable {X : Cx} {E : XK} {v x : Ex} {k : Ax} {ve xe : Expr} {ks : List Expr} {x1 : Nat} {pos pos' tpos : Pos}
end
end DV

set_option maxHeartbeats 4000000
/-! t.index(x), dict(t) of tuples made in the run. -/
namespace DV
open PySem PySem.Spec PyProof.Rows L2
section
variable {X : Cx} {E : XK} {pins : List (Addr × Obj)} {σ : L2.St} {H : Hp} {s : Shared}
theorem FT.at_ {a : Addr} {xs : List V} (I : Inv X pins σ H s) (h : FT X.K H a xs) : ∃ o its n, s.heap.get? a = some o ∧ o.cls = .type "tuple" ∧ o.dict = none ∧ o.data = .seq its n ∧ its.size ≤ sizeLine ∧ Vals xs its.toList := by
  rcases h with ⟨o, h, d⟩ | ⟨o, its, n, h1, h2, h3, h4, h5, h6⟩
  · obtain ⟨e, hz, us, r, o2, e2, hc, n, hd⟩ := I.hok a _ h
    cases e.symm.trans e2
    exact ⟨o, us.toArray, n, e, hc, d, hd, by rw [List.size_toArray, ← r.length]; exact hz, by simpa using r⟩
  · exact ⟨o, its, n, I.kIn a o h1, h2, h3, h4, h5, h6⟩
variable {o e : Expr} {es : List Expr} {to : TE} {t : TA} {name : Str} {apos cpos pos p : Pos} {id : String} {r : V → List V → Hp → VK → Prop} {f : Ex} {fs : Ax}
def methT (g : D → List D → Sto → R D) (o : Ex) (a : Ax) : Ex := fun σ S => (o σ S).bind fun x S1 => match x with
  | .py (.tuple _) => (a σ S1).bind fun ds S2 => g x ds S2
  | _ => .no
/-! ### dict(t) -/
def dictT (f : Ex) : Ex := fun σ S => (f σ S).bind fun d S1 => match d with
  | .py (.tuple ds) => (match pairsOf ds with
    | some kv => if (kv.map Prod.fst).Nodup then .ok (.py (.dict (kv.map fun p => (keyP p.1, p.2)))) S1 else .no
    | none => .no)
  | _ => .no
end
end DV

set_option maxHeartbeats 4000000
/-! sorted(set(xs)), xs a list of whole numbers. -/
namespace L2
open PySem PySem.Spec PyProof.Rows
section
variable {P : Program} {w : World} {A : Around} {E : Value → Shared → Prop} {s : Shared}
end
end L2
namespace DV
open PySem PySem.Spec PyProof.Rows L2
section
variable {X : Cx} {E : XK} {e : Expr} {f : Ex} {p p2 q pos : Pos}
end
end DV

set_option maxHeartbeats 4000000
namespace DV
open PySem PySem.Spec PyProof.Rows L2
/-! The end of a law where two defs make lambdas: their tables are numbers 0 and 1 of the store. -/
section
variable {P : Program} {w : World} {K : PySem.W.Frag} {mg : Str → Option Value} {base : Heap}
end
end DV

set_option maxHeartbeats 4000000
namespace DV
open PySem PySem.Spec PyProof.Rows L2
/-! for x in [f, g]: .. x(..): defs of the program out of a written list, called by the name that walks it. -/
section
variable {X : Cx} {E : XK} {k n : Nat}
inductive Ck (X : Cx) (k n : Nat) : List Addr → List (List D → Sto → R D) → Prop
  | nil : Ck X k n [] []
  | cons {x : Str} {f : Addr} {fd : FuncData} {ps : List Str} {F : List D → Sto → R D} {j : Nat} {as : List Addr} {Fs : List (List D → Sto → R D)} :
      FnD X.prog X.w X.K X.mg X.base j f fd ps F → At X.K X.mg x f fd ps → j ≤ k → ps.length = n → Ck X k n as Fs → Ck X k n (f :: as) (F :: Fs)
theorem Ck.find {as : List Addr} {Fs : List (List D → Sto → R D)} (h : Ck X k n as Fs) {a : Addr} {F : List D → Sto → R D} (e : (as.zip Fs).lookup a = some F) : Callable X k n a F := by
  induction h with
  | nil => cases e
  | @cons x f fd ps G j as Fs hF at_ hj hn _ ih =>
    rw [List.zip_cons_cons, List.lookup_cons] at e
    by_cases q : a = f
    · subst q
      simp at e
      subst e
      exact ⟨_, _, _, hF, at_.kp, at_.b, hj, hn⟩
    · have : (a == f) = false := by simpa using q
      rw [this] at e
      exact ih e
end
end DV

set_option maxHeartbeats 4000000
namespace DV
open PySem PySem.Spec PyProof.Rows L2
/-! xs.extend(ys), ys a list that is never changed. -/
variable {X : Cx} {E : XK}
theorem FL.obj {pins : List (Addr × Obj)} {σ : List (Option V)} {H : Hp} {s : Shared} {a : Addr} {xs : List V} (I : Inv X pins σ H s) (h : FL X.K H a xs) :
    ∃ (its : List Value) (n : Nat), Vals xs its ∧ xs.length ≤ sizeLine ∧ s.heap.get? a = some { cls := .type "list", data := .seq its.toArray n } := by
  rcases h with ⟨o, h⟩ | ⟨o, its, n, h1, h2, h3, h4, h5, h6, h7⟩
  · obtain ⟨_, z, its, n, r, e⟩ := (show ObjOk X.prog X.w H s.heap a (.frz o (.lst xs)) from I.hok a _ h)
    exact ⟨its, n, r, z, e⟩
  · refine ⟨its.toList, n, h7, by have := h7.length; simp at this; omega, ?_⟩
    have e := I.kIn a o h1
    obtain ⟨c, d, dt, sl⟩ := o
    simp only at h2 h3 h4 h5
    subst h2 h3 h4 h5
    simpa using e
end DV

set_option maxHeartbeats 4000000
namespace DV
open PySem PySem.Spec PyProof.Rows L2
/-! a, b, c = x, y, z; and four of them. -/
section
variable {X : Cx} {E : XK} {a b c d : Expr} {fs : Ax} {pos : Pos}
end
end DV

set_option maxHeartbeats 4000000
namespace DV
open PySem PySem.Spec PyProof.Rows L2
/-! text.partition(sep); int(text). -/
section
variable {X : Cx} {pins : List (Addr × Obj)} {σ : L2.St} {H : Hp} {s : Shared} {xs : List V} {us : List Value} {Q : VK}
theorem lay_tupK (I : Inv X pins σ H s) (r : Vals xs us) (hz : xs.length ≤ sizeLine) (k : Nat) (q : ∀ p (o : Obj), o.dict = none → H p = none → Q (.ref p) (upd H p (.frz o (.tup xs)))) : EP X pins σ Q (.ref s.heap.objs.size) { s with toks := k, heap := s.heap.push (tupB us) } :=
  ⟨.ref s.heap.objs.size, _, I.laid (t' := k) (fun b u e => Heap.get?_push_of_some _ e) (Nat.le_refl _) (tupF_ok hz r (Heap.get?_push_size _ rfl) rfl rfl), rfl, q _ (tupB us) rfl (I.hok.fresh (Nat.le_refl _))⟩
theorem laid_partsF {x y z : Str} {t u v : Tok} {k : Nat} (I : Inv X pins σ H s) (h : ∀ p (o : Obj), o.dict = none → H p = none → Q (.ref p) (upd H p (.frz o (.tup [.str x, .str y, .str z])))) :
    EP X pins σ Q (.ref s.heap.objs.size) { s with toks := k, heap := s.heap.push { cls := .type "tuple", data := .seq [Value.str x t, .str y u, .str z v].toArray } } :=
  lay_tupK (xs := [.str x, .str y, .str z]) (us := [Value.str x t, .str y u, .str z v]) I (.cons ⟨t, rfl⟩ (.cons ⟨u, rfl⟩ (.cons ⟨v, rfl⟩ .nil))) (by show 3 ≤ sizeLine; decide) k h
end
section
variable {X : Cx} {E : XK}
theorem mt_partitionF : MtR X "str.partition" (fun x xs H Q => ∃ a b, x = .str a ∧ xs = [.str b] ∧ (b.length == 0) = false ∧ a.length ≤ sizeLine ∧
    ∀ p (o : Obj), o.dict = none → H p = none → Q (.ref p) (upd H p (.frz o (.tup [.str (Txt.partition a b).1, .str (Txt.partition a b).2.1, .str (Txt.partition a b).2.2])))) := by
  intro pins s σ H x xs v us Q I rx rs h
  obtain ⟨a, b, rfl, rfl, hb, hz, h⟩ := h
  obtain ⟨t, rfl⟩ := rx
  cases rs with
  | cons r1 rs =>
    cases rs
    obtain ⟨u, rfl⟩ := r1
    refine call_meets PySem.F.slot_str_partition (typeIs_str _ _ _) PySem.F.entry_str_partition (PySem.F.args_str_partition_2 _ _) (meets_str_partition a b t u hb hz) ?_
    unfold Txt.partition at h
    revert h
    cases Builtin.Str.occurrences a b 0 a.length 1 with
    | nil => intro h; exact laid_partsF I h
    | cons i r => intro h; exact laid_partsF I h
def partitionD : D → List D → Sto → R D
  | .py (.str a), [.py (.str b)], S => if (b.length == 0) = false ∧ a.length ≤ sizeLine then .ok (.py (.tuple [.str (Txt.partition a b).1, .str (Txt.partition a b).2.1, .str (Txt.partition a b).2.2])) S else .no
  | _, _, _ => .no
theorem dm_partition : DM X "str" "str.partition" partitionD := by
  refine ⟨_, mt_partitionF (X := X), fun x xs d ds H S ι E Q hS rx r hw => ?_⟩
  unfold partitionD at hw
  split at hw
  · split at hw
    · rename_i hz
      cases r with
      | cons r rs =>
        cases rs
        refine ⟨_, _, str_of rx, by rw [str_of r], hz.1, hz.2, fun p o ho np => hw _ _ _ (.new hS np) (.py (.tup (.new ho) (by show 3 ≤ sizeLine; decide) ?_))⟩
        exact .cons (.str _) (.cons (.str _) (.cons (.str _) .nil))
    · exact hw.elim
  · exact hw.elim
def intX : List D → Sto → R D
  | [.py (.str a)], S => (match PySem.intText? a with
    | some n => if a.length ≤ 640 then .ok (.py (.int n)) S else .no
    | none => .no)
  | _, _ => .no
theorem dc_intX : DC X (.type "int") intX := by
  refine ⟨_, call_int_str (X := X), fun xs ds H S ι E Q hS r hw => ?_⟩
  unfold intX at hw
  split at hw
  · split at hw
    · rename_i n hn
      split at hw
      · rename_i hz
        cases r with
        | cons r rs =>
          cases rs
          exact ⟨_, n, by rw [str_of r], hn, hz, hw _ _ _ (.refl hS) (.py (.int _))⟩
      · exact hw.elim
    · exact hw.elim
  · exact hw.elim
end
end DV

set_option maxHeartbeats 4000000
namespace DV
open PySem PySem.Spec PyProof.Rows L2
/-! sorted(xs), xs a list of data that are alike. -/
section
variable {X : Cx} {E : XK}
end
end DV


set_option maxHeartbeats 4000000
/-! A comprehension over a zip with a list of the store, of whole numbers, that its turns leave as it is. -/
namespace DV
open PySem PySem.Spec PyProof.Rows L2
section
variable {X : Cx} {pins : List (Addr × Obj)} {σ : L2.St} {H : Hp} {s : Shared}
end
section
variable {X : Cx} {E : XK} {e a b c : Expr} {f g h : Ex} {pos p : Pos}
/-- a walk that wants the list as it is -/
structure WalkZ (K : PySem.W.Frag) (H0 : Hp) (d : Addr) (ys : List V) (J : L2.It) (xs : List D) : Prop where
  len : xs.length ≤ sizeLine
  go : ∀ i H, Keep H0 H → H d = some (.lst ys) → i < xs.length → J.go i H
  stop : ∀ H, Keep H0 H → H d = some (.lst ys) → J.stop xs.length H
  yld : ∀ i H v H' x, Keep H0 H → xs[i]? = some x → J.yld i H v H' → KeepA H H' ∧ (∀ (b : Addr) (vs : MO), H b = some vs.ho → H' b = some vs.ho) ∧ (∀ b, H b ≠ none → H' b ≠ none) ∧ ∀ ι, Rd K ι H' v x
end
end DV

set_option maxHeartbeats 4000000
/-! A loop over a zip with a list of the store, whose turns leave that list as it is. -/
namespace DV
open PySem PySem.Spec PyProof.Rows L2
section
variable {X : Cx} {E : XK} {a b : Expr} {f g : Ex} {p pos pos2 : Pos}
/-- a walk that wants the list as it is; each turn gives a new tuple -/
structure WalkQ (K : PySem.W.Frag) (ι0 : List Addr) (H0 : Hp) (d : Addr) (ys : List V) (J : L2.It) (ps : List (List D)) : Prop where
  go : ∀ i H, Keep H0 H → H d = some (.lst ys) → i < ps.length → J.go i H
  stop : ∀ H, Keep H0 H → H d = some (.lst ys) → J.stop ps.length H
  yld : ∀ i H v H' q, Keep H0 H → ps[i]? = some q → J.yld i H v H' → KeepA H H' ∧ (∀ (b : Addr) (vs : MO), H b = some vs.ho → H' b = some vs.ho) ∧ (∀ b, H b ≠ none → H' b ≠ none) ∧
    ∃ T ws, v = .ref T ∧ SqT K H' T ws ∧ ws.length = 2 ∧ ∀ ι, ι0 <+: ι → RdAll K ι H' ws q
end
end DV

set_option maxHeartbeats 2000000
namespace DV
open PySem PySem.Spec PyProof.Rows L2
/-! some text, or another where it is empty -/
section
variable {X : Cx} {E : XK} {a b : Expr} {f g : Ex} {rest : List Expr} {pos : Pos}
end
end DV

set_option maxHeartbeats 4000000
namespace DV
open PySem PySem.Spec PyProof.Rows L2 DV
noncomputable def b_place_of : Sx := (seqS (forS (enumI (opE itemD (varE 0) (cE (.int 1)))) (tupG 2 (consG (nmG 2) (consG (nmG 3) nilG))) (ifS (valT (opE eqD (opE itemD (varE 3) (cE (.int 0))) (varE 1))) (retS (varE 2)) passS)) (retS (cE .none)))
noncomputable def F_place_of : List D → Sto → R D := fnF 4 b_place_of
noncomputable def b_law_box : Sx := (seqS (asgS (opE addD (opE mulD (cE (.int 6151)) (varE 1)) (cE (.int 29))) (nmG 2)) (seqS (ifS (valT (opE ltD (varE 1) (callE lenD (consA (varE 0) nilA)))) (asgS (opE itemD (varE 0) (varE 1)) (nmG 2)) passS) (seqS (ifS (valT (opE eqD (opE modD (varE 2) (cE (.int 2))) (cE (.int 0)))) (retS (thwE (consA (opE fdivD (callE absD (consA (varE 2) nilA)) (cE (.int 2))) (consA (opE addD (opE addD (opE modD (varE 2) (cE (.int 1000003))) (opE mulD (cE (.int 7919)) (varE 1))) (cE (.int 1))) nilA)))) passS) (retS (thwE (consA (cE (.int 0)) (consA (opE addD (opE addD (opE modD (varE 2) (cE (.int 2147483563))) (opE mulD (cE (.int 7919)) (varE 1))) (cE (.int 1))) nilA)))))))
noncomputable def F_law_box : List D → Sto → R D := fnF 3 b_law_box
noncomputable def b_law_take : Sx := (seqS (ifS (valT (opE (cmpI fun i j => decide (j < i)) (opE itemD (varE 0) (cE (.int 0))) (cE (.int 0)))) (seqS (asgS (callE divmodD (consA (opE itemD (varE 0) (cE (.int 0))) (consA (varE 1) nilA))) (tupG 2 (consG (ixG (varE 0) (cE (.int 0))) (consG (nmG 2) nilG)))) (retS (varE 2))) passS) (seqS (asgS (opE modD (opE addD (opE mulD (opE itemD (varE 0) (cE (.int 1))) (cE (.int 48271))) (cE (.int 11))) (cE (.int 2147483647))) (ixG (varE 0) (cE (.int 1)))) (seqS (asgS (opE addD (opE fdivD (opE itemD (varE 0) (cE (.int 1))) (cE (.int 1009))) (cE (.int 1))) (nmG 3)) (retS (opE modD (opE fdivD (opE modD (opE mulD (opE mulD (varE 3) (varE 3)) (varE 3)) (cE (.int 2147483629))) (cE (.int 61))) (varE 1))))))
noncomputable def F_law_take : List D → Sto → R D := fnF 4 b_law_take
noncomputable def b_is_from_to : Sx := (retS (andE (op1 (isiD "int") (varE 0)) (andE (notE (op1 (isiD "bool") (varE 0))) (chainE (cmpI fun i j => decide (i ≤ j)) (cmpI fun i j => decide (i ≤ j)) (varE 1) (varE 0) (varE 2)))))
noncomputable def F_is_from_to : List D → Sto → R D := fnF 3 b_is_from_to
noncomputable def b_is_letter : Sx := (retS (andE (op1 (isiD "str") (varE 0)) (andE (opE eqD (callE lenD (consA (varE 0) nilA)) (cE (.int 1))) (opE inD (varE 0) (cE (.str "abcdefghijklmnopqrstuvwxyz"))))))
noncomputable def F_is_letter : List D → Sto → R D := fnF 1 b_is_letter
noncomputable def b_is_wide : Sx := (retS (callE F_is_from_to (consA (varE 0) (consA (cE (.int 10)) (consA (cE (.int 99)) nilA)))))
noncomputable def F_is_wide : List D → Sto → R D := fnF 1 b_is_wide
noncomputable def b_is_face : Sx := (seqS (ifS (orT (notT (valT (op1 (isiD "tuple") (varE 0)))) (orT (valT (opE neD (callE lenD (consA (varE 0) nilA)) (cE (.int 2)))) (notT (valT (callE F_is_from_to (consA (opE itemD (varE 0) (cE (.int 0))) (consA (cE (.int 1)) (consA (cE (.int 99)) nilA)))))))) (retS (cE (.bool false))) passS) (seqS (ifS (orT (notT (valT (op1 (isiD "tuple") (opE itemD (varE 0) (cE (.int 1)))))) (notT (valT (chainE (cmpI fun i j => decide (i ≤ j)) (cmpI fun i j => decide (i ≤ j)) (cE (.int 1)) (callE lenD (consA (opE itemD (varE 0) (cE (.int 1))) nilA)) (cE (.int 10)))))) (retS (cE (.bool false))) passS) (seqS (forS (seqI (opE itemD (varE 0) (cE (.int 1)))) (nmG 1) (ifS (orT (notT (valT (op1 (isiD "tuple") (varE 1)))) (orT (valT (opE neD (callE lenD (consA (varE 1) nilA)) (cE (.int 2)))) (orT (notT (valT (callE F_is_letter (consA (opE itemD (varE 1) (cE (.int 0))) nilA)))) (notT (valT (callE F_is_wide (consA (opE itemD (varE 1) (cE (.int 1))) nilA))))))) (retS (cE (.bool false))) passS)) (retS (opE eqD (op1 lenSetX (frzE (lcX (seqI (opE itemD (varE 0) (cE (.int 1)))) [1] (nmG 1) yesT (opE itemD (varE 1) (cE (.int 0)))))) (callE lenD (consA (opE itemD (varE 0) (cE (.int 1))) nilA)))))))
noncomputable def F_is_face : List D → Sto → R D := fnF 2 b_is_face
noncomputable def b_law_is_from_to : Sx := (retS (andE (op1 (isiD "int") (varE 0)) (andE (notE (op1 (isiD "bool") (varE 0))) (chainE (cmpI fun i j => decide (i ≤ j)) (cmpI fun i j => decide (i ≤ j)) (varE 1) (varE 0) (varE 2)))))
noncomputable def F_law_is_from_to : List D → Sto → R D := fnF 3 b_law_is_from_to
noncomputable def b_law_face : Sx := (seqS (asgS (thwE (callL listD (consA (cE (.str "abcdefghijklmnopqrstuvwxyz")) nilA))) (nmG 3)) (seqS (asgS (opE addD (varE 1) (callE F_law_take (consA (varE 0) (consA (opE addD (opE subD (varE 2) (varE 1)) (cE (.int 1))) nilA)))) (nmG 4)) (seqS (asgS (frzE (lcX (rng1I (varE 4)) [6] (nmG 6) yesT (tupE (consA (methL popD (varE 3) (consA (callE F_law_take (consA (varE 0) (consA (callE lenD (consA (varE 3) nilA)) nilA))) nilA)) (consA (opE addD (cE (.int 10)) (callE F_law_take (consA (varE 0) (consA (cE (.int 90)) nilA)))) nilA))))) (nmG 5)) (retS (tupE (consA (opE addD (cE (.int 1)) (callE F_law_take (consA (varE 0) (consA (cE (.int 99)) nilA)))) (consA (callE tupleD (consA (varE 5) nilA)) nilA)))))))
noncomputable def F_law_face : List D → Sto → R D := fnF 7 b_law_face
noncomputable def b_law_letters : Sx := (retS (frzE (lcX (seqI (opE itemD (varE 0) (cE (.int 1)))) [1] (nmG 1) yesT (opE itemD (varE 1) (cE (.int 0))))))
noncomputable def F_law_letters : List D → Sto → R D := fnF 2 b_law_letters
noncomputable def b_law_is_face : Sx := (seqS (ifS (orT (notT (valT (op1 (isiD "tuple") (varE 0)))) (orT (valT (opE neD (callE lenD (consA (varE 0) nilA)) (cE (.int 2)))) (notT (valT (callE F_law_is_from_to (consA (opE itemD (varE 0) (cE (.int 0))) (consA (cE (.int 1)) (consA (cE (.int 99)) nilA)))))))) (retS (cE (.bool false))) passS) (seqS (ifS (orT (notT (valT (op1 (isiD "tuple") (opE itemD (varE 0) (cE (.int 1)))))) (notT (valT (chainE (cmpI fun i j => decide (i ≤ j)) (cmpI fun i j => decide (i ≤ j)) (cE (.int 1)) (callE lenD (consA (opE itemD (varE 0) (cE (.int 1))) nilA)) (cE (.int 10)))))) (retS (cE (.bool false))) passS) (seqS (asgS (thwE nilA) (nmG 1)) (seqS (forS (seqI (opE itemD (varE 0) (cE (.int 1)))) (nmG 2) (seqS (ifS (orT (notT (valT (op1 (isiD "tuple") (varE 2)))) (orT (valT (opE neD (callE lenD (consA (varE 2) nilA)) (cE (.int 2)))) (orT (notT (valT (op1 (isiD "str") (opE itemD (varE 2) (cE (.int 0)))))) (valT (opE neD (callE lenD (consA (opE itemD (varE 2) (cE (.int 0))) nilA)) (cE (.int 1))))))) (retS (cE (.bool false))) passS) (seqS (ifS (orT (notT (valT (chainE leS leS (cE (.str "a")) (opE itemD (varE 2) (cE (.int 0))) (cE (.str "z"))))) (orT (valT (opE inD (opE itemD (varE 2) (cE (.int 0))) (varE 1))) (notT (valT (callE F_law_is_from_to (consA (opE itemD (varE 2) (cE (.int 1))) (consA (cE (.int 10)) (consA (cE (.int 99)) nilA)))))))) (retS (cE (.bool false))) passS) (exprS (methL appendD (varE 1) (consA (opE itemD (varE 2) (cE (.int 0))) nilA)))))) (retS (cE (.bool true)))))))
noncomputable def F_law_is_face : List D → Sto → R D := fnF 3 b_law_is_face
noncomputable def b_law_odd_v1 : Sx := (seqS (asgS (callE F_law_letters (consA (varE 1) nilA)) (nmG 2)) (seqS (asgS (opE itemD (varE 2) (callE F_law_take (consA (varE 0) (consA (callE lenD (consA (varE 2) nilA)) nilA)))) (nmG 3)) (seqS (asgS (opE itemD (cE (.str "abcdefghijklmnopqrstuvwxyz")) (callE F_law_take (consA (varE 0) (consA (cE (.int 26)) nilA)))) (nmG 4)) (seqS (asgS (thwE (consA (cE .none) (consA (cE (.bool true)) (consA (cE (.bool false)) (consA (cE (.int 0)) (consA (cE (.int 1)) (consA (cE (.int 9)) (consA (cE (.int 10)) (consA (cE (.int 11)) (consA (cE (.int 98)) (consA (cE (.int 99)) (consA (cE (.int 100)) (consA (op1 negD (cE (.int 1))) (consA (op1 negD (cE (.int 9))) (consA (op1 negD (cE (.int 10))) (consA (opE powD (cE (.int 10)) (cE (.int 19))) (consA (opE subD (cE (.int 0)) (opE powD (cE (.int 10)) (cE (.int 19)))) (consA (varE 3) (consA (varE 4) nilA))))))))))))))))))) (nmG 5)) (seqS (asgS (thwE (catL (varE 5) (frzE (consA (cE (.str "")) (consA (cE (.str " ")) (consA (cE (.str "A")) (consA (opE addD (varE 3) (varE 4)) (consA (opE addD (varE 4) (cE (.str "\n"))) (consA (cE (.str "\t")) (consA (cE (.str "1")) (consA (cE (.str "0")) (consA (tupE nilA) (consA (frzE nilA) (consA (cE (.dict [])) (consA (tupE (consA (varE 3) nilA)) (consA (frzE (consA (varE 3) nilA)) nilA)))))))))))))))) (nmG 5)) (seqS (asgS (thwE (catL (varE 5) (frzE (consA (tupE (consA (varE 3) (consA (cE (.int 10)) nilA))) (consA (frzE (consA (varE 3) (consA (cE (.int 10)) nilA))) (consA (tupE (consA (varE 4) (consA (cE (.int 99)) nilA))) (consA (tupE (consA (varE 3) (consA (varE 4) (consA (cE (.int 1)) nilA)))) (consA (tupE (consA (varE 3) (consA (varE 3) (consA (cE (.int 0)) nilA)))) (consA (dict1E 3 10) nilA))))))))) (nmG 5)) (seqS (asgS (thwE (catL (varE 5) (frzE (consA (tupE (consA (cE .none) nilA)) (consA (tupE (consA (tupE nilA) nilA)) (consA (tupE (consA (cE (.bool true)) (consA (cE (.bool false)) nilA))) (consA (tupE (consA (tupE (consA (varE 3) nilA)) (consA (tupE (consA (varE 4) nilA)) nilA))) (consA (frzE (consA (frzE nilA) nilA)) (consA (tupE (consA (cE (.str "")) nilA)) (consA (tupE (consA (cE (.int 0)) (consA (cE (.int 0)) nilA))) (consA (opE mulSD (varE 3) (cE (.int 2))) nilA))))))))))) (nmG 5)) (seqS (exprS (methL appendD (varE 5) (consA (tupE (consA (varE 3) (consA (cE (.int 0)) (consA (cE (.int 1)) nilA)))) nilA))) (retS (opE itemD (varE 5) (callE F_law_take (consA (varE 0) (consA (callE lenD (consA (varE 5) nilA)) nilA)))))))))))))
noncomputable def F_law_odd_v1 : List D → Sto → R D := fnF 6 b_law_odd_v1
noncomputable def b_gap_in : Sx := (seqS (forS (seqI (varE 0)) (tupG 3 (consG (nmG 3) (consG (nmG 4) (consG (nmG 5) nilG)))) (ifS (andT (valT (opE eqD (varE 3) (varE 1))) (valT (opE eqD (varE 4) (varE 2)))) (retS (varE 5)) passS)) (retS (cE (.int 0))))
noncomputable def F_gap_in : List D → Sto → R D := fnF 6 b_gap_in
noncomputable def b_number_in : Sx := (seqS (asgS (ifE (valT (opE eqD (sliceE (varE 0) noP (someP (cE (.int 1)))) (cE (.str "-")))) (sliceE (varE 0) (someP (cE (.int 1))) noP) (varE 0)) (nmG 1)) (seqS (ifS (orT (valT (opE eqD (varE 1) (cE (.str "")))) (orT (valT (opE (cmpI fun i j => decide (j < i)) (callE lenD (consA (varE 1) nilA)) (cE (.int 20)))) (notT (valT (callE allD (consA (frzE (lcX (txtI (varE 1)) [2] (nmG 2) yesT (opE inD (varE 2) (cE (.str "0123456789"))))) nilA)))))) (retS (cE .none)) passS) (seqS (ifS (valT (opE neD (callE strD (consA (callE intX (consA (varE 0) nilA)) nilA)) (varE 0))) (retS (cE .none)) passS) (retS (callE intX (consA (varE 0) nilA))))))
noncomputable def F_number_in : List D → Sto → R D := fnF 3 b_number_in
noncomputable def b_is_sign : Sx := (retS (orE (opE eqD (varE 1) (cE (.str " "))) (opE notND (callE F_place_of (consA (varE 0) (consA (varE 1) nilA))) (cE .none))))
noncomputable def F_is_sign : List D → Sto → R D := fnF 2 b_is_sign
noncomputable def b_is_text : Sx := (retS (andE (op1 (isiD "str") (varE 1)) (callE allD (consA (frzE (lcX (txtI (varE 1)) [2] (nmG 2) yesT (callE F_is_sign (consA (varE 0) (consA (varE 2) nilA))))) nilA))))
noncomputable def F_is_text : List D → Sto → R D := fnF 3 b_is_text
noncomputable def b_need_text : Sx := (ifS (notT (valT (callE F_is_text (consA (varE 0) (consA (varE 1) nilA))))) (raiseS "NoLine") passS)
noncomputable def F_need_text : List D → Sto → R D := fnF 2 b_need_text
noncomputable def b_sign_width : Sx := (seqS (ifS (valT (opE eqD (varE 1) (cE (.str " ")))) (retS (opE itemD (varE 0) (cE (.int 0)))) passS) (retS (opE itemD (opE itemD (opE itemD (varE 0) (cE (.int 1))) (callE F_place_of (consA (varE 0) (consA (varE 1) nilA)))) (cE (.int 1)))))
noncomputable def F_sign_width : List D → Sto → R D := fnF 2 b_sign_width
noncomputable def b_between : Sx := (seqS (ifS (orT (valT (opE eqD (varE 1) (cE (.str " ")))) (valT (opE eqD (varE 2) (cE (.str " "))))) (retS (cE (.int 0))) passS) (retS (callE F_gap_in (consA (varE 0) (consA (varE 1) (consA (varE 2) nilA))))))
noncomputable def F_between : List D → Sto → R D := fnF 3 b_between
noncomputable def b_begins_in : Sx := (seqS (asgS (thwE nilA) (nmG 3)) (seqS (asgS (cE (.int 0)) (nmG 4)) (seqS (forS (enumI (varE 2)) (tupG 2 (consG (nmG 5) (consG (nmG 6) nilG))) (seqS (ifS (valT (opE (cmpI fun i j => decide (j < i)) (varE 5) (cE (.int 0)))) (asgS (opE addD (opE addD (varE 4) (callE F_sign_width (consA (varE 0) (consA (opE itemD (varE 2) (opE subD (varE 5) (cE (.int 1)))) nilA)))) (callE F_between (consA (varE 1) (consA (opE itemD (varE 2) (opE subD (varE 5) (cE (.int 1)))) (consA (varE 6) nilA))))) (nmG 4)) passS) (exprS (methL appendD (varE 3) (consA (varE 4) nilA))))) (retS (callE tupleD (consA (varE 3) nilA))))))
noncomputable def F_begins_in : List D → Sto → R D := fnF 7 b_begins_in
noncomputable def b_wide_in : Sx := (seqS (ifS (valT (opE eqD (varE 2) (cE (.str "")))) (retS (cE (.int 0))) passS) (retS (opE addD (opE itemD (callE F_begins_in (consA (varE 0) (consA (varE 1) (consA (varE 2) nilA)))) (op1 negD (cE (.int 1)))) (callE F_sign_width (consA (varE 0) (consA (opE itemD (varE 2) (op1 negD (cE (.int 1)))) nilA))))))
noncomputable def F_wide_in : List D → Sto → R D := fnF 3 b_wide_in
noncomputable def b_words_of : Sx := (seqS (exprS (callE F_need_text (consA (varE 0) (consA (varE 1) nilA)))) (seqS (ifS (valT (opE eqD (varE 1) (cE (.str "")))) (retS (frzE nilA)) passS) (seqS (asgS (frzE (methSL splitD (varE 1) (consA (cE (.str " ")) nilA))) (nmG 2)) (seqS (ifS (valT (opE inD (cE (.str "")) (varE 2))) (raiseS "NoLine") passS) (retS (varE 2))))))
noncomputable def F_words_of : List D → Sto → R D := fnF 3 b_words_of
noncomputable def b_line_of : Sx := (retS (methS joinD (cE (.str " ")) (consA (frzE (sliceL (varE 0) (someP (varE 1)) (someP (varE 2)))) nilA)))
noncomputable def F_line_of : List D → Sto → R D := fnF 3 b_line_of
noncomputable def b_room_of : Sx := (retS (opE subD (varE 3) (callE F_wide_in (consA (varE 0) (consA (varE 1) (consA (varE 2) nilA))))))
noncomputable def F_room_of : List D → Sto → R D := fnF 4 b_room_of
noncomputable def b_need_wide : Sx := (ifS (notT (valT (callE F_is_from_to (consA (varE 0) (consA (cE (.int 1)) (consA (cE (.int 999)) nilA)))))) (raiseS "NoNumber") passS)
noncomputable def F_need_wide : List D → Sto → R D := fnF 1 b_need_wide
noncomputable def b_need_words : Sx := (seqS (asgS (callE F_words_of (consA (varE 0) (consA (varE 2) nilA))) (nmG 4)) (seqS (exprS (callE F_need_wide (consA (varE 3) nilA))) (seqS (forS (seqI (varE 4)) (nmG 5) (ifS (valT (opE ltD (callE F_room_of (consA (varE 0) (consA (varE 1) (consA (varE 5) (consA (varE 3) nilA))))) (cE (.int 0)))) (raiseS "TooWide") passS)) (retS (varE 4)))))
noncomputable def F_need_words : List D → Sto → R D := fnF 6 b_need_words
noncomputable def b_filled : Sx := (seqS (asgS (callE F_need_words (consA (varE 0) (consA (varE 1) (consA (varE 2) (consA (varE 3) nilA))))) (nmG 4)) (seqS (asgS (thwE nilA) (nmG 5)) (seqS (forS (seqI (varE 4)) (nmG 6) (ifS (andT (valT (opE neOD (varE 5) (frzE nilA))) (valT (opE (cmpI fun i j => decide (j ≤ i)) (callE F_room_of (consA (varE 0) (consA (varE 1) (consA (opE addD (opE addD (opE itemD (varE 5) (op1 negD (cE (.int 1)))) (cE (.str " "))) (varE 6)) (consA (varE 3) nilA))))) (cE (.int 0))))) (asgS (opE addD (opE addD (opE itemD (varE 5) (op1 negD (cE (.int 1)))) (cE (.str " "))) (varE 6)) (ixG (varE 5) (op1 negD (cE (.int 1))))) (exprS (methL appendD (varE 5) (consA (varE 6) nilA))))) (retS (callE tupleD (consA (varE 5) nilA))))))
noncomputable def F_filled : List D → Sto → R D := fnF 7 b_filled
noncomputable def b_cost_in : Sx := (seqS (asgS (callE F_room_of (consA (varE 0) (consA (varE 1) (consA (callE F_line_of (consA (varE 2) (consA (opE itemD (varE 3) (cE (.int 0))) (consA (opE itemD (varE 3) (cE (.int 1))) nilA)))) (consA (varE 4) nilA))))) (nmG 5)) (seqS (ifS (valT (opE ltD (varE 5) (cE (.int 0)))) (retS (cE .none)) passS) (seqS (ifS (valT (opE eqD (opE itemD (varE 3) (cE (.int 1))) (callE lenD (consA (varE 2) nilA)))) (retS (cE (.int 0))) passS) (retS (opE mulD (varE 5) (varE 5))))))
noncomputable def F_cost_in : List D → Sto → R D := fnF 6 b_cost_in
noncomputable def b_prices_of : Sx := (seqS (asgS (thwE (consA (cE (.int 0)) nilA)) (nmG 4)) (seqS (forS (rrng1I (callE lenD (consA (varE 2) nilA))) (nmG 5) (seqS (asgS (cE .none) (nmG 6)) (seqS (forS (rng2I (opE addD (varE 5) (cE (.int 1))) (opE addD (callE lenD (consA (varE 2) nilA)) (cE (.int 1)))) (nmG 7) (seqS (asgS (callE F_cost_in (consA (varE 0) (consA (varE 1) (consA (varE 2) (consA (tupE (consA (varE 5) (consA (varE 7) nilA))) (consA (varE 3) nilA)))))) (nmG 8)) (ifS (andT (valT (opE notND (varE 8) (cE .none))) (orT (valT (opE isND (varE 6) (cE .none))) (valT (opE ltD (opE addD (varE 8) (opE itemD (varE 4) (opE subD (opE subD (varE 7) (varE 5)) (cE (.int 1))))) (varE 6))))) (asgS (opE addD (varE 8) (opE itemD (varE 4) (opE subD (opE subD (varE 7) (varE 5)) (cE (.int 1))))) (nmG 6)) passS))) (exprS (methL insertD (varE 4) (consA (cE (.int 0)) (consA (varE 6) nilA))))))) (seqS (fixS 4) (retS (varE 4)))))
noncomputable def F_prices_of : List D → Sto → R D := fnF 9 b_prices_of
noncomputable def b_evened : Sx := (seqS (asgS (callE F_need_words (consA (varE 0) (consA (varE 1) (consA (varE 2) (consA (varE 3) nilA))))) (nmG 4)) (seqS (asgS (callE F_prices_of (consA (varE 0) (consA (varE 1) (consA (varE 4) (consA (varE 3) nilA))))) (nmG 5)) (seqS (asgS (thwE nilA) (nmG 6)) (seqS (asgS (cE (.int 0)) (nmG 7)) (seqS (whileS 1000000 (valT (opE ltD (varE 7) (callE lenD (consA (varE 4) nilA)))) (seqS (forS (rrngI (opE addD (varE 7) (cE (.int 1))) (opE addD (callE lenD (consA (varE 4) nilA)) (cE (.int 1)))) (nmG 8) (seqS (asgS (callE F_cost_in (consA (varE 0) (consA (varE 1) (consA (varE 4) (consA (tupE (consA (varE 7) (consA (varE 8) nilA))) (consA (varE 3) nilA)))))) (nmG 9)) (ifS (andT (valT (opE notND (varE 9) (cE .none))) (valT (opE eqD (opE addD (varE 9) (opE itemD (varE 5) (varE 8))) (opE itemD (varE 5) (varE 7))))) brkS passS))) (seqS (exprS (methL appendD (varE 6) (consA (callE F_line_of (consA (varE 4) (consA (varE 7) (consA (varE 8) nilA)))) nilA))) (asgS (varE 8) (nmG 7))))) (retS (callE tupleD (consA (varE 6) nilA))))))))
noncomputable def F_evened : List D → Sto → R D := fnF 10 b_evened
noncomputable def b_face_text : Sx := (retS (methS joinD (cE (.str " ; ")) (consA (opE addD (frzE (consA (callE strD (consA (opE itemD (varE 0) (cE (.int 0))) nilA)) nilA)) (frzE (lcX (seqI (opE itemD (varE 0) (cE (.int 1)))) [1, 2] (tupG 2 (consG (nmG 1) (consG (nmG 2) nilG))) yesT (opE addD (opE addD (varE 1) (cE (.str " "))) (callE strD (consA (varE 2) nilA)))))) nilA)))
noncomputable def F_face_text : List D → Sto → R D := fnF 3 b_face_text
noncomputable def b_face_by : Sx := (seqS (asgS (frzE (methSL splitD (varE 0) (consA (cE (.str " ; ")) nilA))) (nmG 1)) (seqS (asgS (thwE nilA) (nmG 2)) (seqS (forS (seqI (sliceA (varE 1) (someP (cE (.int 1))) noP)) (nmG 3) (seqS (asgS (methS partitionD (varE 3) (consA (cE (.str " ")) nilA)) (tupG 3 (consG (nmG 4) (consG (nmG 5) (consG (nmG 6) nilG))))) (exprS (methL appendD (varE 2) (consA (tupE (consA (varE 4) (consA (callE F_number_in (consA (varE 6) nilA)) nilA))) nilA))))) (seqS (asgS (tupE (consA (callE F_number_in (consA (opE itemD (varE 1) (cE (.int 0))) nilA)) (consA (callE tupleD (consA (varE 2) nilA)) nilA))) (nmG 7)) (seqS (ifS (orT (notT (valT (callE F_is_face (consA (varE 7) nilA)))) (valT (opE neD (callE F_face_text (consA (varE 7) nilA)) (varE 0)))) (retS (cE .none)) passS) (retS (varE 7)))))))
noncomputable def F_face_by : List D → Sto → R D := fnF 8 b_face_by
noncomputable def b_face_read : Sx := (seqS (asgS (cE .none) (nmG 1)) (seqS (ifS (valT (op1 (isiD "str") (varE 0))) (asgS (callE F_face_by (consA (varE 0) nilA)) (nmG 1)) passS) (seqS (ifS (valT (opE isND (varE 1) (cE .none))) (raiseS "NoText") passS) (retS (varE 1)))))
noncomputable def F_face_read : List D → Sto → R D := fnF 2 b_face_read
noncomputable def b_law_number : Sx := (seqS (asgS (ifE (valT (opE eqD (sliceE (varE 0) noP (someP (cE (.int 1)))) (cE (.str "-")))) (sliceE (varE 0) (someP (cE (.int 1))) noP) (varE 0)) (nmG 1)) (seqS (ifS (orT (valT (opE eqD (varE 1) (cE (.str "")))) (orT (valT (opE (cmpI fun i j => decide (j < i)) (callE lenD (consA (varE 1) nilA)) (cE (.int 18)))) (notT (valT (callE allD (consA (frzE (lcX (txtI (varE 1)) [2] (nmG 2) yesT (opE inD (varE 2) (cE (.str "0123456789"))))) nilA)))))) (retS (cE .none)) passS) (seqS (ifS (andT (valT (opE eqD (opE itemD (varE 1) (cE (.int 0))) (cE (.str "0")))) (valT (opE neD (varE 0) (cE (.str "0"))))) (retS (cE .none)) passS) (retS (callE intX (consA (varE 0) nilA))))))
noncomputable def F_law_number : List D → Sto → R D := fnF 3 b_law_number
noncomputable def b_law_face_text : Sx := (retS (methS joinD (cE (.str " ; ")) (consA (opE addD (frzE (consA (callE strD (consA (opE itemD (varE 0) (cE (.int 0))) nilA)) nilA)) (frzE (lcX (seqI (opE itemD (varE 0) (cE (.int 1)))) [1, 2] (tupG 2 (consG (nmG 1) (consG (nmG 2) nilG))) yesT (opE addD (opE addD (varE 1) (cE (.str " "))) (callE strD (consA (varE 2) nilA)))))) nilA)))
noncomputable def F_law_face_text : List D → Sto → R D := fnF 3 b_law_face_text
noncomputable def b_law_bent : Sx := (seqS (asgS (cE (.str " ;/,@-0123456789abcdefghijklmnopqrstuvwxyzA+._\t\n")) (nmG 2)) (seqS (asgS (opE itemD (varE 2) (callE F_law_take (consA (varE 0) (consA (callE lenD (consA (varE 2) nilA)) nilA)))) (nmG 3)) (seqS (asgS (callE F_law_take (consA (varE 0) (consA (opE addD (callE lenD (consA (varE 1) nilA)) (cE (.int 1))) nilA))) (nmG 4)) (seqS (parS [5, 6] (consA (sliceE (varE 1) noP (someP (varE 4))) (consA (sliceE (varE 1) (someP (varE 4)) (someP (opE addD (varE 4) (cE (.int 1))))) nilA))) (seqS (parS [7, 8] (consA (sliceE (varE 1) (someP (opE addD (varE 4) (cE (.int 1)))) (someP (opE addD (varE 4) (cE (.int 2))))) (consA (sliceE (varE 1) (someP (opE addD (varE 4) (cE (.int 1)))) noP) nilA))) (seqS (asgS (frzE (consA (opE addD (opE addD (opE addD (varE 5) (varE 3)) (varE 6)) (varE 8)) (consA (opE addD (varE 5) (varE 8)) (consA (opE addD (opE addD (varE 5) (varE 3)) (varE 8)) (consA (opE addD (opE addD (opE addD (varE 5) (varE 6)) (varE 6)) (varE 8)) nilA))))) (nmG 9)) (seqS (asgS (opE addD (varE 9) (frzE (consA (opE addD (opE addD (opE addD (varE 5) (varE 7)) (varE 6)) (sliceE (varE 1) (someP (opE addD (varE 4) (cE (.int 2)))) noP)) (consA (varE 5) (consA (opE addD (varE 6) (varE 8)) nilA))))) (nmG 9)) (retS (opE itemD (varE 9) (callE F_law_take (consA (varE 0) (consA (cE (.int 7)) nilA))))))))))))
noncomputable def F_law_bent : List D → Sto → R D := fnF 10 b_law_bent
noncomputable def b_law_due_v2 : Sx := (seqS (ifS (notT (valT (op1 (isiD "str") (varE 0)))) (retS (cE (.str "! text"))) passS) (seqS (asgS (frzE (methSL splitD (varE 0) (consA (cE (.str " ; ")) nilA))) (nmG 1)) (seqS (asgS (frzE (lcX (seqI (sliceA (varE 1) (someP (cE (.int 1))) noP)) [4] (nmG 4) yesT (tupE (consA (sliceE (varE 4) noP (someP (cE (.int 1)))) (consA (callE F_law_number (consA (sliceE (varE 4) (someP (cE (.int 2))) noP) nilA)) nilA))))) (nmG 2)) (seqS (asgS (tupE (consA (callE F_law_number (consA (opE itemD (varE 1) (cE (.int 0))) nilA)) (consA (callE tupleD (consA (varE 2) nilA)) nilA))) (nmG 3)) (seqS (ifS (orT (notT (valT (callE F_law_is_face (consA (varE 3) nilA)))) (valT (opE neD (callE F_law_face_text (consA (varE 3) nilA)) (varE 0)))) (retS (cE (.str "! text"))) passS) (retS (callE reprD (consA (varE 3) nilA))))))))
noncomputable def F_law_due_v2 : List D → Sto → R D := fnF 5 b_law_due_v2
end DV

set_option maxHeartbeats 4000000
/-! text.replace(a, b) of written texts, in a list of which an earlier item has a written text -/
namespace DV
open PySem PySem.Spec PyProof.Rows L2
def replD (y z : Str) : D → Sto → R D
  | .py (.str x), S => if x.length + (x.length + 1) * z.length ≤ 16777216 then .ok (.py (.str (Txt.replace x y z))) S else .no
  | _, _ => .no
section
variable {X : Cx} {E : XK} {e a o : Expr} {es : List Expr} {f g : Ex} {fs : Ax} {pos p apos c0 c1 : Pos} {x y z : Str} {j k : Nat} {op : Operator}
/-- where a token has been given out -/
def DET (X : Cx) (E : XK) (e : Expr) (f : Ex) : Prop := ∃ t, PET X e t ∧ ∀ σ H σd S ι Q, EnR X.K ι H σ σd → StR X.K ι H S → Wp X.K X.mg E ι H (relD X.K) (f σd S) Q → t σ H Q
def DAT (X : Cx) (E : XK) (es : List Expr) (f : Ax) : Prop := (∀ σ S ds S', f σ S = .ok ds S' → ds.length = es.length) ∧
  ∃ t, PAT X es t ∧ ∀ σ H σd S ι Q, EnR X.K ι H σ σd → StR X.K ι H S → Wp X.K X.mg E ι H (relA X.K) (f σd S) Q → t σ H Q
/-- it gives a token out -/
def PE1 (X : Cx) (e : Expr) (t : TE) : Prop :=
  ∀ (pins : List (Addr × Obj)) (s : Shared) (σ : L2.St) (H : Hp) (Q : VK), Inv X pins σ H s → t σ H Q → wpAny (model X.prog X.w) X.A (eval e X.env) (fun v s1 => 1 ≤ s1.toks ∧ EP X pins σ Q v s1) X.xe s
theorem pe1_op {r : R2} {te : TE} (ho : OpR X (binaryOp op) r) (ha : PE X a te) : PE1 X (.BinOp a op (.Constant (.str x) j c0) pos) (tOp r te (tC (.str x))) := by
  intro pins s σ H Q I h
  refine wpAny_BinOp (thn (ha.run pins s σ H _ I h) fun v s1 ⟨w, H1, I1, r1, q1⟩ => ?_)
  refine Calls.Constant_str ?_
  refine wpAny_mono (PySem.wpAny_toks (ho pins { s1 with toks := s1.toks + 1 } σ H1 w (.str x) v (.str x s1.toks) Q (I1.tok _) r1 ⟨_, rfl⟩ q1)) (fun u s2 q => ?_) fun _ _ z => z.2
  have hk : s1.toks + 1 ≤ s2.toks := q.1
  exact ⟨by omega, q.2⟩
theorem pa_tok {te : TE} {ta : TA} (ha : PE1 X e te) (hr : PAT X es ta) (hs : starEach (e :: es) X.env = (false, eval e X.env) :: starEach es X.env) : PA X (e :: es) (tCons te ta) := by
  refine ⟨fun pos pins s σ H Q I h => ?_⟩
  have hA := ha pins s σ H _ I h
  rw [hs]
  refine Calls.spliced_cons (wpAny_mono hA (fun u s1 q => ?_) fun _ _ z => z)
  obtain ⟨hk, x, H1, I1, r1, q1⟩ := q
  exact thn (hr pos pins s1 σ H1 _ hk I1 q1) fun us s2 ⟨xs, H2, I2, r2, q2⟩ => ⟨x :: xs, H2, I2, .cons r1 r2, q2⟩
theorem det_of (h : DE X E e f) : DET X E e f := by
  obtain ⟨t, p, q⟩ := h
  exact ⟨t, CwR.PET.of p, q⟩
theorem det_repl (ha : DE X E o f) (hyz : (y == z) = false := by decide)
    (hst : starEach [.Constant (.str y) j c0, .Constant (.str z) k c1] X.env = [(false, eval (.Constant (.str y) j c0) X.env), (false, eval (.Constant (.str z) k c1) X.env)] := by rfl)
    (hbase : attributeBase o "replace" X.env (eval o X.env) = eval o X.env := by rfl) (hline : (apos.endLine == pos.line) = true := by rfl) :
    DET X E (.Call (.Attribute o "replace" apos) [.Constant (.str y) j c0, .Constant (.str z) k c1] [] pos) (op1 (replD y z) f) := by
  obtain ⟨t, p, q⟩ := ha
  refine ⟨_, CwR.pet_replC p hyz hst hbase hline, fun σ H σd S ι Q hE hS h => ?_⟩
  refine q σ H σd S ι _ hE hS (Wp.bind h fun d S1 _ v H1 ι1 p1 r1 h1 => ?_)
  unfold replD at h1
  split at h1
  · split at h1
    · rename_i hz
      cases r1 with
      | py r1 =>
        cases r1
        exact ⟨_, rfl, hz, h1 _ _ _ (.refl p1.sto) (.py (.str _))⟩
    · exact h1.elim
  · exact h1.elim
theorem dat_nil : DAT X E [] nilA := ⟨fun _ _ ds _ e => by cases e; rfl, _, pat_nil, fun σ H σd S ι Q hE hS h => h _ _ _ (.refl hS) .nil⟩
theorem consA_len {n : Nat} (l : ∀ σ S ds S', fs σ S = .ok ds S' → ds.length = n) {σ : En} {S S' : Sto} {ds : List D} (h : consA f fs σ S = .ok ds S') : ds.length = n + 1 := by
  unfold consA at h
  cases h1 : f σ S with
  | ok d S1 =>
    rw [h1, bind_ok] at h
    cases h2 : fs σ S1 with
    | ok dr S2 =>
      rw [h2, bind_ok] at h
      cases h
      rw [List.length_cons, l _ _ _ _ h2]
    | ex c S2 => rw [h2] at h; cases h
    | no => rw [h2] at h; cases h
  | ex c S2 => rw [h1] at h; cases h
  | no => rw [h1] at h; cases h
theorem dat_cons (ha : DET X E e f) (hr : DAT X E es fs) (hs : starEach (e :: es) X.env = (false, eval e X.env) :: starEach es X.env := by rfl) : DAT X E (e :: es) (consA f fs) := by
  obtain ⟨t, p, q⟩ := ha
  obtain ⟨l, u, pu, qu⟩ := hr
  refine ⟨fun σ S ds S' h => consA_len l h, _, pat_cons p pu hs, fun σ H σd S ι Q hE hS h => ?_⟩
  refine q σ H σd S ι _ hE hS (Wp.bind h fun d S1 _ v H1 ι1 p1 r1 h1 => ?_)
  refine qu σ H1 σd S1 ι1 _ (hE.mono p1.pre p1.keep) p1.sto (Wp.bind h1 fun ds S2 _ vs H2 ι2 p2 r2 h2 => ?_)
  exact h2 _ _ _ (.refl p2.sto) (.cons (r1.mono p2.pre p2.keep) r2)
/-- an item with a written text, ahead of those that want one given out -/
theorem da_tok {gg : D → D → Sto → R D} (ho : DOp X (binaryOp op) gg) (ha : DE X E a f) (hr : DAT X E es fs) (hs : starEach (.BinOp a op (.Constant (.str x) j c0) pos :: es) X.env = (false, eval (.BinOp a op (.Constant (.str x) j c0) pos) X.env) :: starEach es X.env := by rfl) :
    DA X E (.BinOp a op (.Constant (.str x) j c0) pos :: es) (consA (opE gg f (cE (.str x))) fs) := by
  obtain ⟨r, po, qo⟩ := ho
  obtain ⟨t, p, q⟩ := ha
  obtain ⟨l, u, pu, qu⟩ := hr
  refine ⟨fun σ S ds S' h => consA_len l h, _, pa_tok (pe1_op po p) pu hs, fun σ H σd S ι Q hE hS h => ?_⟩
  have qc : ∀ σ H σd S ι Q, EnR X.K ι H σ σd → StR X.K ι H S → Wp X.K X.mg E ι H (relD X.K) (cE (.str x) σd S) Q → tC (.str x) σ H Q := fun σ H σd S ι Q hE hS h => h _ _ _ (.refl hS) (.py (.str x))
  refine op_read (o := binaryOp op) q qc qo hE hS (Wp.bind h fun d S1 _ v H1 ι1 p1 r1 h1 => ?_)
  refine qu σ H1 σd S1 ι1 _ (hE.mono p1.pre p1.keep) p1.sto (Wp.bind h1 fun ds S2 _ vs H2 ι2 p2 r2 h2 => ?_)
  exact h2 _ _ _ (.refl p2.sto) (.cons (r1.mono p2.pre p2.keep) r2)
end
end DV

set_option maxHeartbeats 4000000
/-! text.upper(), text.index(t); items that give a token out. -/
namespace DV
open PySem PySem.Spec PyProof.Rows L2
section
variable {X : Cx} {E : XK} {e a b o : Expr} {es : List Expr} {f g : Ex} {fs : Ax} {pos p p2 apos c0 : Pos} {x y : Str} {j : Nat} {op : Operator}
theorem mt_upper : MtR X "str.upper" (fun x xs H Q => ∃ a, x = .str a ∧ xs = [] ∧ a.length ≤ 5592405 ∧ Q (.str (Txt.upper a)) H) := by
  intro pins s σ H x xs v us Q I rx rs h
  obtain ⟨a, rfl, rfl, hz, q⟩ := h
  obtain ⟨t, rfl⟩ := rx
  cases rs
  exact PySem.SC.upper (PyProof.Rows.short24 (by have := PyProof.Rows.len_upper a; omega)) ⟨.str (Txt.upper a), H, I.tok _, ⟨_, rfl⟩, q⟩
def upperD : D → List D → Sto → R D
  | .py (.str a), [], S => if a.length ≤ 5592405 then .ok (.py (.str (Txt.upper a))) S else .no
  | _, _, _ => .no
theorem dm_upper : DM X "str" "str.upper" upperD := by
  refine ⟨_, mt_upper (X := X), fun x xs d ds H S ι E Q hS rx r hw => ?_⟩
  unfold upperD at hw
  split at hw
  · split at hw
    · rename_i hz
      cases r
      exact ⟨_, str_of rx, rfl, hz, hw _ _ _ (.refl hS) (.py (.str _))⟩
    · exact hw.elim
  · exact hw.elim
def sindexD : D → List D → Sto → R D
  | .py (.str a), [.py (.str b)], S => (match Builtin.Str.occurrences a b 0 a.length 1 with
    | i :: _ => .ok (.py (.int (i : Nat))) S
    | [] => .no)
  | _, _, _ => .no
/-! ### tokens given out -/
def DE1 (X : Cx) (E : XK) (e : Expr) (f : Ex) : Prop := ∃ t, PE1 X e t ∧ ∀ σ H σd S ι Q, EnR X.K ι H σ σd → StR X.K ι H S → Wp X.K X.mg E ι H (relD X.K) (f σd S) Q → t σ H Q
def tIx (to : TE) (y : Str) : TE := fun σ H Q => to σ H fun v H1 => ∃ x i rest, v = .str x ∧ Builtin.Str.occurrences x y 0 x.length 1 = i :: rest ∧ Q (.int (i : Nat)) H1
theorem pe1_index {to : TE} (ho : PE X o to) (hst : starEach [.Constant (.str y) j c0] X.env = [(false, eval (.Constant (.str y) j c0) X.env)]) (hbase : attributeBase o "index" X.env (eval o X.env) = eval o X.env) (hline : (apos.endLine == pos.line) = true) :
    PE1 X (.Call (.Attribute o "index" apos) [.Constant (.str y) j c0] [] pos) (tIx to y) := by
  intro pins s σ H Q I h
  refine PySem.Call_method1 hbase hst hline (thn (ho.run pins s σ H _ I h) fun v s1 q => ?_)
  obtain ⟨v', H1, I1, r1, x, i, rest, e1, ho, q⟩ := q
  subst e1
  obtain ⟨tx, e2⟩ := r1
  subst e2
  refine ⟨"str", _, PySem.F.plainAttrs_str, PySem.F.slot_str_index, PySem.F.type_str_index, typeIs_str _ _ _, (fun _ e => nomatch e), Calls.callWith_builtin rfl (Calls.evalArgs_plain (Calls.spliced_cons ?_))⟩
  refine Calls.Constant_str (Calls.spliced_nil ?_)
  exact PySem.SC.index ho ⟨by show 1 ≤ s1.toks + 1 + 1; omega, .int (i : Nat), H1, I1.tok _, ⟨_, rfl⟩, q⟩
theorem de1_index (ho : DE X E o f) (hst : starEach [.Constant (.str y) j c0] X.env = [(false, eval (.Constant (.str y) j c0) X.env)] := by rfl) (hbase : attributeBase o "index" X.env (eval o X.env) = eval o X.env := by rfl) (hline : (apos.endLine == pos.line) = true := by rfl) :
    DE1 X E (.Call (.Attribute o "index" apos) [.Constant (.str y) j c0] [] pos) (methS sindexD f (consA (cE (.str y)) nilA)) := by
  obtain ⟨t, p, q⟩ := ho
  refine ⟨_, pe1_index p hst hbase hline, fun σ H σd S ι Q hE hS h => ?_⟩
  refine q σ H σd S ι _ hE hS (Wp.bind h fun d S1 _ v H1 ι1 p1 r1 h1 => ?_)
  split at h1
  · rename_i z _
    have e := str_of r1
    subst e
    have h1 : Wp X.K X.mg E ι1 H1 (relD X.K) (sindexD (.py (.str z)) [.py (.str y)] S1) Q := h1
    unfold sindexD at h1
    simp only at h1
    cases hoc : Builtin.Str.occurrences z y 0 z.length 1 with
    | nil => rw [hoc] at h1; exact h1.elim
    | cons i rest =>
      rw [hoc] at h1
      exact ⟨z, i, rest, rfl, hoc, h1 _ _ _ (.refl p1.sto) (.py (.int _))⟩
  · exact h1.elim
def PO1 (X : Cx) (e : Option Expr) (t : TO) : Prop :=
  ∀ (pins : List (Addr × Obj)) (s : Shared) (σ : L2.St) (H : Hp) (Q : Option Int → Hp → Prop), Inv X pins σ H s → t σ H Q →
    wpAny (model X.prog X.w) X.A (evalPart e X.env) (fun u s' => 1 ≤ s'.toks ∧ ∃ o H', Inv X pins σ H' s' ∧ IsPart u o ∧ Q o H') X.xe s
theorem po1_some {te : TE} (h : PE1 X e te) : PO1 X (some e) (tPart te) := by
  intro pins s σ H Q I hw
  rw [evalPart_some]
  refine thn (h pins s σ H _ I hw) fun u s1 ⟨hk, x, H1, I1, r1, q1⟩ => ?_
  obtain ⟨i, rfl, q⟩ := q1
  obtain ⟨t, rfl⟩ := r1
  exact ⟨hk, some i, H1, I1, .int i t, q⟩
theorem pe1_slice {lo hi : Option Expr} {te : TE} {tl th : TO} {r : V → Option Int → Option Int → Hp → VK → Prop} (hr : SlR X r) (he : PE X e te) (hl : PO1 X lo tl) (hu : PO X hi th) : PE1 X (.Subscript e (.Slice lo hi none p2) pos) (tSl r te tl th) := by
  intro pins s σ H Q I h
  refine Subscript_ (thn (he.run pins s σ H _ I h) fun v s1 ⟨x, H1, I1, r1, q1⟩ => ?_)
  refine wpAny_Slice (thn (hl pins s1 σ H1 _ I1 q1) fun vl s2 ⟨hk, l, H2, I2, pl, q2⟩ => wpAny_mono (PySem.wpAny_toks (hu.run pins s2 σ H2 _ I2 q2)) (fun vu s3 q => ?_) fun _ _ z => z.2)
  obtain ⟨hk3, u, H3, I3, pu, q3⟩ := q
  rw [evalPart_none]
  refine wpAny_pure ?_
  have I4 : Inv X pins σ H3 { s3 with heap := s3.heap.push { cls := .type "slice", data := .fields #[vl, vu, .none] } } := I3.kept (t' := s3.toks) fun b ob q => Heap.get?_push_of_some _ q
  obtain ⟨T, id, hT, ht, hg⟩ := hr pins { s3 with heap := s3.heap.push { cls := .type "slice", data := .fields #[vl, vu, .none] } } σ H3 x v vl vu l u s3.heap.objs.size Q I4 r1 (Heap.IsSliceOf.new ..) pl pu q3
  show wpAny (model X.prog X.w) X.A (subscriptTail e (.Slice lo hi none p2) v (.ref s3.heap.objs.size)) (fun v s' => 1 ≤ s'.toks ∧ EP X pins σ Q v s') X.xe { s3 with heap := s3.heap.push { cls := .type "slice", data := .fields #[vl, vu, .none] } }
  refine wpAny_mono (PySem.wpAny_toks (tail_any (ops := [.ref s3.heap.objs.size, v]) ht hT hg (by with_unfolding_all rfl))) (fun w s4 q => ?_) fun _ _ z => z.2
  have hk4 : s3.toks ≤ s4.toks := q.1
  have hk2 : s2.toks ≤ s3.toks := hk3
  exact ⟨by omega, q.2⟩
theorem de1_slice {hi : Option Expr} {fl : Ex} {fh : Px} (he : DE X E e f) (hl : DE1 X E a fl) (hh : DP X E hi fh) : DE1 X E (.Subscript e (.Slice (some a) hi none p2) pos) (sliceE f (someP fl) fh) := by
  obtain ⟨t, p, q⟩ := he
  obtain ⟨tl, pl, ql0⟩ := hl
  obtain ⟨th, ph, qh⟩ := hh
  refine ⟨_, pe1_slice ((sl_tupS (X := X)).or sl_str) p (po1_some pl) ph, fun σ H σd S ι Q hE hS h => ?_⟩
  refine q σ H σd S ι _ hE hS (Wp.bind h fun x S1 _ v H1 ι1 p1 r1 h1 => ?_)
  have ql : ∀ σ H σd S ι Q, EnR X.K ι H σ σd → StR X.K ι H S → Wp X.K X.mg E ι H relP (someP fl σd S) Q → tPart tl σ H Q := fun σ H σd S ι Q hE hS h => by
    refine ql0 σ H σd S ι _ hE hS (Wp.bind0 h fun d S1 _ v H1 ι1 p1 r1 h1 => ?_)
    split at h1
    · exact ⟨_, int_of r1, h1 _ _ _ p1 rfl⟩
    · exact h1.elim
  refine ql σ H1 σd S1 ι1 _ (hE.mono p1.pre p1.keep) p1.sto (Wp.bind h1 fun l S2 _ l' H2 ι2 p2 rl h2 => ?_)
  refine qh σ H2 σd S2 ι2 _ ((hE.mono p1.pre p1.keep).mono p2.pre p2.keep) p2.sto (Wp.bind h2 fun u S3 _ u' H3 ι3 p3 ru h3 => ?_)
  cases rl
  cases ru
  have r3 := (r1.mono p2.pre p2.keep).mono p3.pre p3.keep
  unfold sliceV at h3
  split at h3
  · rename_i ds _
    cases r3 with
    | py r3 =>
      cases r3 with
      | tup hT hz al =>
        have hc := cut_pp al l u
        have hcl := cut_len ds l u
        refine .inl ⟨_, _, rfl, hT.sq, fun ha => h3 _ _ _ (.refl p3.sto) (.py ?_), fun _ p o ho hp => h3 _ _ _ (.new p3.sto hp) (.py (.tup (.new ho) (Nat.le_trans hcl hz) (hc.keep (.new hp))))⟩
        rw [al.length] at ha
        rw [cut_all ds l u ha]
        exact .tup hT hz al
  · split at h3
    · rename_i hz
      exact .inr ⟨_, str_of r3, hz, h3 _ _ _ (.refl p3.sto) (.py (.str _))⟩
    · exact h3.elim
  · exact h3.elim
theorem pe1_right {r : R2} {ta tb : TE} (ho : OpR X (binaryOp op) r) (ha : PE X a ta) (hb : PE1 X b tb) : PE1 X (.BinOp a op b pos) (tOp r ta tb) := by
  intro pins s σ H Q I h
  refine wpAny_BinOp (thn (ha.run pins s σ H _ I h) fun v s1 ⟨w, H1, I1, r1, q1⟩ => thn (hb pins s1 σ H1 _ I1 q1) fun u s2 ⟨hk, y, H2, I2, r2, q2⟩ => ?_)
  refine wpAny_mono (PySem.wpAny_toks (ho pins s2 σ H2 w y v u Q I2 r1 r2 q2)) (fun z s3 q => ?_) fun _ _ z => z.2
  have hk3 : s2.toks ≤ s3.toks := q.1
  exact ⟨by omega, q.2⟩
theorem de1_right {gg : D → D → Sto → R D} (ho : DOp X (binaryOp op) gg) (ha : DE X E a f) (hb : DE1 X E b g) : DE1 X E (.BinOp a op b pos) (opE gg f g) := by
  obtain ⟨r, po, qo⟩ := ho
  obtain ⟨t, p, q⟩ := ha
  obtain ⟨u, pu, qu⟩ := hb
  exact ⟨_, pe1_right po p pu, fun σ H σd S ι Q hE hS h => op_read (o := binaryOp op) q qu qo hE hS h⟩
/-- an item that gives a token out, ahead of those that want one -/
theorem da_tok1 (ha : DE1 X E e f) (hr : DAT X E es fs) (hs : starEach (e :: es) X.env = (false, eval e X.env) :: starEach es X.env := by rfl) : DA X E (e :: es) (consA f fs) := by
  obtain ⟨t, p, q⟩ := ha
  obtain ⟨l, u, pu, qu⟩ := hr
  refine ⟨fun σ S ds S' h => consA_len l h, _, pa_tok p pu hs, fun σ H σd S ι Q hE hS h => ?_⟩
  refine q σ H σd S ι _ hE hS (Wp.bind h fun d S1 _ v H1 ι1 p1 r1 h1 => ?_)
  refine qu σ H1 σd S1 ι1 _ (hE.mono p1.pre p1.keep) p1.sto (Wp.bind h1 fun ds S2 _ vs H2 ι2 p2 r2 h2 => ?_)
  exact h2 _ _ _ (.refl p2.sto) (.cons (r1.mono p2.pre p2.keep) r2)
end
end DV

set_option maxHeartbeats 4000000
namespace DV.k76
open PySem PySem.Spec PyProof.Rows L2 DV
def words_ : List (Str × Str) := [("NoText", "! text")]
noncomputable def q_law_0 (T : Nat) : Sx := (ifS (orT (valT (opE neD (callE reprD (consA (callE F_face_text (consA (varE 3) nilA)) nilA)) (callE reprD (consA (varE 4) nilA)))) (valT (opE neD (callE reprD (consA (callE F_face_read (consA (varE 4) nilA)) nilA)) (callE reprD (consA (varE 3) nilA))))) (retS (cE (.bool false))) passS)
noncomputable def q_law_1 (T : Nat) : Sx := (forS (seqI (frzE (consA (tupE (consA (cE (.int 100)) (consA (opE itemD (varE 3) (cE (.int 1))) nilA))) (consA (tupE (consA (cE (.int 0)) (consA (opE itemD (varE 3) (cE (.int 1))) nilA))) (consA (tupE (consA (opE itemD (varE 3) (cE (.int 0))) (consA (opE addD (opE itemD (varE 3) (cE (.int 1))) (tupE (consA (tupE (consA (cE (.str "a")) (consA (cE (.int 9)) nilA))) (consA (tupE (consA (cE (.str "b")) (consA (cE (.int 100)) nilA))) nilA)))) nilA))) (consA (tupE (consA (cE (.int 20)) (consA (varE 6) nilA))) nilA)))))) (nmG 7) (exprS (methL appendD (varE 5) (consA (callE F_law_face_text (consA (varE 7) nilA)) nilA))))
noncomputable def q_law_2 (T : Nat) : Sx := (forS (rng1I (cE (.int 16))) (nmG 8) (exprS (methL appendD (varE 5) (consA (callE F_law_bent (consA (varE 2) (consA (varE 4) nilA))) nilA))))
noncomputable def q_law_3 (T : Nat) : Sx := (ifS (orT (valT (opE neD (saidE T "law.<locals>.<lambda>" words_ (callE F_face_read (consA (varE 9) nilA))) (callE F_law_due_v2 (consA (varE 9) nilA)))) (valT (opE neD (callE reprX (consA (varE 9) nilA)) (varE 10)))) (retS (cE (.bool false))) passS)
noncomputable def q_law_4 (T : Nat) : Sx := (forS (seqI (opE addD (varE 5) (frzE (consA (callE F_law_odd_v1 (consA (varE 2) (consA (varE 3) nilA))) (consA (callE F_law_odd_v1 (consA (varE 2) (consA (varE 3) nilA))) nilA))))) (nmG 9) (seqS (asgS (callE reprX (consA (varE 9) nilA)) (nmG 10)) (q_law_3 T)))
noncomputable def q_law_5 (T : Nat) : Sx := (forS (rng1I (callE max2D (consA (cE (.int 1)) (consA (callE min2D (consA (callE lenD (consA (varE 0) nilA)) (consA (cE (.int 4)) nilA))) nilA)))) (nmG 1) (seqS (asgS (callE F_law_box (consA (varE 0) (consA (varE 1) nilA))) (nmG 2)) (seqS (asgS (callE F_law_face (consA (varE 2) (consA (cE (.int 1)) (consA (cE (.int 10)) nilA)))) (nmG 3)) (seqS (asgS (callE F_law_face_text (consA (varE 3) nilA)) (nmG 4)) (seqS (q_law_0 T) (seqS (asgS (thwE (consA (varE 4) (consA (opE addD (varE 4) (cE (.str " "))) (consA (opE addD (cE (.str " ")) (varE 4)) (consA (opE addD (varE 4) (cE (.str " ; "))) (consA (opE addD (cE (.str "0")) (varE 4)) (consA (opE addD (cE (.str "-")) (varE 4)) (consA (op1 (replD " ; " ";") (varE 4)) nilA)))))))) (nmG 5)) (seqS (asgS (thwE (catL (varE 5) (frzE (consA (opE addD (varE 4) (sliceE (varE 4) (someP (methS sindexD (varE 4) (consA (cE (.str " ;")) nilA))) noP)) (consA (op1 (replD " ; " " ;  ") (varE 4)) (consA (methS upperD (varE 4) nilA) (consA (frzE (callL listD (consA (varE 4) nilA))) nilA))))))) (nmG 5)) (seqS (asgS (callE tupleD (consA (frzE (lcX (enumI (cE (.str "kjihgfedcba"))) [11, 12] (tupG 2 (consG (nmG 11) (consG (nmG 12) nilG))) yesT (tupE (consA (varE 12) (consA (opE addD (cE (.int 20)) (varE 11)) nilA))))) nilA)) (nmG 6)) (seqS (q_law_1 T) (seqS (q_law_2 T) (seqS (fixS 5) (q_law_4 T))))))))))))
noncomputable def b_law (T : Nat) : Sx := (seqS (q_law_5 T) (retS (cE (.bool true))))
noncomputable def F_law (T : Nat) : List D → Sto → R D := fnF 13 (b_law T)
end DV.k76

set_option maxHeartbeats 4000000
namespace DV.k76
open PySem PySem.Spec PyProof.Rows L2 DV
def topS (i : Nat) : Stmt := PySem.Challenge.pw_stampgaps_k76_faces_written_and_read.main.body.getD i (.Pass ⟨0, 0, 0, 0⟩)
abbrev s_is_from_to : Stmt := topS 21
theorem sc_is_from_to : FnScope ["thing", "least", "most"] ["thing", "least", "most"] (defScope s_is_from_to) := ⟨rfl, rfl, rfl, by decide +kernel, rfl, by decide +kernel, by decide +kernel⟩
abbrev s_is_letter : Stmt := topS 22
theorem sc_is_letter : FnScope ["thing"] ["thing"] (defScope s_is_letter) := ⟨rfl, rfl, rfl, by decide +kernel, rfl, by decide +kernel, by decide +kernel⟩
abbrev s_is_wide : Stmt := topS 23
theorem sc_is_wide : FnScope ["thing"] ["thing"] (defScope s_is_wide) := ⟨rfl, rfl, rfl, by decide +kernel, rfl, by decide +kernel, by decide +kernel⟩
abbrev s_is_face : Stmt := topS 24
theorem sc_is_face : FnScope ["thing", "one"] ["thing"] (defScope s_is_face) := ⟨rfl, rfl, rfl, by decide +kernel, rfl, by decide +kernel, by decide +kernel⟩
abbrev s_number_in : Stmt := topS 27
theorem sc_number_in : FnScope ["word", "figures", "sign"] ["word"] (defScope s_number_in) := ⟨rfl, rfl, rfl, by decide +kernel, rfl, by decide +kernel, by decide +kernel⟩
abbrev s_face_text : Stmt := topS 28
theorem sc_face_text : FnScope ["face", "letter", "width"] ["face"] (defScope s_face_text) := ⟨rfl, rfl, rfl, by decide +kernel, rfl, by decide +kernel, by decide +kernel⟩
abbrev s_face_by : Stmt := topS 29
theorem sc_face_by : FnScope ["text", "words", "letters", "word", "letter", "blank", "width", "found"] ["text"] (defScope s_face_by) := ⟨rfl, rfl, rfl, by decide +kernel, rfl, by decide +kernel, by decide +kernel⟩
abbrev s_face_read : Stmt := topS 30
theorem sc_face_read : FnScope ["text", "found"] ["text"] (defScope s_face_read) := ⟨rfl, rfl, rfl, by decide +kernel, rfl, by decide +kernel, by decide +kernel⟩
abbrev s_law_box : Stmt := topS 32
theorem sc_law_box : FnScope ["_law_script", "_law_k", "_law_cell"] ["_law_script", "_law_k"] (defScope s_law_box) := ⟨rfl, rfl, rfl, by decide +kernel, rfl, by decide +kernel, by decide +kernel⟩
abbrev s_law_take : Stmt := topS 33
theorem sc_law_take : FnScope ["_law_box_here", "_law_many", "_law_digit", "_law_high"] ["_law_box_here", "_law_many"] (defScope s_law_take) := ⟨rfl, rfl, rfl, by decide +kernel, rfl, by decide +kernel, by decide +kernel⟩
abbrev s_law_is_from_to : Stmt := topS 34
theorem sc_law_is_from_to : FnScope ["_law_thing", "_law_least", "_law_most"] ["_law_thing", "_law_least", "_law_most"] (defScope s_law_is_from_to) := ⟨rfl, rfl, rfl, by decide +kernel, rfl, by decide +kernel, by decide +kernel⟩
abbrev s_law_face : Stmt := topS 35
theorem sc_law_face : FnScope ["_law_box_here", "_law_least", "_law_most", "_law_pool", "_law_many", "_law_letters_here", "_law_turn"] ["_law_box_here", "_law_least", "_law_most"] (defScope s_law_face) := ⟨rfl, rfl, rfl, by decide +kernel, rfl, by decide +kernel, by decide +kernel⟩
abbrev s_law_letters : Stmt := topS 36
theorem sc_law_letters : FnScope ["_law_face_here", "_law_one"] ["_law_face_here"] (defScope s_law_letters) := ⟨rfl, rfl, rfl, by decide +kernel, rfl, by decide +kernel, by decide +kernel⟩
abbrev s_law_odd : Stmt := topS 37
theorem sc_law_odd : FnScope ["_law_box_here", "_law_face_here", "_law_letters_here", "_law_letter", "_law_other", "_law_some"] ["_law_box_here", "_law_face_here"] (defScope s_law_odd) := ⟨rfl, rfl, rfl, by decide +kernel, rfl, by decide +kernel, by decide +kernel⟩
abbrev s_law_is_face : Stmt := topS 38
theorem sc_law_is_face : FnScope ["_law_thing", "_law_met", "_law_one"] ["_law_thing"] (defScope s_law_is_face) := ⟨rfl, rfl, rfl, by decide +kernel, rfl, by decide +kernel, by decide +kernel⟩
abbrev s_law_number : Stmt := topS 41
theorem sc_law_number : FnScope ["_law_word_here", "_law_figures", "_law_sign"] ["_law_word_here"] (defScope s_law_number) := ⟨rfl, rfl, rfl, by decide +kernel, rfl, by decide +kernel, by decide +kernel⟩
abbrev s_law_face_text : Stmt := topS 42
theorem sc_law_face_text : FnScope ["_law_face_here", "_law_letter", "_law_breadth"] ["_law_face_here"] (defScope s_law_face_text) := ⟨rfl, rfl, rfl, by decide +kernel, rfl, by decide +kernel, by decide +kernel⟩
abbrev s_law_bent : Stmt := topS 43
theorem sc_law_bent : FnScope ["_law_box_here", "_law_text", "_law_signs", "_law_sign", "_law_at", "_law_ahead", "_law_here", "_law_later", "_law_behind", "_law_some"] ["_law_box_here", "_law_text"] (defScope s_law_bent) := ⟨rfl, rfl, rfl, by decide +kernel, rfl, by decide +kernel, by decide +kernel⟩
abbrev s_law_due : Stmt := topS 44
theorem sc_law_due : FnScope ["_law_text", "_law_words", "_law_letters_here", "_law_found", "_law_word_here"] ["_law_text"] (defScope s_law_due) := ⟨rfl, rfl, rfl, by decide +kernel, rfl, by decide +kernel, by decide +kernel⟩
abbrev s_law : Stmt := topS 45
theorem sc_law : FnScope ["_law_script", "_law_k", "_law_box_here", "_law_face_here", "_law_text", "_law_things", "_law_eleven", "_law_more", "_law_turn", "_law_thing", "_law_held", "_law_place", "_law_letter"] ["_law_script"] (defScope s_law) := ⟨rfl, rfl, rfl, by decide +kernel, rfl, by decide +kernel, by decide +kernel⟩
abbrev s_law_word : Stmt := topS 39
theorem sc_law_word : FnScope ["_law_e", "_law_kinds", "_law_words"] ["_law_e"] (defScope s_law_word) := ⟨rfl, rfl, rfl, by decide +kernel, rfl, by decide +kernel, by decide +kernel⟩
abbrev s_law_said : Stmt := topS 40
theorem sc_law_said : FnScope ["_law_call", "_law_e"] ["_law_call"] (defScope s_law_said) := ⟨rfl, rfl, rfl, by decide +kernel, rfl, by decide +kernel, by decide +kernel⟩
noncomputable def b_word (c : String) (a : Nat) : Sx := (seqS (asgS (frzE (consA (isaE a 0 (isW c "NoLetter")) (consA (isaE a 0 (isW c "NoGap")) (consA (isaE a 0 (isW c "NoRows")) (consA (isaE a 0 (isW c "NoParting")) nilA))))) (nmG 1)) (seqS (asgS (opE addD (varE 1) (frzE (consA (isaE a 0 (isW c "NoTable")) (consA (isaE a 0 (isW c "NoOpen")) (consA (isaE a 0 (isW c "NoLine")) (consA (isaE a 0 (isW c "NoPiece")) nilA)))))) (nmG 1)) (seqS (asgS (opE addD (varE 1) (frzE (consA (isaE a 0 (isW c "NoNumber")) (consA (isaE a 0 (isW c "NoDeed")) (consA (isaE a 0 (isW c "NoText")) (consA (isaE a 0 (isW c "NoWord")) nilA)))))) (nmG 1)) (seqS (asgS (opE addD (varE 1) (frzE (consA (isaE a 0 (isW c "Clash")) (consA (isaE a 0 (isW c "Kept")) (consA (isaE a 0 (isW c "TooWide")) (consA (isaE a 0 (isW c "TooMany")) nilA)))))) (nmG 1)) (seqS (ifS (orT (notT (valT (isaE a 0 (isW c "ValueError")))) (valT (opE neFD (methL countD (varE 1) (consA (cE (.bool true)) nilA)) (cE (.int 1))))) (retS (cE (.str "! none of them"))) passS) (seqS (asgS (frzE (consA (cE (.str "letter")) (consA (cE (.str "gap")) (consA (cE (.str "rows")) (consA (cE (.str "parting")) (consA (cE (.str "table")) (consA (cE (.str "open")) (consA (cE (.str "line")) (consA (cE (.str "piece")) (consA (cE (.str "number")) (consA (cE (.str "deed")) (consA (cE (.str "text")) (consA (cE (.str "word")) nilA))))))))))))) (nmG 2)) (retS (opE addD (cE (.str "! ")) (opE itemD (opE addD (varE 2) (frzE (consA (cE (.str "clash")) (consA (cE (.str "kept")) (consA (cE (.str "wide")) (consA (cE (.str "many")) nilA)))))) (methL indexD (varE 1) (consA (cE (.bool true)) nilA)))))))))))
theorem res_NoText (a : Nat) (S : Sto) : b_word "NoText" a (init 3 [.raw a]) S = .rt (.py (.str "! text")) S := by
  have e1 := countD_bools [false, false, false, false, false, false, false, false, false, false, true, false, false, false, false, false] true 1 (by decide) S
  have e2 := indexD_bools [false, false, false, false, false, false, false, false, false, false, true, false, false, false, false, false] true 10 (by decide) S
  simp only [List.map] at e1 e2
  simp [b_word, init, seqS, asgS, frzE, frz, consA, nilA, isW, nmG, opE, varE, addD, ifS, orT, notT, valT, retS, methL, lsOk, cE, passS, neFD, flatD, sl_word, e1, e2, itemD, seqOf, L2.atI, L2.ixN]
  have e3 : Str.ofString "! " ++ Str.ofString "text" = Str.ofString "! text" := by decide +kernel
  rw [if_pos (by decide +kernel), e3]
  rfl
section
variable {P : Program} {w : World} {K : PySem.W.Frag} {mg : Str → Option Value} {base : Heap}
theorem ok_word {f : Addr} {fd : FuncData} (F0 : L2.Fun K "_law_word" "_law_word" s_law_word f fd) (Bw : Binds K fd ["_law_e"] []) (m_isinstance : mg "isinstance" = none) (m_ValueError : mg "ValueError" = none) (c : String) {D : Addr} (hD : clsV mg (Str.ofString c) = .ref D) (EC : ExcC K D) {w_NoLetter : Addr} (mw_NoLetter : mg "NoLetter" = some (.ref w_NoLetter)) (kt_NoLetter : PySem.W.kitOne K (.ref D) (.ref w_NoLetter) = some (isW c "NoLetter")) {w_NoGap : Addr} (mw_NoGap : mg "NoGap" = some (.ref w_NoGap)) (kt_NoGap : PySem.W.kitOne K (.ref D) (.ref w_NoGap) = some (isW c "NoGap")) {w_NoRows : Addr} (mw_NoRows : mg "NoRows" = some (.ref w_NoRows)) (kt_NoRows : PySem.W.kitOne K (.ref D) (.ref w_NoRows) = some (isW c "NoRows")) {w_NoParting : Addr} (mw_NoParting : mg "NoParting" = some (.ref w_NoParting)) (kt_NoParting : PySem.W.kitOne K (.ref D) (.ref w_NoParting) = some (isW c "NoParting")) {w_NoTable : Addr} (mw_NoTable : mg "NoTable" = some (.ref w_NoTable)) (kt_NoTable : PySem.W.kitOne K (.ref D) (.ref w_NoTable) = some (isW c "NoTable")) {w_NoOpen : Addr} (mw_NoOpen : mg "NoOpen" = some (.ref w_NoOpen)) (kt_NoOpen : PySem.W.kitOne K (.ref D) (.ref w_NoOpen) = some (isW c "NoOpen")) {w_NoLine : Addr} (mw_NoLine : mg "NoLine" = some (.ref w_NoLine)) (kt_NoLine : PySem.W.kitOne K (.ref D) (.ref w_NoLine) = some (isW c "NoLine")) {w_NoPiece : Addr} (mw_NoPiece : mg "NoPiece" = some (.ref w_NoPiece)) (kt_NoPiece : PySem.W.kitOne K (.ref D) (.ref w_NoPiece) = some (isW c "NoPiece")) {w_NoNumber : Addr} (mw_NoNumber : mg "NoNumber" = some (.ref w_NoNumber)) (kt_NoNumber : PySem.W.kitOne K (.ref D) (.ref w_NoNumber) = some (isW c "NoNumber")) {w_NoDeed : Addr} (mw_NoDeed : mg "NoDeed" = some (.ref w_NoDeed)) (kt_NoDeed : PySem.W.kitOne K (.ref D) (.ref w_NoDeed) = some (isW c "NoDeed")) {w_NoText : Addr} (mw_NoText : mg "NoText" = some (.ref w_NoText)) (kt_NoText : PySem.W.kitOne K (.ref D) (.ref w_NoText) = some (isW c "NoText")) {w_NoWord : Addr} (mw_NoWord : mg "NoWord" = some (.ref w_NoWord)) (kt_NoWord : PySem.W.kitOne K (.ref D) (.ref w_NoWord) = some (isW c "NoWord")) {w_Clash : Addr} (mw_Clash : mg "Clash" = some (.ref w_Clash)) (kt_Clash : PySem.W.kitOne K (.ref D) (.ref w_Clash) = some (isW c "Clash")) {w_Kept : Addr} (mw_Kept : mg "Kept" = some (.ref w_Kept)) (kt_Kept : PySem.W.kitOne K (.ref D) (.ref w_Kept) = some (isW c "Kept")) {w_TooWide : Addr} (mw_TooWide : mg "TooWide" = some (.ref w_TooWide)) (kt_TooWide : PySem.W.kitOne K (.ref D) (.ref w_TooWide) = some (isW c "TooWide")) {w_TooMany : Addr} (mw_TooMany : mg "TooMany" = some (.ref w_TooMany)) (kt_TooMany : PySem.W.kitOne K (.ref D) (.ref w_TooMany) = some (isW c "TooMany")) (kt_ValueError : PySem.W.kitOne K (.ref D) (.type "ValueError") = some (isW c "ValueError")) {t : Str} (res : ∀ (a : Addr) (S : Sto), b_word c a (init 3 [.raw a]) S = .rt (.py (.str t)) S) : WordD P w K mg base 1 f (Str.ofString c) t :=
  word_ok (b := b_word c) F0 sc_law_word Bw hD (fun cdv A outer s H a oe hz hf hu => (dss_cons (ds_set 1 sc_law_word.nd (de_frz (dl_lst (da_cons (de_isa 0 EC (List.mem_singleton.mpr rfl) hz hf kt_NoLetter (cls_own mw_NoLetter) (fun _ r => r) m_isinstance) (da_cons (de_isa 0 EC (List.mem_singleton.mpr rfl) hz hf kt_NoGap (cls_own mw_NoGap) (fun _ r => r) m_isinstance) (da_cons (de_isa 0 EC (List.mem_singleton.mpr rfl) hz hf kt_NoRows (cls_own mw_NoRows) (fun _ r => r) m_isinstance) (da_cons (de_isa 0 EC (List.mem_singleton.mpr rfl) hz hf kt_NoParting (cls_own mw_NoParting) (fun _ r => r) m_isinstance) da_nil))))))) (dss_cons (ds_set 1 sc_law_word.nd (de_bin do_add (de_var 1) (de_frz (dl_lst (da_cons (de_isa 0 EC (List.mem_singleton.mpr rfl) hz hf kt_NoTable (cls_own mw_NoTable) (fun _ r => r) m_isinstance) (da_cons (de_isa 0 EC (List.mem_singleton.mpr rfl) hz hf kt_NoOpen (cls_own mw_NoOpen) (fun _ r => r) m_isinstance) (da_cons (de_isa 0 EC (List.mem_singleton.mpr rfl) hz hf kt_NoLine (cls_own mw_NoLine) (fun _ r => r) m_isinstance) (da_cons (de_isa 0 EC (List.mem_singleton.mpr rfl) hz hf kt_NoPiece (cls_own mw_NoPiece) (fun _ r => r) m_isinstance) da_nil)))))))) (dss_cons (ds_set 1 sc_law_word.nd (de_bin do_add (de_var 1) (de_frz (dl_lst (da_cons (de_isa 0 EC (List.mem_singleton.mpr rfl) hz hf kt_NoNumber (cls_own mw_NoNumber) (fun _ r => r) m_isinstance) (da_cons (de_isa 0 EC (List.mem_singleton.mpr rfl) hz hf kt_NoDeed (cls_own mw_NoDeed) (fun _ r => r) m_isinstance) (da_cons (de_isa 0 EC (List.mem_singleton.mpr rfl) hz hf kt_NoText (cls_own mw_NoText) (fun _ r => r) m_isinstance) (da_cons (de_isa 0 EC (List.mem_singleton.mpr rfl) hz hf kt_NoWord (cls_own mw_NoWord) (fun _ r => r) m_isinstance) da_nil)))))))) (dss_cons (ds_set 1 sc_law_word.nd (de_bin do_add (de_var 1) (de_frz (dl_lst (da_cons (de_isa 0 EC (List.mem_singleton.mpr rfl) hz hf kt_Clash (cls_own mw_Clash) (fun _ r => r) m_isinstance) (da_cons (de_isa 0 EC (List.mem_singleton.mpr rfl) hz hf kt_Kept (cls_own mw_Kept) (fun _ r => r) m_isinstance) (da_cons (de_isa 0 EC (List.mem_singleton.mpr rfl) hz hf kt_TooWide (cls_own mw_TooWide) (fun _ r => r) m_isinstance) (da_cons (de_isa 0 EC (List.mem_singleton.mpr rfl) hz hf kt_TooMany (cls_own mw_TooMany) (fun _ r => r) m_isinstance) da_nil)))))))) (dss_cons (ds_if (dt_w (dw_or (dt_not (dt_val (de_isa 0 EC (List.mem_singleton.mpr rfl) hz hf kt_ValueError (cls_bltn m_ValueError) (fun _ r => r) m_isinstance))) (dw_or1 (dt_cmp do_neF (de_methL PySem.F.slot_list_count PySem.F.type_list_count (dm_countU hu) (de_var 1) (da_cons de_bl da_nil)) de_int)))) (dss_one (ds_ret de_str)) dss_nil) (dss_cons (ds_set 2 sc_law_word.nd (de_frz (dl_lst (da_cons de_str (da_cons de_str (da_cons de_str (da_cons de_str (da_cons de_str (da_cons de_str (da_cons de_str (da_cons de_str (da_cons de_str (da_cons de_str (da_cons de_str (da_cons de_str da_nil))))))))))))))) (dss_one (ds_ret (de_bin do_add de_str (de_item (de_bin do_add (de_var 2) (de_frz (dl_lst (da_cons de_str (da_cons de_str (da_cons de_str (da_cons de_str da_nil))))))) (de_methL PySem.F.slot_list_index PySem.F.type_list_index (dm_indexU hu) (de_var 1) (da_cons de_bl da_nil))))))))))))) res
theorem ok_is_from_to {f : Addr} {fd : FuncData} (F0 : L2.Fun K "is_from_to" "is_from_to" s_is_from_to f fd) (m_isinstance : mg "isinstance" = none) (m_int : mg "int" = none) (m_bool : mg "bool" = none) : FnD P w K mg base 1 f fd ["thing", "least", "most"] F_is_from_to :=
  dfn F0 sc_is_from_to (fun _ _ _ _ _ _ o => (dss_one (ds_ret (de_and (de_isi (T := "int") m_isinstance m_int (de_var 0)) (de_and (de_not (de_isi (T := "bool") m_isinstance m_bool (de_var 0))) (de_one (de_chain do_le do_le (de_var 1) (de_var 0) (de_var 2))))))))
theorem ok_is_letter {f : Addr} {fd : FuncData} (F0 : L2.Fun K "is_letter" "is_letter" s_is_letter f fd) (m_isinstance : mg "isinstance" = none) (m_str : mg "str" = none) (m_len : mg "len" = none) {t_LETTERS : Tok} (c_LETTERS : mg "LETTERS" = some (.str "abcdefghijklmnopqrstuvwxyz" t_LETTERS)) : FnD P w K mg base 1 f fd ["thing"] F_is_letter :=
  dfn F0 sc_is_letter (fun _ _ _ _ _ _ o => (dss_one (ds_ret (de_and (de_isi (T := "str") m_isinstance m_str (de_var 0)) (de_and (de_cmp (do_eq o) (de_callB dc_len m_len boot_len (da_cons (de_var 0) da_nil)) de_int) (de_one (de_cmp (do_in o) (de_var 0) (de_gstr c_LETTERS))))))))
theorem ok_is_wide {f : Addr} {fd : FuncData} (F0 : L2.Fun K "is_wide" "is_wide" s_is_wide f fd) {f_is_from_to : Addr} {fd_is_from_to : FuncData} (G_is_from_to : FnD P w K mg base 1 f_is_from_to fd_is_from_to ["thing", "least", "most"] F_is_from_to) (A_is_from_to : At K mg "is_from_to" f_is_from_to fd_is_from_to ["thing", "least", "most"]) : FnD P w K mg base 2 f fd ["thing"] F_is_wide :=
  dfn F0 sc_is_wide (fun _ _ _ _ _ _ o => (dss_one (ds_ret (de_call o G_is_from_to A_is_from_to (by decide) (da_cons (de_var 0) (da_cons de_int (da_cons de_int da_nil)))))))
theorem ok_is_face {f : Addr} {fd : FuncData} (F0 : L2.Fun K "is_face" "is_face" s_is_face f fd) {f_is_from_to : Addr} {fd_is_from_to : FuncData} (G_is_from_to : FnD P w K mg base 1 f_is_from_to fd_is_from_to ["thing", "least", "most"] F_is_from_to) (A_is_from_to : At K mg "is_from_to" f_is_from_to fd_is_from_to ["thing", "least", "most"]) {f_is_letter : Addr} {fd_is_letter : FuncData} (G_is_letter : FnD P w K mg base 1 f_is_letter fd_is_letter ["thing"] F_is_letter) (A_is_letter : At K mg "is_letter" f_is_letter fd_is_letter ["thing"]) {f_is_wide : Addr} {fd_is_wide : FuncData} (G_is_wide : FnD P w K mg base 2 f_is_wide fd_is_wide ["thing"] F_is_wide) (A_is_wide : At K mg "is_wide" f_is_wide fd_is_wide ["thing"]) (m_isinstance : mg "isinstance" = none) (m_tuple : mg "tuple" = none) (m_len : mg "len" = none) (m_set : mg "set" = none) {t_MOST_LETTERS : Tok} (c_MOST_LETTERS : mg "MOST_LETTERS" = some (.int 10 t_MOST_LETTERS)) : FnD P w K mg base 3 f fd ["thing"] F_is_face :=
  dfn F0 sc_is_face (fun _ _ _ _ _ _ o => (dss_cons (ds_if (dt_w (dw_or (dt_not (dt_val (de_isi (T := "tuple") m_isinstance m_tuple (de_var 0)))) (dw_or (dt_cmp (do_ne o) (de_callB dc_len m_len boot_len (da_cons (de_var 0) da_nil)) de_int) (dw_or1 (dt_not (dt_val (de_call o G_is_from_to A_is_from_to (by decide) (da_cons (de_item (de_var 0) de_int) (da_cons de_int (da_cons de_int da_nil)))))))))) (dss_one (ds_ret de_bl)) dss_nil) (dss_cons (ds_if (dt_w (dw_or (dt_not (dt_val (de_isi (T := "tuple") m_isinstance m_tuple (de_item (de_var 0) de_int)))) (dw_or1 (dt_not (dt_chain do_le do_le de_int (de_callB dc_len m_len boot_len (da_cons (de_item (de_var 0) de_int) da_nil)) (de_gint c_MOST_LETTERS)))))) (dss_one (ds_ret de_bl)) dss_nil) (dss_cons (ds_for (vs := [1]) o (di_seq (de_item (de_var 0) de_int)) (dg_name 1 o.nd) (dss_one (ds_if (dt_w (dw_or (dt_not (dt_val (de_isi (T := "tuple") m_isinstance m_tuple (de_var 1)))) (dw_or (dt_cmp (do_ne o) (de_callB dc_len m_len boot_len (da_cons (de_var 1) da_nil)) de_int) (dw_or (dt_not (dt_val (de_call o G_is_letter A_is_letter (by decide) (da_cons (de_item (de_var 1) de_int) da_nil)))) (dw_or1 (dt_not (dt_val (de_call o G_is_wide A_is_wide (by decide) (da_cons (de_item (de_var 1) de_int) da_nil))))))))) (dss_one (ds_ret de_bl)) dss_nil))) (dss_one (ds_ret (de_cmp (do_eq o) (de_lensetX o m_len m_set (de_frz (dl_lc [("one", 1)] o (di_seq (de_item (de_var 0) de_int)) (fun _ _ _ _ _ o => (dg_name 1 o.nd)) (fun _ _ _ _ _ o => dts_nil) (fun _ _ _ _ _ o => (de_item (de_var 1) de_int))))) (de_callB dc_len m_len boot_len (da_cons (de_item (de_var 0) de_int) da_nil)))))))))
theorem ok_number_in {f : Addr} {fd : FuncData} (F0 : L2.Fun K "number_in" "number_in" s_number_in f fd) (m_len : mg "len" = none) (m_all : mg "all" = none) (m_int : mg "int" = none) (m_str : mg "str" = none) {t_FIGURES : Tok} (c_FIGURES : mg "FIGURES" = some (.str "0123456789" t_FIGURES)) : FnD P w K mg base 1 f fd ["word"] F_number_in :=
  dfn F0 sc_number_in (fun _ _ _ _ _ _ o => (dss_cons (ds_set 1 o.nd (de_ife (dt_cmp (do_eq o) (de_slice (de_var 0) dp_none (dp_some de_int)) de_str) (de_slice (de_var 0) (dp_some de_int) dp_none) (de_var 0))) (dss_cons (ds_if (dt_w (dw_or (dt_cmp (do_eq o) (de_var 1) de_str) (dw_or (dt_cmp do_gt (de_callB dc_len m_len boot_len (da_cons (de_var 1) da_nil)) de_int) (dw_or1 (dt_not (dt_val (de_callB (dc_all o) m_all rfl (da_cons (de_frz (dl_lc [("sign", 2)] o (di_txt (de_var 1)) (fun _ _ _ _ _ o => (dg_name 2 o.nd)) (fun _ _ _ _ _ o => dts_nil) (fun _ _ _ _ _ o => (de_cmp (do_in o) (de_var 2) (de_gstr c_FIGURES))))) da_nil)))))))) (dss_one (ds_ret de_non)) dss_nil) (dss_cons (ds_if (dt_cmp (do_ne o) (de_callTy dc_str m_str PyProof.Rows.boot_str (da_cons (de_callTy dc_intX m_int rfl (da_cons (de_var 0) da_nil)) da_nil)) (de_var 0)) (dss_one (ds_ret de_non)) dss_nil) (dss_one (ds_ret (de_callTy dc_intX m_int rfl (da_cons (de_var 0) da_nil))))))))
theorem ok_face_text {f : Addr} {fd : FuncData} (F0 : L2.Fun K "face_text" "face_text" s_face_text f fd) (m_str : mg "str" = none) : FnD P w K mg base 1 f fd ["face"] F_face_text :=
  dfn F0 sc_face_text (fun _ _ _ _ _ _ o => (dss_one (ds_ret (de_methS PySem.F.slot_str_join PySem.F.type_str_join dm_join de_str (da_cons (de_bin do_add (de_frz (dl_lst (da_cons (de_callTy dc_str m_str PyProof.Rows.boot_str (da_cons (de_item (de_var 0) de_int) da_nil)) da_nil))) (de_frz (dl_lc [("letter", 1), ("width", 2)] o (di_seq (de_item (de_var 0) de_int)) (fun _ _ _ _ _ o => (dg_tup o.calm (dgs_cons (dg_name 1 o.nd) (dgs_cons (dg_name 2 o.nd) dgs_nil)))) (fun _ _ _ _ _ o => dts_nil) (fun _ _ _ _ _ o => (de_bin do_add (de_bin do_add (de_var 1) de_str) (de_callTy dc_str m_str PyProof.Rows.boot_str (da_cons (de_var 2) da_nil))))))) da_nil)))))
theorem ok_face_by {f : Addr} {fd : FuncData} (F0 : L2.Fun K "face_by" "face_by" s_face_by f fd) {f_number_in : Addr} {fd_number_in : FuncData} (G_number_in : FnD P w K mg base 1 f_number_in fd_number_in ["word"] F_number_in) (A_number_in : At K mg "number_in" f_number_in fd_number_in ["word"]) {f_is_face : Addr} {fd_is_face : FuncData} (G_is_face : FnD P w K mg base 3 f_is_face fd_is_face ["thing"] F_is_face) (A_is_face : At K mg "is_face" f_is_face fd_is_face ["thing"]) {f_face_text : Addr} {fd_face_text : FuncData} (G_face_text : FnD P w K mg base 1 f_face_text fd_face_text ["face"] F_face_text) (A_face_text : At K mg "face_text" f_face_text fd_face_text ["face"]) (m_tuple : mg "tuple" = none) : FnD P w K mg base 4 f fd ["text"] F_face_by :=
  dfn F0 sc_face_by (fun _ _ _ _ _ _ o => (dss_cons (ds_set 1 o.nd (de_frz (dl_methS PySem.F.slot_str_split PySem.F.type_str_split dml_split (de_var 0) (da_cons de_str da_nil)))) (dss_cons (ds_set 2 o.nd (de_thw (dl_lst da_nil))) (dss_cons (ds_for (vs := [3]) o (di_seq (de_sliceA (de_var 1) (dp_some de_int) dp_none)) (dg_name 3 o.nd) (dss_cons (ds_asg (vs := [4, 5, 6]) (de_methS PySem.F.slot_str_partition PySem.F.type_str_partition dm_partition (de_var 3) (da_cons de_str da_nil)) (dg_tup o.calm (dgs_cons (dg_name 4 o.nd) (dgs_cons (dg_name 5 o.nd) (dgs_cons (dg_name 6 o.nd) dgs_nil))))) (dss_one (ds_expr (de_methL PySem.F.slot_list_append PySem.F.type_list_append dm_append (de_var 2) (da_cons (de_tup (da_cons (de_var 4) (da_cons (de_call o G_number_in A_number_in (by decide) (da_cons (de_var 6) da_nil)) da_nil))) da_nil)))))) (dss_cons (ds_set 7 o.nd (de_tup (da_cons (de_call o G_number_in A_number_in (by decide) (da_cons (de_item (de_var 1) de_int) da_nil)) (da_cons (de_callTy dc_tuple m_tuple PyProof.Rows.boot_tuple (da_cons (de_var 2) da_nil)) da_nil)))) (dss_cons (ds_if (dt_w (dw_or (dt_not (dt_val (de_call o G_is_face A_is_face (by decide) (da_cons (de_var 7) da_nil)))) (dw_or1 (dt_cmp (do_ne o) (de_call o G_face_text A_face_text (by decide) (da_cons (de_var 7) da_nil)) (de_var 0))))) (dss_one (ds_ret de_non)) dss_nil) (dss_one (ds_ret (de_var 7)))))))))
theorem ok_face_read {f : Addr} {fd : FuncData} (F0 : L2.Fun K "face_read" "face_read" s_face_read f fd) {f_face_by : Addr} {fd_face_by : FuncData} (G_face_by : FnD P w K mg base 4 f_face_by fd_face_by ["text"] F_face_by) (A_face_by : At K mg "face_by" f_face_by fd_face_by ["text"]) (m_isinstance : mg "isinstance" = none) (m_str : mg "str" = none) {a_NoText : Addr} (X_NoText : ExcAt K mg "NoText" a_NoText) : FnD P w K mg base 5 f fd ["text"] F_face_read :=
  dfn F0 sc_face_read (fun _ _ _ _ _ _ o => (dss_cons (ds_set 1 o.nd de_non) (dss_cons (ds_if (dt_val (de_isi (T := "str") m_isinstance m_str (de_var 0))) (dss_one (ds_set 1 o.nd (de_call o G_face_by A_face_by (by decide) (da_cons (de_var 0) da_nil)))) dss_nil) (dss_cons (ds_if (dt_cmp do_is (de_var 1) de_non) (dss_one (ds_raise o X_NoText)) dss_nil) (dss_one (ds_ret (de_var 1)))))))
theorem ok_law_box {f : Addr} {fd : FuncData} (F0 : L2.Fun K "_law_box" "_law_box" s_law_box f fd) (m_len : mg "len" = none) (m_abs : mg "abs" = none) : FnD P w K mg base 1 f fd ["_law_script", "_law_k"] F_law_box :=
  dfn F0 sc_law_box (fun _ _ _ _ _ _ o => (dss_cons (ds_set 2 o.nd (de_bin do_add (de_bin do_mul de_int (de_var 1)) de_int)) (dss_cons (ds_if (dt_cmp (do_ltX o) (de_var 1) (de_callB dc_len m_len boot_len (da_cons (de_var 0) da_nil))) (dss_one (ds_set 2 o.nd (de_item (de_var 0) (de_var 1)))) dss_nil) (dss_cons (ds_if (dt_cmp (do_eq o) (de_bin do_mod (de_var 2) de_int) de_int) (dss_one (ds_ret (de_thw (dl_lst (da_cons (de_bin do_fdiv (de_callB dc_abs m_abs PyProof.Rows.boot_abs (da_cons (de_var 2) da_nil)) de_int) (da_cons (de_bin do_add (de_bin do_add (de_bin do_mod (de_var 2) de_int) (de_bin do_mul de_int (de_var 1))) de_int) da_nil)))))) dss_nil) (dss_one (ds_ret (de_thw (dl_lst (da_cons de_int (da_cons (de_bin do_add (de_bin do_add (de_bin do_mod (de_var 2) de_int) (de_bin do_mul de_int (de_var 1))) de_int) da_nil))))))))))
theorem ok_law_take {f : Addr} {fd : FuncData} (F0 : L2.Fun K "_law_take" "_law_take" s_law_take f fd) (m_divmod : mg "divmod" = none) : FnD P w K mg base 1 f fd ["_law_box_here", "_law_many"] F_law_take :=
  dfn F0 sc_law_take (fun _ _ _ _ _ _ o => (dss_cons (ds_if (dt_cmp do_gt (de_item (de_var 0) de_int) de_int) (dss_cons (ds_asg (vs := [2]) (de_callB dc_divmod m_divmod PyProof.Rows.boot_divmod (da_cons (de_item (de_var 0) de_int) (da_cons (de_var 1) da_nil))) (dg_tup o.calm (dgs_cons (dg_ix (de_var 0) de_int) (dgs_cons (dg_name 2 o.nd) dgs_nil)))) (dss_one (ds_ret (de_var 2)))) dss_nil) (dss_cons (ds_asg (vs := []) (de_bin do_mod (de_bin do_add (de_bin do_mul (de_item (de_var 0) de_int) de_int) de_int) de_int) (dg_ix (de_var 0) de_int)) (dss_cons (ds_set 3 o.nd (de_bin do_add (de_bin do_fdiv (de_item (de_var 0) de_int) de_int) de_int)) (dss_one (ds_ret (de_bin do_mod (de_bin do_fdiv (de_bin do_mod (de_bin do_mul (de_bin do_mul (de_var 3) (de_var 3)) (de_var 3)) de_int) de_int) (de_var 1))))))))
theorem ok_law_is_from_to {f : Addr} {fd : FuncData} (F0 : L2.Fun K "_law_is_from_to" "_law_is_from_to" s_law_is_from_to f fd) (m_isinstance : mg "isinstance" = none) (m_int : mg "int" = none) (m_bool : mg "bool" = none) : FnD P w K mg base 1 f fd ["_law_thing", "_law_least", "_law_most"] F_law_is_from_to :=
  dfn F0 sc_law_is_from_to (fun _ _ _ _ _ _ o => (dss_one (ds_ret (de_and (de_isi (T := "int") m_isinstance m_int (de_var 0)) (de_and (de_not (de_isi (T := "bool") m_isinstance m_bool (de_var 0))) (de_one (de_chain do_le do_le (de_var 1) (de_var 0) (de_var 2))))))))
theorem ok_law_face {f : Addr} {fd : FuncData} (F0 : L2.Fun K "_law_face" "_law_face" s_law_face f fd) {f_law_take : Addr} {fd_law_take : FuncData} (G_law_take : FnD P w K mg base 1 f_law_take fd_law_take ["_law_box_here", "_law_many"] F_law_take) (A_law_take : At K mg "_law_take" f_law_take fd_law_take ["_law_box_here", "_law_many"]) (m_list : mg "list" = none) (m_range : mg "range" = none) (m_len : mg "len" = none) (m_tuple : mg "tuple" = none) : FnD P w K mg base 2 f fd ["_law_box_here", "_law_least", "_law_most"] F_law_face :=
  dfn F0 sc_law_face (fun _ _ _ _ _ _ o => (dss_cons (ds_set 3 o.nd (de_thw (dl_callTy (dcl_list o) m_list PyProof.Rows.boot_list (da_cons de_str da_nil)))) (dss_cons (ds_set 4 o.nd (de_bin do_add (de_var 1) (de_call o G_law_take A_law_take (by decide) (da_cons (de_var 0) (da_cons (de_bin do_add (de_bin do_sub (de_var 2) (de_var 1)) de_int) da_nil))))) (dss_cons (ds_setLcF 5 [("_law_turn", 6)] o (di_rng1 m_range (de_var 4)) (fun _ _ _ _ _ o => (dg_name 6 o.nd)) (fun _ _ _ _ _ o => dts_nil) (fun _ _ _ _ _ o => (de_tup (da_cons (de_methL PySem.F.slot_list_pop PySem.F.type_list_pop dm_pop (de_var 3) (da_cons (de_call o G_law_take A_law_take (by decide) (da_cons (de_var 0) (da_cons (de_callB dc_len m_len boot_len (da_cons (de_var 3) da_nil)) da_nil))) da_nil)) (da_cons (de_bin do_add de_int (de_call o G_law_take A_law_take (by decide) (da_cons (de_var 0) (da_cons de_int da_nil)))) da_nil))))) (dss_one (ds_ret (de_tup (da_cons (de_bin do_add de_int (de_call o G_law_take A_law_take (by decide) (da_cons (de_var 0) (da_cons de_int da_nil)))) (da_cons (de_callTy dc_tuple m_tuple PyProof.Rows.boot_tuple (da_cons (de_var 5) da_nil)) da_nil)))))))))
theorem ok_law_letters {f : Addr} {fd : FuncData} (F0 : L2.Fun K "_law_letters" "_law_letters" s_law_letters f fd) : FnD P w K mg base 1 f fd ["_law_face_here"] F_law_letters :=
  dfn F0 sc_law_letters (fun _ _ _ _ _ _ o => (dss_one (ds_ret (de_frz (dl_lc [("_law_one", 1)] o (di_seq (de_item (de_var 0) de_int)) (fun _ _ _ _ _ o => (dg_name 1 o.nd)) (fun _ _ _ _ _ o => dts_nil) (fun _ _ _ _ _ o => (de_item (de_var 1) de_int)))))))
theorem ok_law_odd {f : Addr} {fd : FuncData} (F0 : L2.Fun K "_law_odd" "_law_odd" s_law_odd f fd) {f_law_letters : Addr} {fd_law_letters : FuncData} (G_law_letters : FnD P w K mg base 1 f_law_letters fd_law_letters ["_law_face_here"] F_law_letters) (A_law_letters : At K mg "_law_letters" f_law_letters fd_law_letters ["_law_face_here"]) {f_law_take : Addr} {fd_law_take : FuncData} (G_law_take : FnD P w K mg base 1 f_law_take fd_law_take ["_law_box_here", "_law_many"] F_law_take) (A_law_take : At K mg "_law_take" f_law_take fd_law_take ["_law_box_here", "_law_many"]) (m_len : mg "len" = none) : FnD P w K mg base 2 f fd ["_law_box_here", "_law_face_here"] F_law_odd_v1 :=
  dfn F0 sc_law_odd (fun _ _ _ _ _ _ o => (dss_cons (ds_set 2 o.nd (de_call o G_law_letters A_law_letters (by decide) (da_cons (de_var 1) da_nil))) (dss_cons (ds_set 3 o.nd (de_item (de_var 2) (de_call o G_law_take A_law_take (by decide) (da_cons (de_var 0) (da_cons (de_callB dc_len m_len boot_len (da_cons (de_var 2) da_nil)) da_nil))))) (dss_cons (ds_set 4 o.nd (de_item de_str (de_call o G_law_take A_law_take (by decide) (da_cons (de_var 0) (da_cons de_int da_nil))))) (dss_cons (ds_set 5 o.nd (de_thw (dl_lst (da_cons de_non (da_cons de_bl (da_cons de_bl (da_cons de_int (da_cons de_int (da_cons de_int (da_cons de_int (da_cons de_int (da_cons de_int (da_cons de_int (da_cons de_int (da_cons (de_un du_neg de_int) (da_cons (de_un du_neg de_int) (da_cons (de_un du_neg de_int) (da_cons (de_bin do_pow de_int de_int) (da_cons (de_bin do_sub de_int (de_bin do_pow de_int de_int)) (da_cons (de_var 3) (da_cons (de_var 4) da_nil))))))))))))))))))))) (dss_cons (ds_set 5 o.nd (de_thw (dl_cat (de_var 5) (de_frz (dl_lst (da_cons de_str (da_cons de_str (da_cons de_str (da_cons (de_bin do_add (de_var 3) (de_var 4)) (da_cons (de_bin do_add (de_var 4) de_str) (da_cons de_str (da_cons de_str (da_cons de_str (da_cons (de_tup da_nil) (da_cons (de_frz (dl_lst da_nil)) (da_cons de_dict0 (da_cons (de_tup (da_cons (de_var 3) da_nil)) (da_cons (de_frz (dl_lst (da_cons (de_var 3) da_nil))) da_nil)))))))))))))))))) (dss_cons (ds_set 5 o.nd (de_thw (dl_cat (de_var 5) (de_frz (dl_lst (da_cons (de_tup (da_cons (de_var 3) (da_cons de_int da_nil))) (da_cons (de_frz (dl_lst (da_cons (de_var 3) (da_cons de_int da_nil)))) (da_cons (de_tup (da_cons (de_var 4) (da_cons de_int da_nil))) (da_cons (de_tup (da_cons (de_var 3) (da_cons (de_var 4) (da_cons de_int da_nil)))) (da_cons (de_tup (da_cons (de_var 3) (da_cons (de_var 3) (da_cons de_int da_nil)))) (da_cons (de_dict1 3) da_nil))))))))))) (dss_cons (ds_set 5 o.nd (de_thw (dl_cat (de_var 5) (de_frz (dl_lst (da_cons (de_tup (da_cons de_non da_nil)) (da_cons (de_tup (da_cons (de_tup da_nil) da_nil)) (da_cons (de_tup (da_cons de_bl (da_cons de_bl da_nil))) (da_cons (de_tup (da_cons (de_tup (da_cons (de_var 3) da_nil)) (da_cons (de_tup (da_cons (de_var 4) da_nil)) da_nil))) (da_cons (de_frz (dl_lst (da_cons (de_frz (dl_lst da_nil)) da_nil))) (da_cons (de_tup (da_cons de_str da_nil)) (da_cons (de_tup (da_cons de_int (da_cons de_int da_nil))) (da_cons (de_bin do_mulS (de_var 3) de_int) da_nil))))))))))))) (dss_cons (ds_expr (de_methL PySem.F.slot_list_append PySem.F.type_list_append dm_append (de_var 5) (da_cons (de_tup (da_cons (de_var 3) (da_cons de_int (da_cons de_int da_nil)))) da_nil))) (dss_one (ds_ret (de_item (de_var 5) (de_call o G_law_take A_law_take (by decide) (da_cons (de_var 0) (da_cons (de_callB dc_len m_len boot_len (da_cons (de_var 5) da_nil)) da_nil)))))))))))))))
theorem ok_law_is_face {f : Addr} {fd : FuncData} (F0 : L2.Fun K "_law_is_face" "_law_is_face" s_law_is_face f fd) {f_law_is_from_to : Addr} {fd_law_is_from_to : FuncData} (G_law_is_from_to : FnD P w K mg base 1 f_law_is_from_to fd_law_is_from_to ["_law_thing", "_law_least", "_law_most"] F_law_is_from_to) (A_law_is_from_to : At K mg "_law_is_from_to" f_law_is_from_to fd_law_is_from_to ["_law_thing", "_law_least", "_law_most"]) (m_isinstance : mg "isinstance" = none) (m_tuple : mg "tuple" = none) (m_len : mg "len" = none) (m_str : mg "str" = none) : FnD P w K mg base 2 f fd ["_law_thing"] F_law_is_face :=
  dfn F0 sc_law_is_face (fun _ _ _ _ _ _ o => (dss_cons (ds_if (dt_w (dw_or (dt_not (dt_val (de_isi (T := "tuple") m_isinstance m_tuple (de_var 0)))) (dw_or (dt_cmp (do_ne o) (de_callB dc_len m_len boot_len (da_cons (de_var 0) da_nil)) de_int) (dw_or1 (dt_not (dt_val (de_call o G_law_is_from_to A_law_is_from_to (by decide) (da_cons (de_item (de_var 0) de_int) (da_cons de_int (da_cons de_int da_nil)))))))))) (dss_one (ds_ret de_bl)) dss_nil) (dss_cons (ds_if (dt_w (dw_or (dt_not (dt_val (de_isi (T := "tuple") m_isinstance m_tuple (de_item (de_var 0) de_int)))) (dw_or1 (dt_not (dt_chain do_le do_le de_int (de_callB dc_len m_len boot_len (da_cons (de_item (de_var 0) de_int) da_nil)) de_int))))) (dss_one (ds_ret de_bl)) dss_nil) (dss_cons (ds_set 1 o.nd (de_thw (dl_lst da_nil))) (dss_cons (ds_for (vs := [2]) o (di_seq (de_item (de_var 0) de_int)) (dg_name 2 o.nd) (dss_cons (ds_if (dt_w (dw_or (dt_not (dt_val (de_isi (T := "tuple") m_isinstance m_tuple (de_var 2)))) (dw_or (dt_cmp (do_ne o) (de_callB dc_len m_len boot_len (da_cons (de_var 2) da_nil)) de_int) (dw_or (dt_not (dt_val (de_isi (T := "str") m_isinstance m_str (de_item (de_var 2) de_int)))) (dw_or1 (dt_cmp (do_ne o) (de_callB dc_len m_len boot_len (da_cons (de_item (de_var 2) de_int) da_nil)) de_int)))))) (dss_one (ds_ret de_bl)) dss_nil) (dss_cons (ds_if (dt_w (dw_or (dt_not (dt_chain do_leS do_leS de_str (de_item (de_var 2) de_int) de_str)) (dw_or (dt_cmp (do_in o) (de_item (de_var 2) de_int) (de_var 1)) (dw_or1 (dt_not (dt_val (de_call o G_law_is_from_to A_law_is_from_to (by decide) (da_cons (de_item (de_var 2) de_int) (da_cons de_int (da_cons de_int da_nil)))))))))) (dss_one (ds_ret de_bl)) dss_nil) (dss_one (ds_expr (de_methL PySem.F.slot_list_append PySem.F.type_list_append dm_append (de_var 1) (da_cons (de_item (de_var 2) de_int) da_nil))))))) (dss_one (ds_ret de_bl)))))))
theorem ok_law_number {f : Addr} {fd : FuncData} (F0 : L2.Fun K "_law_number" "_law_number" s_law_number f fd) (m_len : mg "len" = none) (m_all : mg "all" = none) (m_int : mg "int" = none) : FnD P w K mg base 1 f fd ["_law_word_here"] F_law_number :=
  dfn F0 sc_law_number (fun _ _ _ _ _ _ o => (dss_cons (ds_set 1 o.nd (de_ife (dt_cmp (do_eq o) (de_slice (de_var 0) dp_none (dp_some de_int)) de_str) (de_slice (de_var 0) (dp_some de_int) dp_none) (de_var 0))) (dss_cons (ds_if (dt_w (dw_or (dt_cmp (do_eq o) (de_var 1) de_str) (dw_or (dt_cmp do_gt (de_callB dc_len m_len boot_len (da_cons (de_var 1) da_nil)) de_int) (dw_or1 (dt_not (dt_val (de_callB (dc_all o) m_all rfl (da_cons (de_frz (dl_lc [("_law_sign", 2)] o (di_txt (de_var 1)) (fun _ _ _ _ _ o => (dg_name 2 o.nd)) (fun _ _ _ _ _ o => dts_nil) (fun _ _ _ _ _ o => (de_cmp (do_in o) (de_var 2) de_str)))) da_nil)))))))) (dss_one (ds_ret de_non)) dss_nil) (dss_cons (ds_if (dt_w (dw_and (dt_cmp (do_eq o) (de_item (de_var 1) de_int) de_str) (dw_and1 (dt_cmp (do_ne o) (de_var 0) de_str)))) (dss_one (ds_ret de_non)) dss_nil) (dss_one (ds_ret (de_callTy dc_intX m_int rfl (da_cons (de_var 0) da_nil))))))))
theorem ok_law_face_text {f : Addr} {fd : FuncData} (F0 : L2.Fun K "_law_face_text" "_law_face_text" s_law_face_text f fd) (m_str : mg "str" = none) : FnD P w K mg base 1 f fd ["_law_face_here"] F_law_face_text :=
  dfn F0 sc_law_face_text (fun _ _ _ _ _ _ o => (dss_one (ds_ret (de_methS PySem.F.slot_str_join PySem.F.type_str_join dm_join de_str (da_cons (de_bin do_add (de_frz (dl_lst (da_cons (de_callTy dc_str m_str PyProof.Rows.boot_str (da_cons (de_item (de_var 0) de_int) da_nil)) da_nil))) (de_frz (dl_lc [("_law_letter", 1), ("_law_breadth", 2)] o (di_seq (de_item (de_var 0) de_int)) (fun _ _ _ _ _ o => (dg_tup o.calm (dgs_cons (dg_name 1 o.nd) (dgs_cons (dg_name 2 o.nd) dgs_nil)))) (fun _ _ _ _ _ o => dts_nil) (fun _ _ _ _ _ o => (de_bin do_add (de_bin do_add (de_var 1) de_str) (de_callTy dc_str m_str PyProof.Rows.boot_str (da_cons (de_var 2) da_nil))))))) da_nil)))))
theorem ok_law_bent {f : Addr} {fd : FuncData} (F0 : L2.Fun K "_law_bent" "_law_bent" s_law_bent f fd) {f_law_take : Addr} {fd_law_take : FuncData} (G_law_take : FnD P w K mg base 1 f_law_take fd_law_take ["_law_box_here", "_law_many"] F_law_take) (A_law_take : At K mg "_law_take" f_law_take fd_law_take ["_law_box_here", "_law_many"]) (m_len : mg "len" = none) : FnD P w K mg base 2 f fd ["_law_box_here", "_law_text"] F_law_bent :=
  dfn F0 sc_law_bent (fun _ _ _ _ _ _ o => (dss_cons (ds_set 2 o.nd de_str) (dss_cons (ds_set 3 o.nd (de_item (de_var 2) (de_call o G_law_take A_law_take (by decide) (da_cons (de_var 0) (da_cons (de_callB dc_len m_len boot_len (da_cons (de_var 2) da_nil)) da_nil))))) (dss_cons (ds_set 4 o.nd (de_call o G_law_take A_law_take (by decide) (da_cons (de_var 0) (da_cons (de_bin do_add (de_callB dc_len m_len boot_len (da_cons (de_var 1) da_nil)) de_int) da_nil)))) (dss_cons (ds_par o.calm o.nd (da_cons (de_slice (de_var 1) dp_none (dp_some (de_var 4))) (da_cons (de_slice (de_var 1) (dp_some (de_var 4)) (dp_some (de_bin do_add (de_var 4) de_int))) da_nil))) (dss_cons (ds_par o.calm o.nd (da_cons (de_slice (de_var 1) (dp_some (de_bin do_add (de_var 4) de_int)) (dp_some (de_bin do_add (de_var 4) de_int))) (da_cons (de_slice (de_var 1) (dp_some (de_bin do_add (de_var 4) de_int)) dp_none) da_nil))) (dss_cons (ds_set 9 o.nd (de_frz (dl_lst (da_cons (de_bin do_add (de_bin do_add (de_bin do_add (de_var 5) (de_var 3)) (de_var 6)) (de_var 8)) (da_cons (de_bin do_add (de_var 5) (de_var 8)) (da_cons (de_bin do_add (de_bin do_add (de_var 5) (de_var 3)) (de_var 8)) (da_cons (de_bin do_add (de_bin do_add (de_bin do_add (de_var 5) (de_var 6)) (de_var 6)) (de_var 8)) da_nil))))))) (dss_cons (ds_set 9 o.nd (de_bin do_add (de_var 9) (de_frz (dl_lst (da_cons (de_bin do_add (de_bin do_add (de_bin do_add (de_var 5) (de_var 7)) (de_var 6)) (de_slice (de_var 1) (dp_some (de_bin do_add (de_var 4) de_int)) dp_none)) (da_cons (de_var 5) (da_cons (de_bin do_add (de_var 6) (de_var 8)) da_nil))))))) (dss_one (ds_ret (de_item (de_var 9) (de_call o G_law_take A_law_take (by decide) (da_cons (de_var 0) (da_cons de_int da_nil))))))))))))))
theorem ok_law_due {f : Addr} {fd : FuncData} (F0 : L2.Fun K "_law_due" "_law_due" s_law_due f fd) {f_law_number : Addr} {fd_law_number : FuncData} (G_law_number : FnD P w K mg base 1 f_law_number fd_law_number ["_law_word_here"] F_law_number) (A_law_number : At K mg "_law_number" f_law_number fd_law_number ["_law_word_here"]) {f_law_is_face : Addr} {fd_law_is_face : FuncData} (G_law_is_face : FnD P w K mg base 2 f_law_is_face fd_law_is_face ["_law_thing"] F_law_is_face) (A_law_is_face : At K mg "_law_is_face" f_law_is_face fd_law_is_face ["_law_thing"]) {f_law_face_text : Addr} {fd_law_face_text : FuncData} (G_law_face_text : FnD P w K mg base 1 f_law_face_text fd_law_face_text ["_law_face_here"] F_law_face_text) (A_law_face_text : At K mg "_law_face_text" f_law_face_text fd_law_face_text ["_law_face_here"]) (m_isinstance : mg "isinstance" = none) (m_str : mg "str" = none) (m_tuple : mg "tuple" = none) (m_repr : mg "repr" = none) : FnD P w K mg base 3 f fd ["_law_text"] F_law_due_v2 :=
  dfn F0 sc_law_due (fun _ _ _ _ _ _ o => (dss_cons (ds_if (dt_not (dt_val (de_isi (T := "str") m_isinstance m_str (de_var 0)))) (dss_one (ds_ret de_str)) dss_nil) (dss_cons (ds_set 1 o.nd (de_frz (dl_methS PySem.F.slot_str_split PySem.F.type_str_split dml_split (de_var 0) (da_cons de_str da_nil)))) (dss_cons (ds_setLcF 2 [("_law_word_here", 4)] o (di_seq (de_sliceA (de_var 1) (dp_some de_int) dp_none)) (fun _ _ _ _ _ o => (dg_name 4 o.nd)) (fun _ _ _ _ _ o => dts_nil) (fun _ _ _ _ _ o => (de_tup (da_cons (de_slice (de_var 4) dp_none (dp_some de_int)) (da_cons (de_call o G_law_number A_law_number (by decide) (da_cons (de_slice (de_var 4) (dp_some de_int) dp_none) da_nil)) da_nil))))) (dss_cons (ds_set 3 o.nd (de_tup (da_cons (de_call o G_law_number A_law_number (by decide) (da_cons (de_item (de_var 1) de_int) da_nil)) (da_cons (de_callTy dc_tuple m_tuple PyProof.Rows.boot_tuple (da_cons (de_var 2) da_nil)) da_nil)))) (dss_cons (ds_if (dt_w (dw_or (dt_not (dt_val (de_call o G_law_is_face A_law_is_face (by decide) (da_cons (de_var 3) da_nil)))) (dw_or1 (dt_cmp (do_ne o) (de_call o G_law_face_text A_law_face_text (by decide) (da_cons (de_var 3) da_nil)) (de_var 0))))) (dss_one (ds_ret de_str)) dss_nil) (dss_one (ds_ret (de_callB (dc_repr o) m_repr PyProof.Rows.boot_repr (da_cons (de_var 3) da_nil))))))))))
theorem ok_law {f : Addr} {fd : FuncData} (F0 : L2.Fun K "law" "law" s_law f fd) {T : Nat} {f_law_box : Addr} {fd_law_box : FuncData} (G_law_box : FnD P w K mg base 1 f_law_box fd_law_box ["_law_script", "_law_k"] F_law_box) (A_law_box : At K mg "_law_box" f_law_box fd_law_box ["_law_script", "_law_k"]) {f_law_face : Addr} {fd_law_face : FuncData} (G_law_face : FnD P w K mg base 2 f_law_face fd_law_face ["_law_box_here", "_law_least", "_law_most"] F_law_face) (A_law_face : At K mg "_law_face" f_law_face fd_law_face ["_law_box_here", "_law_least", "_law_most"]) {f_law_face_text : Addr} {fd_law_face_text : FuncData} (G_law_face_text : FnD P w K mg base 1 f_law_face_text fd_law_face_text ["_law_face_here"] F_law_face_text) (A_law_face_text : At K mg "_law_face_text" f_law_face_text fd_law_face_text ["_law_face_here"]) {f_face_text : Addr} {fd_face_text : FuncData} (G_face_text : FnD P w K mg base 1 f_face_text fd_face_text ["face"] F_face_text) (A_face_text : At K mg "face_text" f_face_text fd_face_text ["face"]) {f_face_read : Addr} {fd_face_read : FuncData} (G_face_read : FnD P w K mg base 5 f_face_read fd_face_read ["text"] F_face_read) (A_face_read : At K mg "face_read" f_face_read fd_face_read ["text"]) {f_law_bent : Addr} {fd_law_bent : FuncData} (G_law_bent : FnD P w K mg base 2 f_law_bent fd_law_bent ["_law_box_here", "_law_text"] F_law_bent) (A_law_bent : At K mg "_law_bent" f_law_bent fd_law_bent ["_law_box_here", "_law_text"]) {f_law_odd : Addr} {fd_law_odd : FuncData} (G_law_odd : FnD P w K mg base 2 f_law_odd fd_law_odd ["_law_box_here", "_law_face_here"] F_law_odd_v1) (A_law_odd : At K mg "_law_odd" f_law_odd fd_law_odd ["_law_box_here", "_law_face_here"]) {f_law_due : Addr} {fd_law_due : FuncData} (G_law_due : FnD P w K mg base 3 f_law_due fd_law_due ["_law_text"] F_law_due_v2) (A_law_due : At K mg "_law_due" f_law_due fd_law_due ["_law_text"]) (m_range : mg "range" = none) (m_len : mg "len" = none) (m_min : mg "min" = none) (m_max : mg "max" = none) (m_repr : mg "repr" = none) (m_list : mg "list" = none) (m_enumerate : mg "enumerate" = none) (m_tuple : mg "tuple" = none) {cL : Nat} (hcL : fd.code = .ref cL) (TB : LamX.TabB base mg cL T) {f_said : Addr} {fd_said : FuncData} (F_said : L2.Fun K "_law_said" "_law_said" s_law_said f_said fd_said) (A_said : At K mg "_law_said" f_said fd_said ["_law_call"]) {f_word : Addr} {fd_word : FuncData} (A_word : At K mg "_law_word" f_word fd_word ["_law_e"]) (hW : ∀ c t, words_.lookup c = some t → WordD P w K mg base 1 f_word c t) {aG : Addr} (mG : mg "GapError" = some (.ref aG)) (hG : ∀ c t, words_.lookup c = some t → PySem.W.exmOne K (clsV mg c) (.ref aG) = some true) : FnD P w K mg base 8 f fd ["_law_script"] (F_law T) :=
  dfnT F0 hcL sc_law (fun _ _ _ _ _ o => (dss_cons (ds_for (vs := [1]) o (di_rng1 m_range (de_callB (dc_max2 o) m_max PyProof.Rows.boot_max (da_cons de_int (da_cons (de_callB (dc_min2 o) m_min PyProof.Rows.boot_min (da_cons (de_callB dc_len m_len boot_len (da_cons (de_var 0) da_nil)) (da_cons de_int da_nil))) da_nil)))) (dg_name 1 o.nd) (dss_cons (ds_set 2 o.nd (de_call o G_law_box A_law_box (by decide) (da_cons (de_var 0) (da_cons (de_var 1) da_nil)))) (dss_cons (ds_set 3 o.nd (de_call o G_law_face A_law_face (by decide) (da_cons (de_var 2) (da_cons de_int (da_cons de_int da_nil))))) (dss_cons (ds_set 4 o.nd (de_call o G_law_face_text A_law_face_text (by decide) (da_cons (de_var 3) da_nil))) (dss_cons (ds_if (dt_w (dw_or (dt_cmp (do_ne o) (de_callB (dc_repr o) m_repr PyProof.Rows.boot_repr (da_cons (de_call o G_face_text A_face_text (by decide) (da_cons (de_var 3) da_nil)) da_nil)) (de_callB (dc_repr o) m_repr PyProof.Rows.boot_repr (da_cons (de_var 4) da_nil))) (dw_or1 (dt_cmp (do_ne o) (de_callB (dc_repr o) m_repr PyProof.Rows.boot_repr (da_cons (de_call o G_face_read A_face_read (by decide) (da_cons (de_var 4) da_nil)) da_nil)) (de_callB (dc_repr o) m_repr PyProof.Rows.boot_repr (da_cons (de_var 3) da_nil)))))) (dss_one (ds_ret de_bl)) dss_nil) (dss_cons (ds_set 5 o.nd (de_thw (dl_lst (da_cons (de_var 4) (da_cons (de_bin do_add (de_var 4) de_str) (da_cons (de_bin do_add de_str (de_var 4)) (da_tok do_add (de_var 4) (dat_cons (det_of (de_bin do_add de_str (de_var 4))) (dat_cons (det_of (de_bin do_add de_str (de_var 4))) (dat_cons (det_repl (de_var 4)) dat_nil)))))))))) (dss_cons (ds_set 5 o.nd (de_thw (dl_cat (de_var 5) (de_frz (dl_lst (da_tok1 (de1_right do_add (de_var 4) (de1_slice (de_var 4) (de1_index (de_var 4)) dp_none)) (dat_cons (det_repl (de_var 4)) (dat_cons (det_of (de_methS0 PySem.F.slot_str_upper PySem.F.type_str_upper dm_upper (de_var 4))) (dat_cons (det_of (de_frz (dl_callTy (dcl_list o) m_list PyProof.Rows.boot_list (da_cons (de_var 4) da_nil)))) dat_nil))))))))) (dss_cons (ds_set 6 o.nd (de_callTy dc_tuple m_tuple PyProof.Rows.boot_tuple (da_cons (de_frz (dl_lc [("_law_place", 11), ("_law_letter", 12)] o (di_enum m_enumerate de_str) (fun _ _ _ _ _ o => (dg_tup o.calm (dgs_cons (dg_name 11 o.nd) (dgs_cons (dg_name 12 o.nd) dgs_nil)))) (fun _ _ _ _ _ o => dts_nil) (fun _ _ _ _ _ o => (de_tup (da_cons (de_var 12) (da_cons (de_bin do_add de_int (de_var 11)) da_nil)))))) da_nil))) (dss_cons (ds_for (vs := [7]) o (di_seq (de_frz (dl_lst (da_cons (de_tup (da_cons de_int (da_cons (de_item (de_var 3) de_int) da_nil))) (da_cons (de_tup (da_cons de_int (da_cons (de_item (de_var 3) de_int) da_nil))) (da_cons (de_tup (da_cons (de_item (de_var 3) de_int) (da_cons (de_bin do_add (de_item (de_var 3) de_int) (de_tup (da_cons (de_tup (da_cons de_str (da_cons de_int da_nil))) (da_cons (de_tup (da_cons de_str (da_cons de_int da_nil))) da_nil)))) da_nil))) (da_cons (de_tup (da_cons de_int (da_cons (de_var 6) da_nil))) da_nil))))))) (dg_name 7 o.nd) (dss_one (ds_expr (de_methL PySem.F.slot_list_append PySem.F.type_list_append dm_append (de_var 5) (da_cons (de_call o G_law_face_text A_law_face_text (by decide) (da_cons (de_var 7) da_nil)) da_nil))))) (dss_cons (ds_for (vs := [8]) o (di_rng1 m_range de_int) (dg_name 8 o.nd) (dss_one (ds_expr (de_methL PySem.F.slot_list_append PySem.F.type_list_append dm_append (de_var 5) (da_cons (de_call o G_law_bent A_law_bent (by decide) (da_cons (de_var 2) (da_cons (de_var 4) da_nil))) da_nil))))) (dss_fix 5 (dss_one (ds_for (vs := [9]) o (di_seq (de_bin do_add (de_var 5) (de_frz (dl_lst (da_cons (de_call o G_law_odd A_law_odd (by decide) (da_cons (de_var 2) (da_cons (de_var 3) da_nil))) (da_cons (de_call o G_law_odd A_law_odd (by decide) (da_cons (de_var 2) (da_cons (de_var 3) da_nil))) da_nil)))))) (dg_name 9 o.nd) (dss_cons (ds_set 10 o.nd (de_callB (dc_reprX o) m_repr PyProof.Rows.boot_repr (da_cons (de_var 9) da_nil))) (dss_one (ds_if (dt_w (dw_or (dt_cmp (do_ne o) (de_said (W := words_) o F_said sc_law_said A_said rfl A_word hW (by decide) mG hG m_repr rfl TB rfl rfl (fun _ _ _ _ _ _ _ o => (de_call o G_face_read A_face_read (by decide) (da_cons (de_var 9) da_nil)))) (de_call o G_law_due A_law_due (by decide) (da_cons (de_var 9) da_nil))) (dw_or1 (dt_cmp (do_ne o) (de_callB (dc_reprX o) m_repr PyProof.Rows.boot_repr (da_cons (de_var 9) da_nil)) (de_var 10))))) (dss_one (ds_ret de_bl)) dss_nil)))))))))))))))) (dss_one (ds_ret de_bl))))
end
theorem all_mk {l : PySem.W.OpenLaw} {w : World} {K : PySem.W.Frag} {h : Heap} {mg : Str → Option Value} {fa : Addr} (X : K.In h) (G : h.Ns mainGlobals mg) (hfa : mg "law" = some (.ref fa))
    {f0 : Addr} {od0 an0 : Option Addr} {sl0 : Array (Option Value)} {oc0 kV0 dc0 pm0 cd0 ct0 : Value}
    {f1 : Addr} {od1 an1 : Option Addr} {sl1 : Array (Option Value)} {oc1 kV1 dc1 pm1 cd1 ct1 : Value}
    {f2 : Addr} {od2 an2 : Option Addr} {sl2 : Array (Option Value)} {oc2 kV2 dc2 pm2 cd2 ct2 : Value}
    {f3 : Addr} {od3 an3 : Option Addr} {sl3 : Array (Option Value)} {oc3 kV3 dc3 pm3 cd3 ct3 : Value}
    {f4 : Addr} {od4 an4 : Option Addr} {sl4 : Array (Option Value)} {oc4 kV4 dc4 pm4 cd4 ct4 : Value}
    {f5 : Addr} {od5 an5 : Option Addr} {sl5 : Array (Option Value)} {oc5 kV5 dc5 pm5 cd5 ct5 : Value}
    {f6 : Addr} {od6 an6 : Option Addr} {sl6 : Array (Option Value)} {oc6 kV6 dc6 pm6 cd6 ct6 : Value}
    {f7 : Addr} {od7 an7 : Option Addr} {sl7 : Array (Option Value)} {oc7 kV7 dc7 pm7 cd7 ct7 : Value}
    {f8 : Addr} {od8 an8 : Option Addr} {sl8 : Array (Option Value)} {oc8 kV8 dc8 pm8 cd8 ct8 : Value}
    {f9 : Addr} {od9 an9 : Option Addr} {sl9 : Array (Option Value)} {oc9 kV9 dc9 pm9 cd9 ct9 : Value}
    {f10 : Addr} {od10 an10 : Option Addr} {sl10 : Array (Option Value)} {oc10 kV10 dc10 pm10 cd10 ct10 : Value}
    {f11 : Addr} {od11 an11 : Option Addr} {sl11 : Array (Option Value)} {oc11 kV11 dc11 pm11 cd11 ct11 : Value}
    {f12 : Addr} {od12 an12 : Option Addr} {sl12 : Array (Option Value)} {oc12 kV12 dc12 pm12 cd12 ct12 : Value}
    {f13 : Addr} {od13 an13 : Option Addr} {sl13 : Array (Option Value)} {oc13 kV13 dc13 pm13 cd13 ct13 : Value}
    {f14 : Addr} {od14 an14 : Option Addr} {sl14 : Array (Option Value)} {oc14 kV14 dc14 pm14 cd14 ct14 : Value}
    {f15 : Addr} {od15 an15 : Option Addr} {sl15 : Array (Option Value)} {oc15 kV15 dc15 pm15 cd15 ct15 : Value}
    {f16 : Addr} {od16 an16 : Option Addr} {sl16 : Array (Option Value)} {oc16 kV16 dc16 pm16 cd16 ct16 : Value}
    {f17 : Addr} {od17 an17 : Option Addr} {sl17 : Array (Option Value)} {oc17 kV17 dc17 pm17 cd17 ct17 : Value}
    {f18 : Addr} {od18 an18 : Option Addr} {sl18 : Array (Option Value)} {oc18 kV18 dc18 pm18 cd18 ct18 : Value}
    {f19 : Addr} {od19 an19 : Option Addr} {sl19 : Array (Option Value)} {oc19 kV19 dc19 pm19 cd19 ct19 : Value}
    {f20 : Addr} {od20 an20 : Option Addr} {sl20 : Array (Option Value)} {oc20 kV20 dc20 pm20 cd20 ct20 : Value}
    {f21 : Addr} {od21 an21 : Option Addr} {sl21 : Array (Option Value)} {oc21 kV21 dc21 pm21 ct21 : Value} {cL T : Addr}
    {a_NoText b_NoText n_NoText m_NoText : Addr} {cd_NoText cb_NoText : ClassData} {d1_NoText d2_NoText d3_NoText d4_NoText : Option Addr} {sl_NoText sb_NoText sn_NoText sm_NoText : Array (Option Value)} {c3_NoText c4_NoText : Value} {es_NoText em_NoText : Array DictEntry} {ep_NoText eq_NoText : Nat} {s1_NoText s2_NoText s3_NoText s4_NoText s6_NoText : Option Value}
    {w_NoLetter : Addr}
    {w_NoGap : Addr}
    {w_NoRows : Addr}
    {w_NoParting : Addr}
    {w_NoTable : Addr}
    {w_NoOpen : Addr}
    {w_NoLine : Addr}
    {w_NoPiece : Addr}
    {w_NoNumber : Addr}
    {w_NoDeed : Addr}
    {w_NoWord : Addr}
    {w_Clash : Addr}
    {w_Kept : Addr}
    {w_TooWide : Addr}
    {w_TooMany : Addr}
    {aG : Addr}
    {t_LETTERS : Tok}
    {t_MOST_LETTERS : Tok}
    {t_FIGURES : Tok}
    (a0 : PySem.W.nsIn K mainGlobals "is_from_to" = some (some (.ref f0))) (l0 : K.lookup f0 = some ⟨oc0, od0, .func (PySem.W.fnOf "is_from_to" "is_from_to" (defArgs s_is_from_to) (defBody s_is_from_to) (defScope s_is_from_to) .none kV0 dc0 pm0 an0 cd0 ct0), sl0⟩) (c0 : PySem.W.codeIn K cd0 "is_from_to" = true) (k0 : PySem.W.keepIn K (.ref f0) = true)
    (a1 : PySem.W.nsIn K mainGlobals "is_letter" = some (some (.ref f1))) (l1 : K.lookup f1 = some ⟨oc1, od1, .func (PySem.W.fnOf "is_letter" "is_letter" (defArgs s_is_letter) (defBody s_is_letter) (defScope s_is_letter) .none kV1 dc1 pm1 an1 cd1 ct1), sl1⟩) (c1 : PySem.W.codeIn K cd1 "is_letter" = true) (k1 : PySem.W.keepIn K (.ref f1) = true)
    (a2 : PySem.W.nsIn K mainGlobals "is_wide" = some (some (.ref f2))) (l2 : K.lookup f2 = some ⟨oc2, od2, .func (PySem.W.fnOf "is_wide" "is_wide" (defArgs s_is_wide) (defBody s_is_wide) (defScope s_is_wide) .none kV2 dc2 pm2 an2 cd2 ct2), sl2⟩) (c2 : PySem.W.codeIn K cd2 "is_wide" = true) (k2 : PySem.W.keepIn K (.ref f2) = true)
    (a3 : PySem.W.nsIn K mainGlobals "is_face" = some (some (.ref f3))) (l3 : K.lookup f3 = some ⟨oc3, od3, .func (PySem.W.fnOf "is_face" "is_face" (defArgs s_is_face) (defBody s_is_face) (defScope s_is_face) .none kV3 dc3 pm3 an3 cd3 ct3), sl3⟩) (c3 : PySem.W.codeIn K cd3 "is_face" = true) (k3 : PySem.W.keepIn K (.ref f3) = true)
    (a4 : PySem.W.nsIn K mainGlobals "number_in" = some (some (.ref f4))) (l4 : K.lookup f4 = some ⟨oc4, od4, .func (PySem.W.fnOf "number_in" "number_in" (defArgs s_number_in) (defBody s_number_in) (defScope s_number_in) .none kV4 dc4 pm4 an4 cd4 ct4), sl4⟩) (c4 : PySem.W.codeIn K cd4 "number_in" = true) (k4 : PySem.W.keepIn K (.ref f4) = true)
    (a5 : PySem.W.nsIn K mainGlobals "face_text" = some (some (.ref f5))) (l5 : K.lookup f5 = some ⟨oc5, od5, .func (PySem.W.fnOf "face_text" "face_text" (defArgs s_face_text) (defBody s_face_text) (defScope s_face_text) .none kV5 dc5 pm5 an5 cd5 ct5), sl5⟩) (c5 : PySem.W.codeIn K cd5 "face_text" = true) (k5 : PySem.W.keepIn K (.ref f5) = true)
    (a6 : PySem.W.nsIn K mainGlobals "face_by" = some (some (.ref f6))) (l6 : K.lookup f6 = some ⟨oc6, od6, .func (PySem.W.fnOf "face_by" "face_by" (defArgs s_face_by) (defBody s_face_by) (defScope s_face_by) .none kV6 dc6 pm6 an6 cd6 ct6), sl6⟩) (c6 : PySem.W.codeIn K cd6 "face_by" = true) (k6 : PySem.W.keepIn K (.ref f6) = true)
    (a7 : PySem.W.nsIn K mainGlobals "face_read" = some (some (.ref f7))) (l7 : K.lookup f7 = some ⟨oc7, od7, .func (PySem.W.fnOf "face_read" "face_read" (defArgs s_face_read) (defBody s_face_read) (defScope s_face_read) .none kV7 dc7 pm7 an7 cd7 ct7), sl7⟩) (c7 : PySem.W.codeIn K cd7 "face_read" = true) (k7 : PySem.W.keepIn K (.ref f7) = true)
    (a8 : PySem.W.nsIn K mainGlobals "_law_box" = some (some (.ref f8))) (l8 : K.lookup f8 = some ⟨oc8, od8, .func (PySem.W.fnOf "_law_box" "_law_box" (defArgs s_law_box) (defBody s_law_box) (defScope s_law_box) .none kV8 dc8 pm8 an8 cd8 ct8), sl8⟩) (c8 : PySem.W.codeIn K cd8 "_law_box" = true) (k8 : PySem.W.keepIn K (.ref f8) = true)
    (a9 : PySem.W.nsIn K mainGlobals "_law_take" = some (some (.ref f9))) (l9 : K.lookup f9 = some ⟨oc9, od9, .func (PySem.W.fnOf "_law_take" "_law_take" (defArgs s_law_take) (defBody s_law_take) (defScope s_law_take) .none kV9 dc9 pm9 an9 cd9 ct9), sl9⟩) (c9 : PySem.W.codeIn K cd9 "_law_take" = true) (k9 : PySem.W.keepIn K (.ref f9) = true)
    (a10 : PySem.W.nsIn K mainGlobals "_law_is_from_to" = some (some (.ref f10))) (l10 : K.lookup f10 = some ⟨oc10, od10, .func (PySem.W.fnOf "_law_is_from_to" "_law_is_from_to" (defArgs s_law_is_from_to) (defBody s_law_is_from_to) (defScope s_law_is_from_to) .none kV10 dc10 pm10 an10 cd10 ct10), sl10⟩) (c10 : PySem.W.codeIn K cd10 "_law_is_from_to" = true) (k10 : PySem.W.keepIn K (.ref f10) = true)
    (a11 : PySem.W.nsIn K mainGlobals "_law_face" = some (some (.ref f11))) (l11 : K.lookup f11 = some ⟨oc11, od11, .func (PySem.W.fnOf "_law_face" "_law_face" (defArgs s_law_face) (defBody s_law_face) (defScope s_law_face) .none kV11 dc11 pm11 an11 cd11 ct11), sl11⟩) (c11 : PySem.W.codeIn K cd11 "_law_face" = true) (k11 : PySem.W.keepIn K (.ref f11) = true)
    (a12 : PySem.W.nsIn K mainGlobals "_law_letters" = some (some (.ref f12))) (l12 : K.lookup f12 = some ⟨oc12, od12, .func (PySem.W.fnOf "_law_letters" "_law_letters" (defArgs s_law_letters) (defBody s_law_letters) (defScope s_law_letters) .none kV12 dc12 pm12 an12 cd12 ct12), sl12⟩) (c12 : PySem.W.codeIn K cd12 "_law_letters" = true) (k12 : PySem.W.keepIn K (.ref f12) = true)
    (a13 : PySem.W.nsIn K mainGlobals "_law_odd" = some (some (.ref f13))) (l13 : K.lookup f13 = some ⟨oc13, od13, .func (PySem.W.fnOf "_law_odd" "_law_odd" (defArgs s_law_odd) (defBody s_law_odd) (defScope s_law_odd) .none kV13 dc13 pm13 an13 cd13 ct13), sl13⟩) (c13 : PySem.W.codeIn K cd13 "_law_odd" = true) (k13 : PySem.W.keepIn K (.ref f13) = true)
    (a14 : PySem.W.nsIn K mainGlobals "_law_is_face" = some (some (.ref f14))) (l14 : K.lookup f14 = some ⟨oc14, od14, .func (PySem.W.fnOf "_law_is_face" "_law_is_face" (defArgs s_law_is_face) (defBody s_law_is_face) (defScope s_law_is_face) .none kV14 dc14 pm14 an14 cd14 ct14), sl14⟩) (c14 : PySem.W.codeIn K cd14 "_law_is_face" = true) (k14 : PySem.W.keepIn K (.ref f14) = true)
    (a15 : PySem.W.nsIn K mainGlobals "_law_number" = some (some (.ref f15))) (l15 : K.lookup f15 = some ⟨oc15, od15, .func (PySem.W.fnOf "_law_number" "_law_number" (defArgs s_law_number) (defBody s_law_number) (defScope s_law_number) .none kV15 dc15 pm15 an15 cd15 ct15), sl15⟩) (c15 : PySem.W.codeIn K cd15 "_law_number" = true) (k15 : PySem.W.keepIn K (.ref f15) = true)
    (a16 : PySem.W.nsIn K mainGlobals "_law_face_text" = some (some (.ref f16))) (l16 : K.lookup f16 = some ⟨oc16, od16, .func (PySem.W.fnOf "_law_face_text" "_law_face_text" (defArgs s_law_face_text) (defBody s_law_face_text) (defScope s_law_face_text) .none kV16 dc16 pm16 an16 cd16 ct16), sl16⟩) (c16 : PySem.W.codeIn K cd16 "_law_face_text" = true) (k16 : PySem.W.keepIn K (.ref f16) = true)
    (a17 : PySem.W.nsIn K mainGlobals "_law_bent" = some (some (.ref f17))) (l17 : K.lookup f17 = some ⟨oc17, od17, .func (PySem.W.fnOf "_law_bent" "_law_bent" (defArgs s_law_bent) (defBody s_law_bent) (defScope s_law_bent) .none kV17 dc17 pm17 an17 cd17 ct17), sl17⟩) (c17 : PySem.W.codeIn K cd17 "_law_bent" = true) (k17 : PySem.W.keepIn K (.ref f17) = true)
    (a18 : PySem.W.nsIn K mainGlobals "_law_due" = some (some (.ref f18))) (l18 : K.lookup f18 = some ⟨oc18, od18, .func (PySem.W.fnOf "_law_due" "_law_due" (defArgs s_law_due) (defBody s_law_due) (defScope s_law_due) .none kV18 dc18 pm18 an18 cd18 ct18), sl18⟩) (c18 : PySem.W.codeIn K cd18 "_law_due" = true) (k18 : PySem.W.keepIn K (.ref f18) = true)
    (a19 : PySem.W.nsIn K mainGlobals "_law_word" = some (some (.ref f19))) (l19 : K.lookup f19 = some ⟨oc19, od19, .func (PySem.W.fnOf "_law_word" "_law_word" (defArgs s_law_word) (defBody s_law_word) (defScope s_law_word) .none kV19 dc19 pm19 an19 cd19 ct19), sl19⟩) (c19 : PySem.W.codeIn K cd19 "_law_word" = true) (k19 : PySem.W.keepIn K (.ref f19) = true)
    (a20 : PySem.W.nsIn K mainGlobals "_law_said" = some (some (.ref f20))) (l20 : K.lookup f20 = some ⟨oc20, od20, .func (PySem.W.fnOf "_law_said" "_law_said" (defArgs s_law_said) (defBody s_law_said) (defScope s_law_said) .none kV20 dc20 pm20 an20 cd20 ct20), sl20⟩) (c20 : PySem.W.codeIn K cd20 "_law_said" = true) (k20 : PySem.W.keepIn K (.ref f20) = true)
    (a21 : PySem.W.nsIn K mainGlobals "law" = some (some (.ref f21))) (l21 : K.lookup f21 = some ⟨oc21, od21, .func (PySem.W.fnOf "law" "law" (defArgs s_law) (defBody s_law) (defScope s_law) .none kV21 dc21 pm21 an21 (.ref cL) ct21), sl21⟩) (c21 : PySem.W.codeIn K (.ref cL) "law" = true) (k21 : PySem.W.keepIn K (.ref f21) = true)
    (xa_NoText : PySem.W.nsIn K mainGlobals "NoText" = some (some (.ref a_NoText))) (h1_NoText : K.lookup a_NoText = some ⟨.type "type", d1_NoText, .cls cd_NoText, sl_NoText⟩) (q1_NoText : cd_NoText.mro = .ref a_NoText :: .ref b_NoText :: veTail) (q2_NoText : sl_NoText.toList = [s1_NoText, s2_NoText, s3_NoText, s4_NoText, some (.builtin "ValueError.__new__"), s6_NoText]) (q3_NoText : cd_NoText.hasDel = false) (q4_NoText : cd_NoText.ns = n_NoText) (h2_NoText : K.lookup n_NoText = some ⟨c3_NoText, d3_NoText, .dict es_NoText ep_NoText, sn_NoText⟩) (q5_NoText : allStr es_NoText = true) (n1_NoText : PySem.W.nsIn K n_NoText "__init__" = some none) (h3_NoText : K.lookup b_NoText = some ⟨.type "type", d2_NoText, .cls cb_NoText, sb_NoText⟩) (q6_NoText : cb_NoText.ns = m_NoText) (h4_NoText : K.lookup m_NoText = some ⟨c4_NoText, d4_NoText, .dict em_NoText eq_NoText, sm_NoText⟩) (q7_NoText : allStr em_NoText = true) (n2_NoText : PySem.W.nsIn K m_NoText "__init__" = some none) (xk_NoText : PySem.W.keepIn K (.ref a_NoText) = true) (xb_NoText : PySem.W.subIn K (.ref a_NoText) (.type "BaseException") = some true) (xt_NoText : PySem.W.typeIn K (.ref a_NoText) = some (.type "type"))
    (xa_NoLetter : PySem.W.nsIn K mainGlobals "NoLetter" = some (some (.ref w_NoLetter)))
    (xa_NoGap : PySem.W.nsIn K mainGlobals "NoGap" = some (some (.ref w_NoGap)))
    (xa_NoRows : PySem.W.nsIn K mainGlobals "NoRows" = some (some (.ref w_NoRows)))
    (xa_NoParting : PySem.W.nsIn K mainGlobals "NoParting" = some (some (.ref w_NoParting)))
    (xa_NoTable : PySem.W.nsIn K mainGlobals "NoTable" = some (some (.ref w_NoTable)))
    (xa_NoOpen : PySem.W.nsIn K mainGlobals "NoOpen" = some (some (.ref w_NoOpen)))
    (xa_NoLine : PySem.W.nsIn K mainGlobals "NoLine" = some (some (.ref w_NoLine)))
    (xa_NoPiece : PySem.W.nsIn K mainGlobals "NoPiece" = some (some (.ref w_NoPiece)))
    (xa_NoNumber : PySem.W.nsIn K mainGlobals "NoNumber" = some (some (.ref w_NoNumber)))
    (xa_NoDeed : PySem.W.nsIn K mainGlobals "NoDeed" = some (some (.ref w_NoDeed)))
    (xa_NoWord : PySem.W.nsIn K mainGlobals "NoWord" = some (some (.ref w_NoWord)))
    (xa_Clash : PySem.W.nsIn K mainGlobals "Clash" = some (some (.ref w_Clash)))
    (xa_Kept : PySem.W.nsIn K mainGlobals "Kept" = some (some (.ref w_Kept)))
    (xa_TooWide : PySem.W.nsIn K mainGlobals "TooWide" = some (some (.ref w_TooWide)))
    (xa_TooMany : PySem.W.nsIn K mainGlobals "TooMany" = some (some (.ref w_TooMany)))
    (xa_GapError : PySem.W.nsIn K mainGlobals "GapError" = some (some (.ref aG)))
    (e0_NoText : PySem.W.findIn K (.ref a_NoText) "__getattribute__" = some (some (.builtin "BaseException.__getattribute__")))
    (e1_NoText : PySem.W.findIn K (.ref a_NoText) "__getattr__" = some none)
    (e2_NoText : PySem.W.subIn K (.ref a_NoText) (.type "BaseException") = some true)
    (e3_NoText : PySem.W.hasDictIn K a_NoText = true)
    (e4_NoText : PySem.W.findIn K (.ref a_NoText) "__class__" = some (some (.builtin "object.__class__")))
    (e5_NoText : PySem.W.specialIn K (.builtin "object.__class__") "__get__" = some (some (.builtin "getset_descriptor.__get__")))
    (e6_NoText : PySem.W.takesIn K (.builtin "object.__class__") = some true)
    (e7_NoText : PySem.W.mroIn K a_NoText (.type "object") = some true)
    (kt_NoText_NoLetter : PySem.W.kitOne K (.ref a_NoText) (.ref w_NoLetter) = some false)
    (kt_NoText_NoGap : PySem.W.kitOne K (.ref a_NoText) (.ref w_NoGap) = some false)
    (kt_NoText_NoRows : PySem.W.kitOne K (.ref a_NoText) (.ref w_NoRows) = some false)
    (kt_NoText_NoParting : PySem.W.kitOne K (.ref a_NoText) (.ref w_NoParting) = some false)
    (kt_NoText_NoTable : PySem.W.kitOne K (.ref a_NoText) (.ref w_NoTable) = some false)
    (kt_NoText_NoOpen : PySem.W.kitOne K (.ref a_NoText) (.ref w_NoOpen) = some false)
    (kt_NoText_NoLine : PySem.W.kitOne K (.ref a_NoText) (.ref w_NoLine) = some false)
    (kt_NoText_NoPiece : PySem.W.kitOne K (.ref a_NoText) (.ref w_NoPiece) = some false)
    (kt_NoText_NoNumber : PySem.W.kitOne K (.ref a_NoText) (.ref w_NoNumber) = some false)
    (kt_NoText_NoDeed : PySem.W.kitOne K (.ref a_NoText) (.ref w_NoDeed) = some false)
    (kt_NoText_NoText : PySem.W.kitOne K (.ref a_NoText) (.ref a_NoText) = some true)
    (kt_NoText_NoWord : PySem.W.kitOne K (.ref a_NoText) (.ref w_NoWord) = some false)
    (kt_NoText_Clash : PySem.W.kitOne K (.ref a_NoText) (.ref w_Clash) = some false)
    (kt_NoText_Kept : PySem.W.kitOne K (.ref a_NoText) (.ref w_Kept) = some false)
    (kt_NoText_TooWide : PySem.W.kitOne K (.ref a_NoText) (.ref w_TooWide) = some false)
    (kt_NoText_TooMany : PySem.W.kitOne K (.ref a_NoText) (.ref w_TooMany) = some false)
    (kv_NoText : PySem.W.kitOne K (.ref a_NoText) (.type "ValueError") = some true)
    (hx_NoText : PySem.W.exmOne K (.ref a_NoText) (.ref aG) = some true)
    (zc_LETTERS : PySem.W.nsIn K mainGlobals "LETTERS" = some (some (.str "abcdefghijklmnopqrstuvwxyz" t_LETTERS)))
    (zc_MOST_LETTERS : PySem.W.nsIn K mainGlobals "MOST_LETTERS" = some (some (.int 10 t_MOST_LETTERS)))
    (zc_FIGURES : PySem.W.nsIn K mainGlobals "FIGURES" = some (some (.str "0123456789" t_FIGURES)))
    (z_isinstance : PySem.W.nsIn K mainGlobals "isinstance" = some none)
    (z_int : PySem.W.nsIn K mainGlobals "int" = some none)
    (z_bool : PySem.W.nsIn K mainGlobals "bool" = some none)
    (z_str : PySem.W.nsIn K mainGlobals "str" = some none)
    (z_len : PySem.W.nsIn K mainGlobals "len" = some none)
    (z_tuple : PySem.W.nsIn K mainGlobals "tuple" = some none)
    (z_set : PySem.W.nsIn K mainGlobals "set" = some none)
    (z_all : PySem.W.nsIn K mainGlobals "all" = some none)
    (z_abs : PySem.W.nsIn K mainGlobals "abs" = some none)
    (z_divmod : PySem.W.nsIn K mainGlobals "divmod" = some none)
    (z_list : PySem.W.nsIn K mainGlobals "list" = some none)
    (z_range : PySem.W.nsIn K mainGlobals "range" = some none)
    (z_repr : PySem.W.nsIn K mainGlobals "repr" = some none)
    (z_min : PySem.W.nsIn K mainGlobals "min" = some none)
    (z_max : PySem.W.nsIn K mainGlobals "max" = some none)
    (z_enumerate : PySem.W.nsIn K mainGlobals "enumerate" = some none)
    (z_ValueError : PySem.W.nsIn K mainGlobals "ValueError" = some none) :
    ∃ fd : FuncData, (∀ (s : Shared) (v : Value), BindsTo s fd ⟨[v], []⟩ [("_law_script", v)]) ∧ ∀ base : Heap, K.In base → base.Ns mainGlobals mg → LamX.TabB base mg cL T → FnD l.prog w K mg base 8 fa fd ["_law_script"] (F_law T) := by
  have e := hfa.symm.trans (PySem.W.mg_of X G a21)
  cases e
  have F0 := fun_mk (st := s_is_from_to) l0 c0 k0
  have F1 := fun_mk (st := s_is_letter) l1 c1 k1
  have F2 := fun_mk (st := s_is_wide) l2 c2 k2
  have F3 := fun_mk (st := s_is_face) l3 c3 k3
  have F4 := fun_mk (st := s_number_in) l4 c4 k4
  have F5 := fun_mk (st := s_face_text) l5 c5 k5
  have F6 := fun_mk (st := s_face_by) l6 c6 k6
  have F7 := fun_mk (st := s_face_read) l7 c7 k7
  have F8 := fun_mk (st := s_law_box) l8 c8 k8
  have F9 := fun_mk (st := s_law_take) l9 c9 k9
  have F10 := fun_mk (st := s_law_is_from_to) l10 c10 k10
  have F11 := fun_mk (st := s_law_face) l11 c11 k11
  have F12 := fun_mk (st := s_law_letters) l12 c12 k12
  have F13 := fun_mk (st := s_law_odd) l13 c13 k13
  have F14 := fun_mk (st := s_law_is_face) l14 c14 k14
  have F15 := fun_mk (st := s_law_number) l15 c15 k15
  have F16 := fun_mk (st := s_law_face_text) l16 c16 k16
  have F17 := fun_mk (st := s_law_bent) l17 c17 k17
  have F18 := fun_mk (st := s_law_due) l18 c18 k18
  have F19 := fun_mk (st := s_law_word) l19 c19 k19
  have F20 := fun_mk (st := s_law_said) l20 c20 k20
  have F21 := fun_mk (st := s_law) l21 c21 k21
  have b0 := F0.binds (ps := ["thing", "least", "most"]) fun _ _ _ _ _ _ us hl => match us, hl with | [_, _, _], _ => rfl
  have A_is_from_to : At K mg "is_from_to" _ _ _ := ⟨PySem.W.mg_of X G a0, k0, b0⟩
  have b1 := F1.binds (ps := ["thing"]) fun _ _ _ _ _ _ us hl => match us, hl with | [_], _ => rfl
  have A_is_letter : At K mg "is_letter" _ _ _ := ⟨PySem.W.mg_of X G a1, k1, b1⟩
  have b2 := F2.binds (ps := ["thing"]) fun _ _ _ _ _ _ us hl => match us, hl with | [_], _ => rfl
  have A_is_wide : At K mg "is_wide" _ _ _ := ⟨PySem.W.mg_of X G a2, k2, b2⟩
  have b3 := F3.binds (ps := ["thing"]) fun _ _ _ _ _ _ us hl => match us, hl with | [_], _ => rfl
  have A_is_face : At K mg "is_face" _ _ _ := ⟨PySem.W.mg_of X G a3, k3, b3⟩
  have b4 := F4.binds (ps := ["word"]) fun _ _ _ _ _ _ us hl => match us, hl with | [_], _ => rfl
  have A_number_in : At K mg "number_in" _ _ _ := ⟨PySem.W.mg_of X G a4, k4, b4⟩
  have b5 := F5.binds (ps := ["face"]) fun _ _ _ _ _ _ us hl => match us, hl with | [_], _ => rfl
  have A_face_text : At K mg "face_text" _ _ _ := ⟨PySem.W.mg_of X G a5, k5, b5⟩
  have b6 := F6.binds (ps := ["text"]) fun _ _ _ _ _ _ us hl => match us, hl with | [_], _ => rfl
  have A_face_by : At K mg "face_by" _ _ _ := ⟨PySem.W.mg_of X G a6, k6, b6⟩
  have b7 := F7.binds (ps := ["text"]) fun _ _ _ _ _ _ us hl => match us, hl with | [_], _ => rfl
  have A_face_read : At K mg "face_read" _ _ _ := ⟨PySem.W.mg_of X G a7, k7, b7⟩
  have b8 := F8.binds (ps := ["_law_script", "_law_k"]) fun _ _ _ _ _ _ us hl => match us, hl with | [_, _], _ => rfl
  have A_law_box : At K mg "_law_box" _ _ _ := ⟨PySem.W.mg_of X G a8, k8, b8⟩
  have b9 := F9.binds (ps := ["_law_box_here", "_law_many"]) fun _ _ _ _ _ _ us hl => match us, hl with | [_, _], _ => rfl
  have A_law_take : At K mg "_law_take" _ _ _ := ⟨PySem.W.mg_of X G a9, k9, b9⟩
  have b10 := F10.binds (ps := ["_law_thing", "_law_least", "_law_most"]) fun _ _ _ _ _ _ us hl => match us, hl with | [_, _, _], _ => rfl
  have A_law_is_from_to : At K mg "_law_is_from_to" _ _ _ := ⟨PySem.W.mg_of X G a10, k10, b10⟩
  have b11 := F11.binds (ps := ["_law_box_here", "_law_least", "_law_most"]) fun _ _ _ _ _ _ us hl => match us, hl with | [_, _, _], _ => rfl
  have A_law_face : At K mg "_law_face" _ _ _ := ⟨PySem.W.mg_of X G a11, k11, b11⟩
  have b12 := F12.binds (ps := ["_law_face_here"]) fun _ _ _ _ _ _ us hl => match us, hl with | [_], _ => rfl
  have A_law_letters : At K mg "_law_letters" _ _ _ := ⟨PySem.W.mg_of X G a12, k12, b12⟩
  have b13 := F13.binds (ps := ["_law_box_here", "_law_face_here"]) fun _ _ _ _ _ _ us hl => match us, hl with | [_, _], _ => rfl
  have A_law_odd : At K mg "_law_odd" _ _ _ := ⟨PySem.W.mg_of X G a13, k13, b13⟩
  have b14 := F14.binds (ps := ["_law_thing"]) fun _ _ _ _ _ _ us hl => match us, hl with | [_], _ => rfl
  have A_law_is_face : At K mg "_law_is_face" _ _ _ := ⟨PySem.W.mg_of X G a14, k14, b14⟩
  have b15 := F15.binds (ps := ["_law_word_here"]) fun _ _ _ _ _ _ us hl => match us, hl with | [_], _ => rfl
  have A_law_number : At K mg "_law_number" _ _ _ := ⟨PySem.W.mg_of X G a15, k15, b15⟩
  have b16 := F16.binds (ps := ["_law_face_here"]) fun _ _ _ _ _ _ us hl => match us, hl with | [_], _ => rfl
  have A_law_face_text : At K mg "_law_face_text" _ _ _ := ⟨PySem.W.mg_of X G a16, k16, b16⟩
  have b17 := F17.binds (ps := ["_law_box_here", "_law_text"]) fun _ _ _ _ _ _ us hl => match us, hl with | [_, _], _ => rfl
  have A_law_bent : At K mg "_law_bent" _ _ _ := ⟨PySem.W.mg_of X G a17, k17, b17⟩
  have b18 := F18.binds (ps := ["_law_text"]) fun _ _ _ _ _ _ us hl => match us, hl with | [_], _ => rfl
  have A_law_due : At K mg "_law_due" _ _ _ := ⟨PySem.W.mg_of X G a18, k18, b18⟩
  have b19 := F19.binds (ps := ["_law_e"]) fun _ _ _ _ _ _ us hl => match us, hl with | [_], _ => rfl
  have A_law_word : At K mg "_law_word" _ _ _ := ⟨PySem.W.mg_of X G a19, k19, b19⟩
  have b20 := F20.binds (ps := ["_law_call"]) fun _ _ _ _ _ _ us hl => match us, hl with | [_], _ => rfl
  have A_law_said : At K mg "_law_said" _ _ _ := ⟨PySem.W.mg_of X G a20, k20, b20⟩
  have b21 := F21.binds (ps := ["_law_script"]) fun _ _ _ _ _ _ us hl => match us, hl with | [_], _ => rfl
  have A_law : At K mg "law" _ _ _ := ⟨PySem.W.mg_of X G a21, k21, b21⟩
  have X_NoText : ExcAt K mg "NoText" a_NoText := ⟨PySem.W.mg_of X G xa_NoText, exc_two h1_NoText q1_NoText q2_NoText q3_NoText q4_NoText h2_NoText q5_NoText n1_NoText h3_NoText q6_NoText h4_NoText q7_NoText n2_NoText rfl, xk_NoText, xb_NoText, xt_NoText⟩
  have c_LETTERS := PySem.W.mg_of X G zc_LETTERS
  have c_MOST_LETTERS := PySem.W.mg_of X G zc_MOST_LETTERS
  have c_FIGURES := PySem.W.mg_of X G zc_FIGURES
  have m_isinstance := PySem.W.mg_none_of X G z_isinstance
  have m_int := PySem.W.mg_none_of X G z_int
  have m_bool := PySem.W.mg_none_of X G z_bool
  have m_str := PySem.W.mg_none_of X G z_str
  have m_len := PySem.W.mg_none_of X G z_len
  have m_tuple := PySem.W.mg_none_of X G z_tuple
  have m_set := PySem.W.mg_none_of X G z_set
  have m_all := PySem.W.mg_none_of X G z_all
  have m_abs := PySem.W.mg_none_of X G z_abs
  have m_divmod := PySem.W.mg_none_of X G z_divmod
  have m_list := PySem.W.mg_none_of X G z_list
  have m_range := PySem.W.mg_none_of X G z_range
  have m_repr := PySem.W.mg_none_of X G z_repr
  have m_min := PySem.W.mg_none_of X G z_min
  have m_max := PySem.W.mg_none_of X G z_max
  have m_enumerate := PySem.W.mg_none_of X G z_enumerate
  have m_ValueError := PySem.W.mg_none_of X G z_ValueError
  refine ⟨PySem.W.fnOf "law" "law" (defArgs s_law) (defBody s_law) (defScope s_law) .none kV21 dc21 pm21 an21 (.ref cL) ct21, fun s v => .of_eq rfl, fun base _ _ TB => ?_⟩
  have hD_NoText : clsV mg (Str.ofString "NoText") = .ref a_NoText := by unfold clsV; rw [PySem.W.mg_of X G xa_NoText]; rfl
  have W_NoText : WordD l.prog w K mg base 1 f19 (Str.ofString "NoText") (Str.ofString "! text") := ok_word F19 b19 m_isinstance m_ValueError "NoText" hD_NoText ⟨e0_NoText, e1_NoText, e2_NoText, e3_NoText, e4_NoText, e5_NoText, e6_NoText, e7_NoText⟩ (PySem.W.mg_of X G xa_NoLetter) (kt_NoText_NoLetter.trans (by decide +kernel)) (PySem.W.mg_of X G xa_NoGap) (kt_NoText_NoGap.trans (by decide +kernel)) (PySem.W.mg_of X G xa_NoRows) (kt_NoText_NoRows.trans (by decide +kernel)) (PySem.W.mg_of X G xa_NoParting) (kt_NoText_NoParting.trans (by decide +kernel)) (PySem.W.mg_of X G xa_NoTable) (kt_NoText_NoTable.trans (by decide +kernel)) (PySem.W.mg_of X G xa_NoOpen) (kt_NoText_NoOpen.trans (by decide +kernel)) (PySem.W.mg_of X G xa_NoLine) (kt_NoText_NoLine.trans (by decide +kernel)) (PySem.W.mg_of X G xa_NoPiece) (kt_NoText_NoPiece.trans (by decide +kernel)) (PySem.W.mg_of X G xa_NoNumber) (kt_NoText_NoNumber.trans (by decide +kernel)) (PySem.W.mg_of X G xa_NoDeed) (kt_NoText_NoDeed.trans (by decide +kernel)) (PySem.W.mg_of X G xa_NoText) (kt_NoText_NoText.trans (by decide +kernel)) (PySem.W.mg_of X G xa_NoWord) (kt_NoText_NoWord.trans (by decide +kernel)) (PySem.W.mg_of X G xa_Clash) (kt_NoText_Clash.trans (by decide +kernel)) (PySem.W.mg_of X G xa_Kept) (kt_NoText_Kept.trans (by decide +kernel)) (PySem.W.mg_of X G xa_TooWide) (kt_NoText_TooWide.trans (by decide +kernel)) (PySem.W.mg_of X G xa_TooMany) (kt_NoText_TooMany.trans (by decide +kernel)) (kv_NoText.trans (by decide +kernel)) res_NoText
  have hW : ∀ c t, words_.lookup c = some t → WordD l.prog w K mg base 1 f19 c t := fun c t h => by
    have m := PySem.mem_of_lookup h
    simp only [words_, List.mem_cons, List.not_mem_nil, or_false, Prod.mk.injEq] at m
    rcases m with ⟨rfl, rfl⟩
    · exact W_NoText
  have hG : ∀ c t, words_.lookup c = some t → PySem.W.exmOne K (clsV mg c) (.ref aG) = some true := fun c t h => by
    have m := PySem.mem_of_lookup h
    simp only [words_, List.mem_cons, List.not_mem_nil, or_false, Prod.mk.injEq] at m
    rcases m with ⟨rfl, rfl⟩
    · rw [hD_NoText]; exact hx_NoText
  have G_is_from_to := ok_is_from_to (P := l.prog) (w := w) (mg := mg) (base := base) F0 m_isinstance m_int m_bool
  have G_is_letter := ok_is_letter (P := l.prog) (w := w) (mg := mg) (base := base) F1 m_isinstance m_str m_len c_LETTERS
  have G_is_wide := ok_is_wide (P := l.prog) (w := w) (mg := mg) (base := base) F2 G_is_from_to A_is_from_to
  have G_is_face := ok_is_face (P := l.prog) (w := w) (mg := mg) (base := base) F3 G_is_from_to A_is_from_to G_is_letter A_is_letter G_is_wide A_is_wide m_isinstance m_tuple m_len m_set c_MOST_LETTERS
  have G_number_in := ok_number_in (P := l.prog) (w := w) (mg := mg) (base := base) F4 m_len m_all m_int m_str c_FIGURES
  have G_face_text := ok_face_text (P := l.prog) (w := w) (mg := mg) (base := base) F5 m_str
  have G_face_by := ok_face_by (P := l.prog) (w := w) (mg := mg) (base := base) F6 G_number_in A_number_in G_is_face A_is_face G_face_text A_face_text m_tuple
  have G_face_read := ok_face_read (P := l.prog) (w := w) (mg := mg) (base := base) F7 G_face_by A_face_by m_isinstance m_str X_NoText
  have G_law_box := ok_law_box (P := l.prog) (w := w) (mg := mg) (base := base) F8 m_len m_abs
  have G_law_take := ok_law_take (P := l.prog) (w := w) (mg := mg) (base := base) F9 m_divmod
  have G_law_is_from_to := ok_law_is_from_to (P := l.prog) (w := w) (mg := mg) (base := base) F10 m_isinstance m_int m_bool
  have G_law_face := ok_law_face (P := l.prog) (w := w) (mg := mg) (base := base) F11 G_law_take A_law_take m_list m_range m_len m_tuple
  have G_law_letters := ok_law_letters (P := l.prog) (w := w) (mg := mg) (base := base) F12 
  have G_law_odd := ok_law_odd (P := l.prog) (w := w) (mg := mg) (base := base) F13 G_law_letters A_law_letters G_law_take A_law_take m_len
  have G_law_is_face := ok_law_is_face (P := l.prog) (w := w) (mg := mg) (base := base) F14 G_law_is_from_to A_law_is_from_to m_isinstance m_tuple m_len m_str
  have G_law_number := ok_law_number (P := l.prog) (w := w) (mg := mg) (base := base) F15 m_len m_all m_int
  have G_law_face_text := ok_law_face_text (P := l.prog) (w := w) (mg := mg) (base := base) F16 m_str
  have G_law_bent := ok_law_bent (P := l.prog) (w := w) (mg := mg) (base := base) F17 G_law_take A_law_take m_len
  have G_law_due := ok_law_due (P := l.prog) (w := w) (mg := mg) (base := base) F18 G_law_number A_law_number G_law_is_face A_law_is_face G_law_face_text A_law_face_text m_isinstance m_str m_tuple m_repr
  have G_law := ok_law (P := l.prog) (w := w) (mg := mg) (base := base) F21 G_law_box A_law_box G_law_face A_law_face G_law_face_text A_law_face_text G_face_text A_face_text G_face_read A_face_read G_law_bent A_law_bent G_law_odd A_law_odd G_law_due A_law_due m_range m_len m_min m_max m_repr m_list m_enumerate m_tuple rfl TB F20 A_law_said A_law_word hW (PySem.W.mg_of X G xa_GapError) hG
  exact G_law
end DV.k76

set_option maxHeartbeats 4000000
namespace DV
open PySem
/-! What a data-level program promises: plain rules. -/
def R.wp {α : Type} (r : R α) (P : α → Sto → Prop) (E : Str → Sto → Prop) : Prop :=
  match r with
  | .ok a S => P a S
  | .ex c S => E c S
  | .no => False
structure K where
  nx : En → Sto → Prop
  rt : D → Sto → Prop := fun _ _ => False
  bk : En → Sto → Prop := fun _ _ => False
  ct : En → Sto → Prop := fun _ _ => False
  ex : Str → Sto → Prop := fun _ _ => False
def F.wp (f : F) (N : K) : Prop :=
  match f with
  | .nx σ S => N.nx σ S
  | .rt d S => N.rt d S
  | .bk σ S => N.bk σ S
  | .ct σ S => N.ct σ S
  | .ex c S => N.ex c S
  | .no => False
abbrev noE : Str → Sto → Prop := fun _ _ => False
section
variable {α β : Type} {P : α → Sto → Prop} {E : Str → Sto → Prop} {N : K} {σ : En} {S : Sto}
@[simp ↓] theorem wp_ok (a : α) (S : Sto) : (R.ok a S).wp P E = P a S := id rfl
@[simp ↓] theorem wp_ex (c : Str) (S : Sto) : (R.ex c S : R α).wp P E = E c S := id rfl
@[simp ↓] theorem wp_no : (R.no : R α).wp P E = False := id rfl
@[simp ↓] theorem wp_nx : (F.nx σ S).wp N = N.nx σ S := id rfl
@[simp ↓] theorem wp_rt (d : D) : (F.rt d S).wp N = N.rt d S := id rfl
@[simp ↓] theorem wp_bk : (F.bk σ S).wp N = N.bk σ S := id rfl
@[simp ↓] theorem wp_ct : (F.ct σ S).wp N = N.ct σ S := id rfl
@[simp ↓] theorem wp_fex (c : Str) : (F.ex c S).wp N = N.ex c S := id rfl
@[simp ↓] theorem wp_fno : F.no.wp N = False := id rfl
@[simp ↓] theorem wp_bind (r : R β) (k : β → Sto → R α) : (r.bind k).wp P E = r.wp (fun a S => (k a S).wp P E) E := by cases r <;> rfl
@[simp ↓] theorem wp_run (r : R β) (k : β → Sto → F) : (r.run k).wp N = r.wp (fun a S => (k a S).wp N) N.ex := by cases r <;> rfl
theorem R.wp.mono {r : R α} {P' : α → Sto → Prop} {E' : Str → Sto → Prop} (h : r.wp P E) (hp : ∀ a S, P a S → P' a S) (he : ∀ c S, E c S → E' c S) : r.wp P' E' := by
  cases r with
  | ok a S => exact hp _ _ h
  | ex c S => exact he _ _ h
  | no => exact h
theorem R.wp.to {r : R α} {P' : α → Sto → Prop} (h : r.wp P noE) (hp : ∀ a S, P a S → P' a S) : r.wp P' E := h.mono hp fun _ _ h => h.elim
theorem R.wp.out {r : R α} (h : r.wp P noE) : ∃ a S, r = .ok a S ∧ P a S := by
  cases r with
  | ok a S => exact ⟨a, S, rfl, h⟩
  | ex c S => exact h.elim
  | no => exact h.elim
theorem F.wp.mono {f : F} {N' : K} (h : f.wp N) (h1 : ∀ σ S, N.nx σ S → N'.nx σ S) (h2 : ∀ d S, N.rt d S → N'.rt d S) (h3 : ∀ σ S, N.bk σ S → N'.bk σ S) (h4 : ∀ σ S, N.ct σ S → N'.ct σ S) (h5 : ∀ c S, N.ex c S → N'.ex c S) : f.wp N' := by
  cases f with
  | nx σ S => exact h1 _ _ h
  | rt d S => exact h2 _ _ h
  | bk σ S => exact h3 _ _ h
  | ct σ S => exact h4 _ _ h
  | ex c S => exact h5 _ _ h
  | no => exact h
/-! ### statements -/
@[simp ↓] theorem wp_seq (a b : Sx) : (seqS a b σ S).wp N = (a σ S).wp { N with nx := fun σ S => (b σ S).wp N } := by
  unfold seqS
  cases a σ S <;> rfl
@[simp ↓] theorem wp_pass : (passS σ S).wp N = N.nx σ S := id rfl
@[simp ↓] theorem wp_brk : (brkS σ S).wp N = N.bk σ S := id rfl
@[simp ↓] theorem wp_cnt : (cntS σ S).wp N = N.ct σ S := id rfl
@[simp ↓] theorem wp_asg (e : Ex) (g : Tg) : (asgS e g σ S).wp N = (e σ S).wp (fun d S1 => (g d σ S1).wp (fun σ2 S2 => N.nx σ2 S2) N.ex) N.ex := by
  unfold asgS
  rw [wp_run]
  congr 1
  funext d S1
  rw [wp_run]
  rfl
@[simp ↓] theorem wp_par (is : List Nat) (a : Ax) : (parS is a σ S).wp N = (a σ S).wp (fun ds S1 => N.nx (setAll is ds σ) S1) N.ex := by
  unfold parS
  rw [wp_run]
  rfl
@[simp ↓] theorem wp_expr (e : Ex) : (exprS e σ S).wp N = (e σ S).wp (fun _ S1 => N.nx σ S1) N.ex := by
  unfold exprS
  rw [wp_run]
  rfl
@[simp ↓] theorem wp_ret (e : Ex) : (retS e σ S).wp N = (e σ S).wp (fun d S1 => N.rt d S1) N.ex := by
  unfold retS
  rw [wp_run]
  rfl
@[simp ↓] theorem wp_if (c : Tx) (a b : Sx) : (ifS c a b σ S).wp N = (c σ S).wp (fun k S1 => (if k = true then a σ S1 else b σ S1).wp N) N.ex := by
  unfold ifS
  rw [wp_run]
theorem wp_ite {f g : F} {p : Prop} [Decidable p] : (if p then f else g).wp N = if p then f.wp N else g.wp N := by split <;> rfl
theorem wp_iteR {f g : R α} {p : Prop} [Decidable p] : (if p then f else g).wp P E = if p then f.wp P E else g.wp P E := by split <;> rfl
@[simp ↓] theorem wp_raise (c : Str) : (raiseS c σ S).wp N = N.ex c S := id rfl
@[simp ↓] theorem wp_for (it : It) (g : Tg) (b : Sx) : (forS it g b σ S).wp N = (it σ S).wp (fun xs S1 => (forL g b xs σ S1).wp N) N.ex := by
  unfold forS
  rw [wp_run]
/-- a walk: I of what has been walked -/
theorem wp_forL {g : Tg} {b : Sx} {xs : List D} (I : List D → En → Sto → Prop) (h0 : I [] σ S)
    (hs : ∀ pre x post σ S, xs = pre ++ x :: post → I pre σ S → (g x σ S).wp (fun σ1 S1 => (b σ1 S1).wp { N with nx := fun σ2 S2 => I (pre ++ [x]) σ2 S2, ct := fun σ2 S2 => I (pre ++ [x]) σ2 S2, bk := fun σ2 S2 => N.nx σ2 S2 }) N.ex)
    (he : ∀ σ S, I xs σ S → N.nx σ S) : (forL g b xs σ S).wp N := by
  have key : ∀ (post pre : List D) (σ : En) (S : Sto), xs = pre ++ post → I pre σ S → (forL g b post σ S).wp N := by
    intro post
    induction post with
    | nil =>
      intro pre σ S e h
      rw [List.append_nil] at e
      subst e
      exact he σ S h
    | cons x post ih =>
      intro pre σ S e h
      have z := hs pre x post σ S e h
      have e2 : xs = (pre ++ [x]) ++ post := by rw [e]; simp
      unfold forL
      cases hg : g x σ S with
      | ok σ1 S1 =>
        rw [hg] at z
        have z2 : (b σ1 S1).wp _ := z
        simp only
        cases hb : b σ1 S1 with
        | nx σ2 S2 => rw [hb] at z2; exact ih _ σ2 S2 e2 z2
        | ct σ2 S2 => rw [hb] at z2; exact ih _ σ2 S2 e2 z2
        | bk σ2 S2 => rw [hb] at z2; exact z2
        | rt d S2 => rw [hb] at z2; exact z2
        | ex c S2 => rw [hb] at z2; exact z2
        | no => rw [hb] at z2; exact z2
      | ex c S1 => rw [hg] at z; exact z
      | no => rw [hg] at z; exact z
  exact key xs [] σ S rfl h0
/-- a comprehension that may change the store: I of what has been walked and what has been made -/
theorem wp_lcL {g : Tg} {c : Tx} {e : Ex} {xs : List D} {P : List D → Sto → Prop} {E : Str → Sto → Prop} (I : List D → List D → Sto → Prop) (h0 : I [] [] S)
    (hs : ∀ pre x post acc S, xs = pre ++ x :: post → I pre acc S → (g x σ S).wp (fun σ1 S1 => (c σ1 S1).wp (fun k S2 => if k = true then (e σ1 S2).wp (fun d S3 => I (pre ++ [x]) (acc ++ [d]) S3) noE else I (pre ++ [x]) acc S2) noE) noE)
    (he : ∀ acc S, I xs acc S → P acc S) : (lcL g c e σ xs S).wp P E := by
  have key : ∀ (post pre acc : List D) (S : Sto), xs = pre ++ post → I pre acc S → (lcL g c e σ post S).wp (fun ds S' => I xs (acc ++ ds) S') E := by
    intro post
    induction post with
    | nil =>
      intro pre acc S e h
      rw [List.append_nil] at e
      subst e
      show I xs (acc ++ []) S
      rw [List.append_nil]
      exact h
    | cons x post ih =>
      intro pre acc S e1 h
      have z := hs pre x post acc S e1 h
      have e2 : xs = (pre ++ [x]) ++ post := by rw [e1]; simp
      unfold lcL
      cases hg : g x σ S with
      | ex c S1 => rw [hg] at z; exact z.elim
      | no => rw [hg] at z; exact z.elim
      | ok σ1 S1 =>
        rw [hg, wp_ok] at z
        simp only
        cases hc : c σ1 S1 with
        | ex c S1 => rw [hc] at z; exact z.elim
        | no => rw [hc] at z; exact z.elim
        | ok k S2 =>
          rw [hc, wp_ok] at z
          simp only
          cases k with
          | false =>
            simp only [Bool.false_eq_true, if_false] at z ⊢
            exact ih _ _ _ e2 z
          | true =>
            simp only [if_true] at z ⊢
            cases hd : e σ1 S2 with
            | ex c S1 => rw [hd] at z; exact z.elim
            | no => rw [hd] at z; exact z.elim
            | ok d S3 =>
              rw [hd, wp_ok] at z
              simp only
              rw [wp_bind]
              refine (ih _ _ _ e2 z).mono (fun ds S' h => ?_) fun _ _ h => h
              show I xs (acc ++ d :: ds) S'
              have : acc ++ d :: ds = acc ++ [d] ++ ds := by simp
              rw [this]
              exact h
  exact (key xs [] [] S rfl h0).mono (fun a S h => he _ _ h) fun _ _ h => h
/-! ### expressions -/
@[simp ↓] theorem wp_cons (e : Ex) (r : Ax) {P : List D → Sto → Prop} : (consA e r σ S).wp P E = (e σ S).wp (fun d S1 => (r σ S1).wp (fun ds S2 => P (d :: ds) S2) E) E := by
  unfold consA
  rw [wp_bind]
  congr 1
  funext d S1
  rw [wp_bind]
  rfl
@[simp ↓] theorem wp_nil {P : List D → Sto → Prop} : (nilA σ S).wp P E = P [] S := id rfl
@[simp ↓] theorem wp_c (d : PyData) {P : D → Sto → Prop} : (cE d σ S).wp P E = P (.py d) S := id rfl
@[simp ↓] theorem wp_op (g : D → D → Sto → R D) (a b : Ex) {P : D → Sto → Prop} : (opE g a b σ S).wp P E = (a σ S).wp (fun x S1 => (b σ S1).wp (fun y S2 => (g x y S2).wp P E) E) E := by
  unfold opE
  rw [wp_bind]
  congr 1
  funext d S1
  rw [wp_bind]
@[simp ↓] theorem wp_op1 (g : D → Sto → R D) (a : Ex) {P : D → Sto → Prop} : (op1 g a σ S).wp P E = (a σ S).wp (fun x S1 => (g x S1).wp P E) E := by
  unfold op1
  rw [wp_bind]
@[simp ↓] theorem wp_call (g : List D → Sto → R D) (a : Ax) {P : D → Sto → Prop} : (callE g a σ S).wp P E = (a σ S).wp (fun ds S1 => (g ds S1).wp P E) E := by
  unfold callE
  rw [wp_bind]
@[simp ↓] theorem wp_callL (g : List D → Sto → R (List D)) (a : Ax) {P : List D → Sto → Prop} : (callL g a σ S).wp P E = (a σ S).wp (fun ds S1 => (g ds S1).wp P E) E := by
  unfold callL
  rw [wp_bind]
@[simp ↓] theorem wp_methL (g : D → List D → Sto → R D) (o : Ex) (a : Ax) {P : D → Sto → Prop} : (methL g o a σ S).wp P E = (o σ S).wp (fun x S1 => if lsOk S1 x = true then (a σ S1).wp (fun ds S2 => (g x ds S2).wp P E) E else False) E := by
  unfold methL
  rw [wp_bind]
  congr 1
  funext d S1
  rw [wp_iteR, wp_bind]
  rfl
@[simp ↓] theorem wp_tup (a : Ax) {P : D → Sto → Prop} : (tupE a σ S).wp P E = (a σ S).wp (fun ds S1 => match pysOf ds with
  | some ps => P (.py (.tuple ps)) S1
  | none => False) E := by
  unfold tupE
  rw [wp_bind]
  congr 1
  funext d S1
  cases pysOf d <;> rfl
@[simp ↓] theorem wp_frz (a : Ax) {P : D → Sto → Prop} : (frzE a σ S).wp P E = (a σ S).wp (fun ds S1 => match pysOf ds with
  | some ps => P (.py (.list ps)) S1
  | none => False) E := by
  unfold frzE frz
  rw [wp_bind]
  congr 1
  funext d S1
  cases pysOf d <;> rfl
@[simp ↓] theorem wp_thw (a : Ax) {P : D → Sto → Prop} : (thwE a σ S).wp P E = (a σ S).wp (fun ds S1 => P (.obj S1.length) (S1 ++ [.lst ds])) E := by
  unfold thwE thw
  rw [wp_bind]
  rfl
@[simp ↓] theorem wp_lcX (it : It) (vs : List Nat) (g : Tg) (c : Tx) (e : Ex) {P : List D → Sto → Prop} : (lcX it vs g c e σ S).wp P E = (it σ S).wp (fun xs S1 => (lcL g c e (wipeD σ vs) xs S1).wp P E) E := by
  unfold lcX
  rw [wp_bind]
@[simp ↓] theorem wp_val (a : Ex) {P : Bool → Sto → Prop} : (valT a σ S).wp P E = (a σ S).wp (fun x S1 => ∃ k, x = .py (.bool k) ∧ P k S1) E := by
  unfold valT
  rw [wp_bind]
  congr 1
  funext d S1
  split
  · exact propext ⟨fun h => ⟨_, rfl, h⟩, fun ⟨k, e, h⟩ => by cases e; exact h⟩
  · rename_i hn
    exact propext ⟨fun h => h.elim, fun ⟨k, e, h⟩ => (hn k e).elim⟩
@[simp ↓] theorem wp_andT (a b : Tx) {P : Bool → Sto → Prop} : (andT a b σ S).wp P E = (a σ S).wp (fun k S1 => if k = true then (b σ S1).wp P E else P false S1) E := by
  unfold andT
  rw [wp_bind]
  congr 1
  funext d S1
  split <;> rfl
@[simp ↓] theorem wp_orT (a b : Tx) {P : Bool → Sto → Prop} : (orT a b σ S).wp P E = (a σ S).wp (fun k S1 => if k = true then P true S1 else (b σ S1).wp P E) E := by
  unfold orT
  rw [wp_bind]
  congr 1
  funext d S1
  split <;> rfl
@[simp ↓] theorem wp_notT (a : Tx) {P : Bool → Sto → Prop} : (notT a σ S).wp P E = (a σ S).wp (fun k S1 => P (!k) S1) E := by
  unfold notT
  rw [wp_bind]
  rfl
@[simp ↓] theorem wp_yes {P : Bool → Sto → Prop} : (yesT σ S).wp P E = P true S := id rfl
@[simp ↓] theorem wp_ifE (c : Tx) (a b : Ex) {P : D → Sto → Prop} : (ifE c a b σ S).wp P E = (c σ S).wp (fun k S1 => if k = true then (a σ S1).wp P E else (b σ S1).wp P E) E := by
  unfold ifE
  rw [wp_bind]
  congr 1
  funext d S1
  split <;> rfl
@[simp] theorem var_zero (d : D) (r : En) : varE 0 (some d :: r) S = .ok d S := id rfl
@[simp] theorem var_succ (i : Nat) (x : Option D) (r : En) : varE (i + 1) (x :: r) S = varE i r S := id rfl
@[simp ↓] theorem wp_nm (i : Nat) (d : D) {P : En → Sto → Prop} : (nmG i d σ S).wp P E = P (σ.set i (some d)) S := id rfl
@[simp ↓] theorem wp_tupG (n : Nat) (r : List D → En → Sto → R En) (ps : List PyData) {P : En → Sto → Prop} : (tupG n r (.py (.tuple ps)) σ S).wp P E = if ps.length = n then (r (ps.map .py) σ S).wp P E else False := by
  unfold tupG
  rw [wp_iteR]
  rfl
@[simp ↓] theorem wp_consG (g : Tg) (r : List D → En → Sto → R En) (d : D) (ds : List D) {P : En → Sto → Prop} : (consG g r (d :: ds) σ S).wp P E = (g d σ S).wp (fun σ1 S1 => (r ds σ1 S1).wp P E) E := by
  unfold consG
  rw [wp_bind]
@[simp ↓] theorem wp_nilG {P : En → Sto → Prop} : (nilG [] σ S).wp P E = P σ S := id rfl
def seqD : D → Option (List PyData)
  | .py (.list ds) => some ds
  | .py (.tuple ds) => some ds
  | _ => none
@[simp] theorem seqD_list (ds : List PyData) : seqD (.py (.list ds)) = some ds := id rfl
@[simp] theorem seqD_tuple (ds : List PyData) : seqD (.py (.tuple ds)) = some ds := id rfl
@[simp ↓] theorem wp_seqI (e : Ex) {P : List D → Sto → Prop} : (seqI e σ S).wp P E = (e σ S).wp (fun d S1 => ∃ ds, seqD d = some ds ∧ P (ds.map .py) S1) E := by
  unfold seqI
  rw [wp_bind]
  congr 1
  funext d S1
  rcases d with d | n | n
  · cases d
    case list ds => exact propext ⟨fun h => ⟨ds, rfl, h⟩, fun ⟨_, e, h⟩ => by cases e; exact h⟩
    case tuple ds => exact propext ⟨fun h => ⟨ds, rfl, h⟩, fun ⟨_, e, h⟩ => by cases e; exact h⟩
    all_goals exact propext ⟨fun h => h.elim, fun ⟨_, e, _⟩ => by cases e⟩
  · exact propext ⟨fun h => h.elim, fun ⟨_, e, _⟩ => by cases e⟩
  · exact propext ⟨fun h => h.elim, fun ⟨_, e, _⟩ => by cases e⟩
@[simp ↓] theorem wp_rng1 (e : Ex) {P : List D → Sto → Prop} : (rng1I e σ S).wp P E = (e σ S).wp (fun d S1 => ∃ j, d = .py (.int j) ∧ (-(2 ^ 62) ≤ j ∧ j ≤ 16777216) ∧ P (rngV 0 j.toNat) S1) E := by
  unfold rng1I
  rw [wp_bind]
  congr 1
  funext d S1
  split
  · rw [wp_iteR]
    split
    · rename_i h
      exact propext ⟨fun p => ⟨_, rfl, h, p⟩, fun ⟨j, e, _, p⟩ => by cases e; exact p⟩
    · rename_i h
      exact propext ⟨fun p => p.elim, fun ⟨j, e, h', p⟩ => by cases e; exact h h'⟩
  · rename_i hn
    exact propext ⟨fun h => h.elim, fun ⟨k, e, _, h⟩ => (hn k e).elim⟩
@[simp ↓] theorem wp_zip (a b : Ex) {P : List D → Sto → Prop} : (zipI a b σ S).wp P E = (a σ S).wp (fun x S1 => (b σ S1).wp (fun y S2 => ∃ xs ys, pyWalk S2 x = some xs ∧ pyWalk S2 y = some ys ∧ P ((xs.zip ys).map fun p => D.py (.tuple [p.1, p.2])) S2) E) E := by
  unfold zipI
  rw [wp_bind]
  congr 1
  funext d S1
  rw [wp_bind]
  congr 1
  funext d2 S2
  split
  · rename_i h1 h2
    exact propext ⟨fun p => ⟨_, _, h1, h2, p⟩, fun ⟨_, _, e1, e2, p⟩ => by rw [h1] at e1; rw [h2] at e2; cases e1; cases e2; exact p⟩
  · rename_i hn
    exact propext ⟨fun h => h.elim, fun ⟨_, _, e1, e2, _⟩ => (hn _ _ e1 e2).elim⟩
/-! ### operators upon known values -/
section
variable {i j : Int} {S : Sto}
@[simp] theorem addD_int : addD (.py (.int i)) (.py (.int j)) S = .ok (.py (.int (i + j))) S := id rfl
@[simp] theorem subD_int : subD (.py (.int i)) (.py (.int j)) S = .ok (.py (.int (i - j))) S := id rfl
@[simp] theorem mulD_l (h : -(2 ^ 64) < i ∧ i < 2 ^ 64) : mulD (.py (.int i)) (.py (.int j)) S = .ok (.py (.int (i * j))) S := if_pos (.inl h)
@[simp] theorem mulD_r (h : -(2 ^ 64) < j ∧ j < 2 ^ 64) : mulD (.py (.int i)) (.py (.int j)) S = .ok (.py (.int (i * j))) S := if_pos (.inr h)
@[simp] theorem fdivD_int (h : 0 < j ∧ j < 1073741824) : fdivD (.py (.int i)) (.py (.int j)) S = .ok (.py (.int (i / j))) S := if_pos h
@[simp] theorem modD_int (h : 0 < j) : modD (.py (.int i)) (.py (.int j)) S = .ok (.py (.int (i % j))) S := if_pos h
@[simp] theorem divmodD_int (h : 0 < j ∧ j < 1073741824) : divmodD [.py (.int i), .py (.int j)] S = .ok (.py (.tuple [.int (i / j), .int (i % j)])) S := if_pos h
@[simp] theorem negD_int : negD (.py (.int i)) S = .ok (.py (.int (-i))) S := id rfl
@[simp] theorem eqD_int : eqD (.py (.int i)) (.py (.int j)) S = .ok (.py (.bool (decide (i = j)))) S := id rfl
@[simp] theorem neD_int : neD (.py (.int i)) (.py (.int j)) S = .ok (.py (.bool (!decide (i = j)))) S := id rfl
@[simp] theorem eqD_str {x y : Str} : eqD (.py (.str x)) (.py (.str y)) S = .ok (.py (.bool (decide (x = y)))) S := id rfl
@[simp] theorem neD_str {x y : Str} : neD (.py (.str x)) (.py (.str y)) S = .ok (.py (.bool (!decide (x = y)))) S := id rfl
@[simp] theorem ltD_int : ltD (.py (.int i)) (.py (.int j)) S = .ok (.py (.bool (decide (i < j)))) S := id rfl
@[simp] theorem cmpI_int {p : Int → Int → Bool} : cmpI p (.py (.int i)) (.py (.int j)) S = .ok (.py (.bool (p i j))) S := id rfl
@[simp] theorem lenD_list {ds : List PyData} : lenD [.py (.list ds)] S = .ok (.py (.int (ds.length : Nat))) S := by simp [lenD, seqOf]
@[simp] theorem lenD_tuple {ds : List PyData} : lenD [.py (.tuple ds)] S = .ok (.py (.int (ds.length : Nat))) S := by simp [lenD, seqOf]
theorem lenD_obj {n : Nat} {ds : List D} (h : S[n]? = some (.lst ds)) : lenD [.obj n] S = .ok (.py (.int (ds.length : Nat))) S := by simp [lenD, seqOf, h]
@[simp] theorem tupleD_list {ds : List PyData} : tupleD [.py (.list ds)] S = .ok (.py (.tuple ds)) S := by simp [tupleD, seqOf]
theorem tupleD_obj {n : Nat} {ds : List PyData} (h : S[n]? = some (.lst (ds.map .py))) : tupleD [.obj n] S = .ok (.py (.tuple ds)) S := by simp [tupleD, seqOf, h]
@[simp] theorem listD_list {ds : List PyData} : listD [.py (.list ds)] S = .ok (ds.map .py) S := by simp [listD, seqOf]
@[simp] theorem max2D_int : max2D [.py (.int i), .py (.int j)] S = .ok (.py (.int (if j > i then j else i))) S := id rfl
@[simp] theorem min2D_int : min2D [.py (.int i), .py (.int j)] S = .ok (.py (.int (if j < i then j else i))) S := id rfl
@[simp] theorem absD_int : absD [.py (.int i)] S = .ok (.py (.int (if i < 0 then -i else i))) S := id rfl
theorem atI_nat {α : Type} {xs : List α} (k : Nat) (x : α) (h : xs[k]? = some x) : L2.atI xs (k : Int) = some x := L2.atI_nat h
theorem itemD_list {ds : List PyData} (k : Nat) {d : PyData} (h : ds[k]? = some d) : itemD (.py (.list ds)) (.py (.int k)) S = .ok (.py d) S := by
  simp [itemD, seqOf, atI_nat k (D.py d) (xs := ds.map .py) (by simp [h])]
theorem itemD_tuple {ds : List PyData} (k : Nat) {d : PyData} (h : ds[k]? = some d) : itemD (.py (.tuple ds)) (.py (.int k)) S = .ok (.py d) S := by
  simp [itemD, seqOf, atI_nat k (D.py d) (xs := ds.map .py) (by simp [h])]
theorem itemD_obj {n : Nat} {ds : List D} (hn : S[n]? = some (.lst ds)) (k : Nat) {d : D} (h : ds[k]? = some d) : itemD (.obj n) (.py (.int k)) S = .ok d S := by
  simp [itemD, seqOf, hn, atI_nat k d h]
@[simp] theorem itemD_l0 {a : PyData} {r : List PyData} : itemD (.py (.list (a :: r))) (.py (.int 0)) S = .ok (.py a) S := itemD_list 0 rfl
@[simp] theorem itemD_l1 {a b : PyData} {r : List PyData} : itemD (.py (.list (a :: b :: r))) (.py (.int 1)) S = .ok (.py b) S := itemD_list 1 rfl
@[simp] theorem itemD_t0 {a : PyData} {r : List PyData} : itemD (.py (.tuple (a :: r))) (.py (.int 0)) S = .ok (.py a) S := itemD_tuple 0 rfl
@[simp] theorem itemD_t1 {a b : PyData} {r : List PyData} : itemD (.py (.tuple (a :: b :: r))) (.py (.int 1)) S = .ok (.py b) S := itemD_tuple 1 rfl
@[simp] theorem itemD_t2 {a b c : PyData} {r : List PyData} : itemD (.py (.tuple (a :: b :: c :: r))) (.py (.int 2)) S = .ok (.py c) S := itemD_tuple 2 rfl
theorem appendD_obj {n : Nat} {ds : List D} {d : D} (h : S[n]? = some (.lst ds)) (hl : ds.length < sizeLine) : appendD (.obj n) [d] S = .ok (.py .none) (S.set n (.lst (ds ++ [d]))) := by simp [appendD, h, hl]
@[simp] theorem lsOk_list {ds : List PyData} : lsOk S (.py (.list ds)) = true := id rfl
theorem lsOk_obj {n : Nat} {ds : List D} (h : S[n]? = some (.lst ds)) : lsOk S (.obj n) = true := by simp [lsOk, h]
@[simp] theorem pw_list {ds : List PyData} : pyWalk S (.py (.list ds)) = some ds := id rfl
@[simp] theorem pw_tuple {ds : List PyData} : pyWalk S (.py (.tuple ds)) = some ds := id rfl
end
@[simp] theorem pysOf_comp {α : Type} (f : α → PyData) (l : List α) : pysOf (l.map (D.py ∘ f)) = some (l.map f) := by
  rw [← List.map_map, pysOf_map]
@[simp] theorem pysOf_fun {α : Type} (f : α → PyData) (l : List α) : pysOf (l.map fun x => D.py (f x)) = some (l.map f) := pysOf_comp f l
theorem listD_str {x : Str} {S : Sto} (h : x.length ≤ sizeLine) : listD [.py (.str x)] S = .ok (x.cps.toList.map fun c => D.py (.str ⟨#[c]⟩)) S := if_pos h
@[simp] theorem setAll_nil (ds : List D) (σ : En) : setAll [] ds σ = σ := id rfl
@[simp] theorem setAll_cons (i : Nat) (is : List Nat) (d : D) (ds : List D) (σ : En) : setAll (i :: is) (d :: ds) σ = setAll is ds (σ.set i (some d)) := id rfl
@[simp] theorem wipe_nil (σ : En) : wipeD σ [] = σ := id rfl
@[simp] theorem wipe_cons (σ : En) (v : Nat) (vs : List Nat) : wipeD σ (v :: vs) = (wipeD σ vs).set v none := id rfl
theorem popD_at {n : Nat} {ds : List D} {i : Int} {d : D} {S : Sto} (h : S[n]? = some (.lst ds)) (hi : 0 ≤ i ∧ i < 2 ^ 62) (hd : ds[i.toNat]? = some d) : popD (.obj n) [.py (.int i)] S = .ok d (S.set n (.lst (ds.eraseIdx i.toNat))) := by
  simp only [popD, h, hd]
  rw [if_pos hi]
theorem wp_eq {α : Type} {r : R α} {v : α} {S : Sto} (h : r.wp (fun a T => a = v ∧ T = S) noE) : r = .ok v S := by
  obtain ⟨a, T, e, rfl, rfl⟩ := h.out
  exact e
theorem wp_of {α : Type} {r : R α} {v : α} {S : Sto} {P : α → Sto → Prop} {E : Str → Sto → Prop} (h : r = .ok v S) (q : P v S) : r.wp P E := by rw [h]; exact q
theorem slot_any {σ l : En} {i : Nat} (h : σ.set i none = l) : ∃ y, σ = l.set i y := by
  subst h
  by_cases hi : i < σ.length
  · refine ⟨σ[i], ?_⟩
    rw [List.set_set, List.set_getElem_self]
  · exact ⟨none, by rw [List.set_set, List.set_eq_of_length_le (by omega)]⟩
theorem itemD_listI {ds : List PyData} {i : Int} {d : PyData} {S : Sto} (h0 : 0 ≤ i) (h : ds[i.toNat]? = some d) : itemD (.py (.list ds)) (.py (.int i)) S = .ok (.py d) S := by
  obtain ⟨k, rfl⟩ : ∃ k : Nat, i = k := ⟨i.toNat, by omega⟩
  exact itemD_list k h
theorem itemD_tupleI {ds : List PyData} {i : Int} {d : PyData} {S : Sto} (h0 : 0 ≤ i) (h : ds[i.toNat]? = some d) : itemD (.py (.tuple ds)) (.py (.int i)) S = .ok (.py d) S := by
  obtain ⟨k, rfl⟩ : ∃ k : Nat, i = k := ⟨i.toNat, by omega⟩
  exact itemD_tuple k h
/-! ### an item is set -/
def ixP (x k d : D) (σ : En) (S2 : Sto) : R En := match x, k with
  | .obj n, .py (.int k) => (match S2[n]? with
    | some (.lst ds) => (match L2.ixN ds.length k with
      | some j => .ok σ (S2.set n (.lst (ds.set j d)))
      | none => .no)
    | _ => .no)
  | _, _ => .no
@[simp ↓] theorem wp_ix (o i : Ex) (d : D) {σ : En} {S : Sto} {P : En → Sto → Prop} {E : Str → Sto → Prop} : (ixG o i d σ S).wp P E = (o σ S).wp (fun x S1 => (i σ S1).wp (fun k S2 => (ixP x k d σ S2).wp P E) E) E := by
  unfold ixG
  rw [wp_bind]
  congr 1
  funext x S1
  rw [wp_bind]
  rfl
theorem ixP_obj {n k : Nat} {ds : List D} {d : D} {σ : En} {S : Sto} (h : S[n]? = some (.lst ds)) (hk : k < ds.length) : ixP (.obj n) (.py (.int k)) d σ S = .ok σ (S.set n (.lst (ds.set k d))) := by
  have : L2.ixN ds.length (k : Int) = some k := by simp [L2.ixN]; omega
  simp [ixP, h, this]
theorem ixP_0 {n : Nat} {a : D} {ds : List D} {d : D} {σ : En} {S : Sto} (h : S[n]? = some (.lst (a :: ds))) : ixP (.obj n) (.py (.int 0)) d σ S = .ok σ (S.set n (.lst (d :: ds))) := ixP_obj (k := 0) h (by simp)
theorem ixP_1 {n : Nat} {a b : D} {ds : List D} {d : D} {σ : En} {S : Sto} (h : S[n]? = some (.lst (a :: b :: ds))) : ixP (.obj n) (.py (.int 1)) d σ S = .ok σ (S.set n (.lst (a :: d :: ds))) := ixP_obj (k := 1) h (by simp)
theorem wp_mid {f : Sx} {σ : En} {S : Sto} {N : K} (Mid : En → En → Sto → Prop) (h : (f σ S).wp { N with nx := Mid σ }) (q : ∀ σ' S', Mid σ σ' S' → N.nx σ' S') : (f σ S).wp N :=
  F.wp.mono h q (fun _ _ h => h) (fun _ _ h => h) (fun _ _ h => h) fun _ _ h => h
@[simp] theorem exists_bool {P : Bool → Prop} {d : Bool} : (∃ k, D.py (.bool d) = D.py (.bool k) ∧ P k) = P d := propext ⟨fun ⟨k, e, h⟩ => by cases e; exact h, fun h => ⟨d, rfl, h⟩⟩
@[simp ↓] theorem wp_zip3 (a b c : Ex) {σ : En} {S : Sto} {P : List D → Sto → Prop} {E : Str → Sto → Prop} : (zip3I a b c σ S).wp P E = (a σ S).wp (fun x S1 => (b σ S1).wp (fun y S2 => (c σ S2).wp (fun z S3 => ∃ xs ys zs, pyWalk S3 x = some xs ∧ pyWalk S3 y = some ys ∧ pyWalk S3 z = some zs ∧ P ((xs.zip (ys.zip zs)).map fun p => D.py (.tuple [p.1, p.2.1, p.2.2])) S3) E) E) E := by
  unfold zip3I
  rw [wp_bind]
  congr 1
  funext d S1
  rw [wp_bind]
  congr 1
  funext d2 S2
  rw [wp_bind]
  congr 1
  funext d3 S3
  split
  · rename_i h1 h2 h3
    exact propext ⟨fun p => ⟨_, _, _, h1, h2, h3, p⟩, fun ⟨_, _, _, e1, e2, e3, p⟩ => by rw [h1] at e1; rw [h2] at e2; rw [h3] at e3; cases e1; cases e2; cases e3; exact p⟩
  · rename_i hn
    exact propext ⟨fun h => h.elim, fun ⟨_, _, _, e1, e2, e3, _⟩ => (hn _ _ _ e1 e2 e3).elim⟩
@[simp] theorem zip3_mmm {α β γ : Type} (f : α → PyData) (g : β → PyData) (h : γ → PyData) (xs : List α) (ys : List β) (zs : List γ) : ((xs.map f).zip ((ys.map g).zip (zs.map h))).map (fun p => D.py (.tuple [p.1, p.2.1, p.2.2])) = (xs.zip (ys.zip zs)).map fun p => D.py (.tuple [f p.1, g p.2.1, h p.2.2]) := by
  rw [List.zip_map, List.zip_map, List.map_map]
  rfl
@[simp ↓] theorem wp_forL_nil {g : Tg} {b : Sx} {σ : En} {S : Sto} {N : K} : (forL g b [] σ S).wp N = N.nx σ S := id rfl
@[simp ↓] theorem wp_forL_cons {g : Tg} {b : Sx} {σ : En} {S : Sto} {N : K} {x : D} {xs : List D} : (forL g b (x :: xs) σ S).wp N =
    (g x σ S).wp (fun σ1 S1 => (b σ1 S1).wp { N with nx := fun σ2 S2 => (forL g b xs σ2 S2).wp N, ct := fun σ2 S2 => (forL g b xs σ2 S2).wp N, bk := fun σ2 S2 => N.nx σ2 S2 }) N.ex := by
  rw [forL]
  cases g x σ S with
  | ok σ1 S1 =>
    simp only [wp_ok]
    cases b σ1 S1 <;> rfl
  | ex c S1 => rfl
  | no => rfl
@[simp ↓] theorem wp_enum (a : Ex) {σ : En} {S : Sto} {P : List D → Sto → Prop} {E : Str → Sto → Prop} : (enumI a σ S).wp P E = (a σ S).wp (fun x S1 => ∃ xs, pyWalk S1 x = some xs ∧ P (xs.zipIdx.map fun p => D.py (.tuple [.int (p.2 : Nat), p.1])) S1) E := by
  unfold enumI
  rw [wp_bind]
  congr 1
  funext d S1
  split
  · rename_i h1
    exact propext ⟨fun p => ⟨_, h1, p⟩, fun ⟨_, e1, p⟩ => by rw [h1] at e1; cases e1; exact p⟩
  · rename_i hn
    exact propext ⟨fun h => h.elim, fun ⟨_, e1, _⟩ => by rw [hn] at e1; cases e1⟩
@[simp] theorem enum_m {α : Type} (f : α → PyData) (xs : List α) : ((xs.map f).zipIdx).map (fun p => D.py (.tuple [.int (p.2 : Nat), p.1])) = xs.zipIdx.map fun p => D.py (.tuple [.int (p.2 : Nat), f p.1]) := by
  rw [List.zipIdx_map, List.map_map]
  rfl
section
variable {a b c : Ex} {σ : En} {S : Sto} {P : D → Sto → Prop} {E : Str → Sto → Prop}
@[simp ↓] theorem wp_andE : (andE a b σ S).wp P E = (a σ S).wp (fun x S1 => ∃ k, x = .py (.bool k) ∧ if k = true then (b σ S1).wp P E else P (.py (.bool false)) S1) E := by
  unfold andE
  rw [wp_bind]
  congr 1
  funext x S1
  rcases x with d | n | n
  · cases d
    case bool k => cases k <;> exact propext ⟨fun h => ⟨_, rfl, by simpa using h⟩, fun ⟨k, e, h⟩ => by cases e; simpa using h⟩
    all_goals exact propext ⟨fun h => h.elim, fun ⟨k, e, _⟩ => by cases e⟩
  · exact propext ⟨fun h => h.elim, fun ⟨k, e, _⟩ => by cases e⟩
  · exact propext ⟨fun h => h.elim, fun ⟨k, e, _⟩ => by cases e⟩
@[simp ↓] theorem wp_orE : (orE a b σ S).wp P E = (a σ S).wp (fun x S1 => ∃ k, x = .py (.bool k) ∧ if k = true then P (.py (.bool true)) S1 else (b σ S1).wp P E) E := by
  unfold orE
  rw [wp_bind]
  congr 1
  funext x S1
  rcases x with d | n | n
  · cases d
    case bool k => cases k <;> exact propext ⟨fun h => ⟨_, rfl, by simpa using h⟩, fun ⟨k, e, h⟩ => by cases e; simpa using h⟩
    all_goals exact propext ⟨fun h => h.elim, fun ⟨k, e, _⟩ => by cases e⟩
  · exact propext ⟨fun h => h.elim, fun ⟨k, e, _⟩ => by cases e⟩
  · exact propext ⟨fun h => h.elim, fun ⟨k, e, _⟩ => by cases e⟩
@[simp ↓] theorem wp_notE : (notE a σ S).wp P E = (a σ S).wp (fun x S1 => ∃ k, x = .py (.bool k) ∧ P (.py (.bool (!k))) S1) E := by
  unfold notE
  rw [wp_bind]
  congr 1
  funext x S1
  split
  · exact propext ⟨fun h => ⟨_, rfl, h⟩, fun ⟨k, e, h⟩ => by cases e; exact h⟩
  · rename_i hn
    exact propext ⟨fun h => h.elim, fun ⟨k, e, _⟩ => (hn k e).elim⟩
@[simp ↓] theorem wp_chain {g g' : D → D → Sto → R D} : (chainE g g' a b c σ S).wp P E = (a σ S).wp (fun x S1 => (b σ S1).wp (fun y S2 => (g x y S2).wp (fun z S3 => ∃ k, z = .py (.bool k) ∧ if k = true then (c σ S3).wp (fun w S4 => (g' y w S4).wp P E) E else P (.py (.bool false)) S3) E) E) E := by
  unfold chainE
  rw [wp_bind]
  congr 1
  funext x S1
  rw [wp_bind]
  congr 1
  funext y S2
  rw [wp_bind]
  congr 1
  funext z S3
  rcases z with d | n | n
  · cases d
    case bool k => cases k <;> exact propext ⟨fun h => ⟨_, rfl, by simpa [wp_bind] using h⟩, fun ⟨k, e, h⟩ => by cases e; simpa [wp_bind] using h⟩
    all_goals exact propext ⟨fun h => h.elim, fun ⟨k, e, _⟩ => by cases e⟩
  · exact propext ⟨fun h => h.elim, fun ⟨k, e, _⟩ => by cases e⟩
  · exact propext ⟨fun h => h.elim, fun ⟨k, e, _⟩ => by cases e⟩
@[simp] theorem isiD_none {T : String} : isiD T (.py .none) S = .ok (.py (.bool (isB "NoneType" T))) S := id rfl
@[simp] theorem isiD_bool {T : String} {k : Bool} : isiD T (.py (.bool k)) S = .ok (.py (.bool (isB "bool" T))) S := id rfl
@[simp] theorem isiD_int {T : String} {i : Int} : isiD T (.py (.int i)) S = .ok (.py (.bool (isB "int" T))) S := id rfl
@[simp] theorem isiD_str {T : String} {x : Str} : isiD T (.py (.str x)) S = .ok (.py (.bool (isB "str" T))) S := id rfl
@[simp] theorem isiD_list {T : String} {x : List PyData} : isiD T (.py (.list x)) S = .ok (.py (.bool (isB "list" T))) S := id rfl
@[simp] theorem isiD_tuple {T : String} {x : List PyData} : isiD T (.py (.tuple x)) S = .ok (.py (.bool (isB "tuple" T))) S := id rfl
@[simp] theorem isNon_int {i : Int} : isNon (.int i) = false := id rfl
@[simp] theorem isNon_none : isNon .none = true := id rfl
@[simp] theorem isND_py {d : PyData} : isND (.py d) (.py .none) S = .ok (.py (.bool (isNon d))) S := id rfl
@[simp] theorem notND_py {d : PyData} : notND (.py d) (.py .none) S = .ok (.py (.bool (!isNon d))) S := id rfl
theorem boolsOf_map : ∀ bs : List Bool, boolsOf (bs.map .bool) = some bs
  | [] => rfl
  | b :: bs => by
    show (boolsOf (bs.map .bool)).map (b :: ·) = _
    rw [boolsOf_map bs]
    rfl
theorem intsOf_map : ∀ bs : List Int, intsOf (bs.map .int) = some bs
  | [] => rfl
  | b :: bs => by
    show (intsOf (bs.map .int)).map (b :: ·) = _
    rw [intsOf_map bs]
    rfl
@[simp] theorem allD_bools {bs : List Bool} : allD [.py (.list (bs.map .bool))] S = .ok (.py (.bool (bs.all id))) S := by simp only [allD, boolsOf_map]
@[simp] theorem anyD_bools {bs : List Bool} : anyD [.py (.list (bs.map .bool))] S = .ok (.py (.bool (bs.any id))) S := by simp only [anyD, boolsOf_map]
@[simp] theorem sumD_ints {bs : List Int} : sumD [.py (.list (bs.map .int))] S = .ok (.py (.int bs.sum)) S := by simp only [sumD, intsOf_map]
end
/-! ### the last list of the store -/
section
variable {S : Sto} {o o' : O} {ds : List D} {d : D} {σ : En}
@[simp] theorem last_get : (S ++ [o])[S.length]? = some o := by simp
@[simp] theorem last_set : (S ++ [o]).set S.length o' = S ++ [o'] := by simp [List.set_append_right]
theorem appendD_last (h : ds.length < sizeLine) : appendD (.obj S.length) [d] (S ++ [.lst ds]) = .ok (.py .none) (S ++ [.lst (ds ++ [d])]) := by
  rw [appendD_obj last_get h, last_set]
@[simp] theorem lsOk_last : lsOk (S ++ [.lst ds]) (.obj S.length) = true := lsOk_obj last_get
theorem tupleD_last {ps : List PyData} : tupleD [.obj S.length] (S ++ [.lst (ps.map .py)]) = .ok (.py (.tuple ps)) (S ++ [.lst (ps.map .py)]) := tupleD_obj last_get
/-- S and one list more -/
def stL (S : Sto) (ds : List PyData) : Sto := S ++ [.lst (ds.map .py)]
theorem stL_nil : S ++ [.lst []] = stL S [] := rfl
@[simp] theorem stL_get {ds : List PyData} : (stL S ds)[S.length]? = some (.lst (ds.map .py)) := last_get
@[simp] theorem stL_lsOk {ds : List PyData} : lsOk (stL S ds) (.obj S.length) = true := lsOk_last
theorem stL_app {ds : List PyData} {d : PyData} (h : ds.length < sizeLine) : appendD (.obj S.length) [.py d] (stL S ds) = .ok (.py .none) (stL S (ds ++ [d])) := by
  unfold stL
  rw [appendD_last (by simpa using h)]
  simp
@[simp] theorem stL_tuple {ds : List PyData} : tupleD [.obj S.length] (stL S ds) = .ok (.py (.tuple ds)) (stL S ds) := tupleD_last
@[simp] theorem stL_len {ds : List PyData} : lenD [.obj S.length] (stL S ds) = .ok (.py (.int (ds.length : Nat))) (stL S ds) := by rw [lenD_obj stL_get, List.length_map]
@[simp] theorem stL_length {ds : List PyData} : (stL S ds).length = S.length + 1 := by simp [stL]
def lstAt (S : Sto) (n : Nat) : Option (List D) := match S[n]? with
  | some (.lst ds) => some ds
  | _ => none
theorem lstAt_of {n : Nat} (h : S[n]? = some (.lst ds)) : lstAt S n = some ds := by simp [lstAt, h]
theorem lstAt_get {n : Nat} (h : lstAt S n = some ds) : S[n]? = some (.lst ds) := by
  unfold lstAt at h
  split at h
  · rename_i ds' e
    cases h
    exact e
  · cases h
@[simp] theorem stL_lstAt {es : List PyData} : lstAt (stL S es) S.length = some (es.map .py) := lstAt_of stL_get
@[simp ↓] theorem wp_ext (e : Ex) (a : Ax) {P : D → Sto → Prop} {E : Str → Sto → Prop} : (extE e a σ S).wp P E = (e σ S).wp (fun x S1 => ∃ n es, x = .obj n ∧ lstAt S1 n = some es ∧ (a σ S1).wp (fun ds S2 => ∃ es2, lstAt S2 n = some es2 ∧ es2.length + ds.length ≤ sizeLine ∧ P (.py .none) (S2.set n (.lst (es2 ++ ds)))) E) E := by
  unfold extE
  rw [wp_bind]
  congr 1
  funext x S1
  rcases x with x | n | n
  · exact propext ⟨fun h => h.elim, fun ⟨_, _, e, _⟩ => by cases e⟩
  · cases h1 : S1[n]? with
    | none => exact propext ⟨fun h => by simp only [h1] at h; exact h.elim, fun ⟨_, _, e, h2, _⟩ => by cases e; rw [lstAt_get h2] at h1; cases h1⟩
    | some o =>
      cases o with
      | gone => exact propext ⟨fun h => by simp only [h1] at h; exact h.elim, fun ⟨_, _, e, h2, _⟩ => by cases e; rw [lstAt_get h2] at h1; cases h1⟩
      | tab _ _ => exact propext ⟨fun h => by simp only [h1] at h; exact h.elim, fun ⟨_, _, e, h2, _⟩ => by cases e; rw [lstAt_get h2] at h1; cases h1⟩
      | dt _ => exact propext ⟨fun h => by simp only [h1] at h; exact h.elim, fun ⟨_, _, e, h2, _⟩ => by cases e; rw [lstAt_get h2] at h1; cases h1⟩
      | dk _ => exact propext ⟨fun h => by simp only [h1] at h; exact h.elim, fun ⟨_, _, e, h2, _⟩ => by cases e; rw [lstAt_get h2] at h1; cases h1⟩
      | ins _ _ => exact propext ⟨fun h => by simp only [h1] at h; exact h.elim, fun ⟨_, _, e, h2, _⟩ => by cases e; rw [lstAt_get h2] at h1; cases h1⟩
      | tpl _ => exact propext ⟨fun h => by simp only [h1] at h; exact h.elim, fun ⟨_, _, e, h2, _⟩ => by cases e; rw [lstAt_get h2] at h1; cases h1⟩
      | lst es =>
        simp only [h1, wp_bind]
        refine propext ⟨fun h => ⟨n, es, rfl, lstAt_of h1, h.mono (fun ds S2 h => ?_) fun _ _ h => h⟩, fun ⟨m, es', e, h2, h⟩ => ?_⟩
        · cases h3 : S2[n]? with
          | none => simp only [h3] at h; exact h.elim
          | some o =>
            cases o with
            | gone => simp only [h3] at h; exact h.elim
            | tab _ _ => simp only [h3] at h; exact h.elim
            | dt _ => simp only [h3] at h; exact h.elim
            | dk _ => simp only [h3] at h; exact h.elim
            | ins _ _ => simp only [h3] at h; exact h.elim
            | tpl _ => simp only [h3] at h; exact h.elim
            | lst es2 =>
              simp only [h3] at h
              by_cases hl : es2.length + ds.length ≤ sizeLine
              · rw [if_pos hl] at h
                exact ⟨es2, lstAt_of h3, hl, h⟩
              · rw [if_neg hl] at h
                exact h.elim
        · cases e
          refine h.mono (fun ds S2 ⟨es2, h3, hl, h⟩ => ?_) fun _ _ h => h
          simp only [lstAt_get h3]
          rw [if_pos hl]
          exact h
  · exact propext ⟨fun h => h.elim, fun ⟨_, _, e, _⟩ => by cases e⟩
end
@[simp] theorem zip_mm {α β : Type} (f : α → PyData) (g : β → PyData) (xs : List α) (ys : List β) : ((xs.map f).zip (ys.map g)).map (fun p => D.py (.tuple [p.1, p.2])) = (xs.zip ys).map fun p => D.py (.tuple [f p.1, g p.2]) := by
  rw [List.zip_map, List.map_map]
  rfl
/-! ### defs -/
/-- what is left of the store when a def is done -/
structure Cut (S S' T : Sto) : Prop where
  le : S.length ≤ S'.length
  cut : T = S'.take S.length
  sub : ∀ (i : Nat) (o : O), i < S.length → S'[i]? = some o → S[i]? = some o ∨ o.pure = true
theorem Cut.self {S : Sto} : Cut S S S := ⟨Nat.le_refl _, (List.take_length).symm, fun i o _ h => .inl h⟩
theorem Cut.app {S T : Sto} : Cut S (S ++ T) S := ⟨by simp, by simp, fun i o hi h => .inl (by rwa [List.getElem?_append_left hi] at h)⟩
theorem Cut.stL {S : Sto} {ds : List PyData} : Cut S (stL S ds) S := Cut.app
theorem gc_cut {γ : Type} {p : Prop} {S S' T : Sto} {k : Sto → γ} (hp : p) (h : Cut S S' T) : gc p S S' k = k T := by
  unfold gc
  rw [if_pos ⟨hp, h.le, h.sub⟩, h.cut]
theorem wp_fn {n : Nat} {b : Sx} {ds : List D} {S : Sto} {Q : D → Sto → Prop} {E : Str → Sto → Prop}
    (h : (b (init n ds) S).wp { nx := fun _ S' => ∃ T, Cut S S' T ∧ Q (.py .none) T, rt := fun d S' => ∃ T, Cut S S' T ∧ d.pure = true ∧ Q d T, ex := fun c S' => ∃ T, Cut S S' T ∧ E c T }) : (fnF n b ds S).wp Q E := by
  unfold fnF fnR
  cases hb : b (init n ds) S with
  | nx σ S' =>
    rw [hb] at h
    obtain ⟨T, c, q⟩ := h
    simp only [gc_cut (p := True) trivial c]
    exact q
  | rt d S' =>
    rw [hb] at h
    obtain ⟨T, c, p, q⟩ := h
    simp only [gc_cut p c]
    exact q
  | ex c S' =>
    rw [hb] at h
    obtain ⟨T, c, q⟩ := h
    simp only [gc_cut (p := True) trivial c]
    exact q
  | bk σ S' => rw [hb] at h; exact h.elim
  | ct σ S' => rw [hb] at h; exact h.elim
  | no => rw [hb] at h; exact h.elim
/-- a def whose answer may be a list that is changed -/
theorem wp_fnM {n : Nat} {b : Sx} {ds : List D} {S : Sto} {Q : D → Sto → Prop} {E : Str → Sto → Prop}
    (h : (b (init n ds) S).wp { nx := fun _ _ => False, rt := fun d S' => d.pure = false ∧ Q d S' }) : (fnF n b ds S).wp Q E := by
  unfold fnF fnR
  cases hb : b (init n ds) S with
  | rt d S' =>
    rw [hb] at h
    obtain ⟨p, q⟩ := h
    show (gc (d.pure = true) S S' fun T => R.ok d T).wp Q E
    unfold gc
    rw [if_neg (by rw [p]; simp)]
    exact q
  | nx σ S' => rw [hb] at h; exact h.elim
  | ex c S' => rw [hb] at h; exact h.elim
  | bk σ S' => rw [hb] at h; exact h.elim
  | ct σ S' => rw [hb] at h; exact h.elim
  | no => rw [hb] at h; exact h.elim
/-- a def that makes nothing but its answer -/
theorem fn_eq {n : Nat} {b : Sx} {ds : List D} {S : Sto} {d : D} (h : (fnF n b ds S).wp (fun x T => x = d ∧ T = S) noE) : fnF n b ds S = .ok d S := by
  obtain ⟨a, T, e, rfl, rfl⟩ := h.out
  exact e
end
end DV

set_option maxHeartbeats 4000000
namespace DV
open PySem
/-! The box of the law's random numbers, and what is drawn from it. -/
/-- at n stands a box -/
def BoxAt (S : Sto) (n : Nat) : Prop := ∃ a b : Int, S[n]? = some (.lst [.py (.int a), .py (.int b)])
/-- but for n nothing of S has changed -/
structure Ch (n : Nat) (S S' : Sto) : Prop where
  le : S.length ≤ S'.length
  same : ∀ i, i < S.length → i ≠ n → S'[i]? = S[i]?
  box : BoxAt S' n
theorem BoxAt.lt {S : Sto} {n : Nat} (h : BoxAt S n) : n < S.length := by
  obtain ⟨a, b, e⟩ := h
  exact (List.getElem?_eq_some_iff.mp e).1
theorem Ch.refl {S : Sto} {n : Nat} (h : BoxAt S n) : Ch n S S := ⟨Nat.le_refl _, fun _ _ _ => rfl, h⟩
theorem Ch.trans {S S1 S2 : Sto} {n : Nat} (h : Ch n S S1) (h2 : Ch n S1 S2) : Ch n S S2 :=
  ⟨Nat.le_trans h.le h2.le, fun i hi ne => (h2.same i (Nat.lt_of_lt_of_le hi h.le) ne).trans (h.same i hi ne), h2.box⟩
theorem Ch.at_ {S S' : Sto} {n m : Nat} {o : O} (h : Ch n S S') (e : S[m]? = some o) (ne : m ≠ n) : S'[m]? = some o :=
  (h.same m (List.getElem?_eq_some_iff.mp e).1 ne).trans e
theorem Ch.set {S : Sto} {n : Nat} {a b : Int} (h : n < S.length) : Ch n S (S.set n (.lst [.py (.int a), .py (.int b)])) :=
  ⟨by simp, fun i hi ne => by rw [List.getElem?_set_ne (Ne.symm ne)], a, b, by simp [h]⟩
theorem Ch.app {S T : Sto} {n : Nat} (h : BoxAt S n) : Ch n S (S ++ T) :=
  ⟨by simp, fun i hi _ => by rw [List.getElem?_append_left hi], by
    obtain ⟨a, b, e⟩ := h
    exact ⟨a, b, by rw [List.getElem?_append_left (List.getElem?_eq_some_iff.mp e).1]; exact e⟩⟩
/-- a list of one's own is changed -/
theorem Ch.own {S S' : Sto} {n m : Nat} {o : O} (h : Ch n S S') (hm : S.length ≤ m) (hn : n < S.length) : Ch n S (S'.set m o) :=
  ⟨by rw [List.length_set]; exact h.le, fun i hi ne => by rw [List.getElem?_set_ne (by omega)]; exact h.same i hi ne, by
    obtain ⟨a, b, e⟩ := h.box
    exact ⟨a, b, by rw [List.getElem?_set_ne (by omega)]; exact e⟩⟩
theorem Ch.cut {S S' : Sto} {n : Nat} (h : Ch n S S') (hn : n < S.length) : ∃ T, Cut S S' T ∧ Ch n S T ∧ T.length = S.length := by
  refine ⟨S'.take S.length, ⟨h.le, rfl, fun i o hi e => ?_⟩, ⟨by rw [List.length_take]; have := h.le; omega, fun i hi ne => ?_, ?_⟩, by rw [List.length_take]; have := h.le; omega⟩
  · by_cases q : i = n
    · subst q
      obtain ⟨a, b, e2⟩ := h.box
      rw [e] at e2
      cases e2
      exact .inr rfl
    · exact .inl ((h.same i hi q).symm.trans e)
  · rw [List.getElem?_take_of_lt hi]
    exact h.same i hi ne
  · obtain ⟨a, b, e⟩ := h.box
    exact ⟨a, b, by rw [List.getElem?_take_of_lt hn]; exact e⟩
/-- a law's draw -/
theorem take_ok {S : Sto} {n : Nat} {many : Int} (h : BoxAt S n) (h0 : 0 < many) (h1 : many < 1073741824) :
    (F_law_take [.obj n, .py (.int many)] S).wp (fun d S' => ∃ r, d = .py (.int r) ∧ 0 ≤ r ∧ r < many ∧ Ch n S S' ∧ S'.length = S.length) noE := by
  have hn := h.lt
  obtain ⟨a, b, e⟩ := h
  have fin : ∀ (r x y : Int), 0 ≤ r → r < many → ∃ T, Cut S (S.set n (.lst [.py (.int x), .py (.int y)])) T ∧ (D.py (.int r)).pure = true ∧ ∃ r', D.py (.int r) = .py (.int r') ∧ 0 ≤ r' ∧ r' < many ∧ Ch n S T ∧ T.length = S.length := fun r x y h1 h2 => by
    obtain ⟨T, c, q, l⟩ := (Ch.set (a := x) (b := y) hn).cut hn
    exact ⟨T, c, rfl, r, rfl, h1, h2, q, l⟩
  unfold F_law_take b_law_take
  refine wp_fn ?_
  have i0 : itemD (.obj n) (.py (.int 0)) S = .ok (.py (.int a)) S := itemD_obj e 0 rfl
  have i1 : itemD (.obj n) (.py (.int 1)) S = .ok (.py (.int b)) S := itemD_obj e 1 rfl
  by_cases ha : 0 < a
  · simp [init, i0, ha, h0, h1, ixP_0 e]
    have := fin (a % many) (a / many) b (Int.emod_nonneg _ (by omega)) (Int.emod_lt_of_pos _ h0)
    simpa using this
  · simp [init, i0, i1, ha, ixP_1 e]
    have b0 : 0 ≤ (b * 48271 + 11) % 2147483647 := Int.emod_nonneg _ (by decide)
    have b1 : (b * 48271 + 11) % 2147483647 < 2147483647 := Int.emod_lt_of_pos _ (by decide)
    generalize (b * 48271 + 11) % 2147483647 = c at *
    have j1 : itemD (.obj n) (.py (.int 1)) (S.set n (.lst [.py (.int a), .py (.int c)])) = .ok (.py (.int c)) _ := itemD_obj (ds := [.py (.int a), .py (.int c)]) (by simp [hn]) 1 rfl
    have d0 : 0 ≤ c / 1009 := Int.ediv_nonneg b0 (by decide)
    have d1 : c / 1009 ≤ 2147483647 := by omega
    have q1 : -(2 ^ 64) < c / 1009 + 1 ∧ c / 1009 + 1 < 2 ^ 64 := by omega
    have q2 : ∀ x S, mulD (.py (.int x)) (.py (.int (c / 1009 + 1))) S = .ok (.py (.int (x * (c / 1009 + 1)))) S := fun x S => mulD_r q1
    simp [j1, q2, h0]
    have z := fin ((c / 1009 + 1) * (c / 1009 + 1) * (c / 1009 + 1) % 2147483629 / 61 % many) a c (Int.emod_nonneg _ (by omega)) (Int.emod_lt_of_pos _ h0)
    simpa using z
/-- the box of a script's number -/
theorem box_ok {S : Sto} {ns : List Int} {k : Nat} (hk : k < 1000000) :
    (F_law_box [.py (.list (ns.map .int)), .py (.int k)] S).wp (fun d S' => d = .obj S.length ∧ ∃ a b : Int, S' = S ++ [.lst [.py (.int a), .py (.int b)]]) noE := by
  unfold F_law_box b_law_box
  refine wp_fnM ?_
  have hk1 : -(2 ^ 64) < (k : Int) ∧ (k : Int) < 2 ^ 64 := by omega
  have m1 : ∀ x S, mulD (.py (.int x)) (.py (.int k)) S = .ok (.py (.int (x * k))) S := fun x S => mulD_r hk1
  by_cases hl : k < ns.length
  · have it : itemD (.py (.list (ns.map .int))) (.py (.int k)) S = .ok (.py (.int ns[k])) S := itemD_list k (by simp [hl])
    simp [init, m1, hl, it, wp_ite, D.pure]
    omega
  · simp [init, m1, hl, wp_ite, D.pure]
    try omega
end DV

set_option maxHeartbeats 4000000
namespace DV
open PySem
/-! Faces drawn from the box. -/
abbrev lt (c : Nat) : PyData := .str ⟨#[c]⟩
abbrev encL (p : Nat × Int) : PyData := .tuple [lt p.1, .int p.2]
structure Face where
  w : Int
  ls : List (Nat × Int)
abbrev Face.py (f : Face) : PyData := .tuple [.int f.w, .tuple (f.ls.map encL)]
structure Face.Good (f : Face) (lo hi : Int) : Prop where
  w0 : 1 ≤ f.w
  w1 : f.w ≤ 99
  lo : lo ≤ (f.ls.length : Int)
  hi : (f.ls.length : Int) ≤ hi
  nd : (f.ls.map (·.1)).Nodup
  ok : ∀ p ∈ f.ls, 97 ≤ p.1 ∧ p.1 ≤ 122 ∧ 10 ≤ p.2 ∧ p.2 ≤ 99
theorem alphabet : ("abcdefghijklmnopqrstuvwxyz" : Str).cps.toList = (List.range 26).map (97 + ·) := by decide +kernel
theorem list_alphabet (S : Sto) : listD [.py (.str "abcdefghijklmnopqrstuvwxyz")] S = .ok (((List.range 26).map (97 + ·)).map fun c => D.py (lt c)) S := by
  rw [listD_str (by decide +kernel), alphabet, List.map_map]
theorem nodup_pop : ∀ {l : List Nat} {r c : Nat}, l.Nodup → l[r]? = some c → c ∉ l.eraseIdx r ∧ (l.eraseIdx r).Nodup
  | [], r, c, _, hc => by simp at hc
  | a :: l, 0, c, h, hc => by
    simp at hc
    subst hc
    exact List.nodup_cons.mp h
  | a :: l, r + 1, c, h, hc => by
    rw [List.nodup_cons] at h
    have hc : l[r]? = some c := by simpa using hc
    have ih := nodup_pop h.2 hc
    have mc := List.mem_of_getElem? hc
    show c ∉ a :: l.eraseIdx r ∧ (a :: l.eraseIdx r).Nodup
    rw [List.nodup_cons, List.mem_cons, not_or]
    exact ⟨⟨fun e => h.1 (e ▸ mc), ih.1⟩, fun m => h.1 (List.mem_of_mem_eraseIdx m), ih.2⟩
def PoolI (n : Nat) (S T : Sto) (acc : List D) (k : Nat) : Prop :=
  Ch n S T ∧ ∃ (ls : List (Nat × Int)) (pl : List Nat), acc = ls.map (fun p => D.py (encL p)) ∧ T[S.length]? = some (.lst (pl.map fun c => D.py (lt c))) ∧ ls.length = k ∧ pl.length + k = 26 ∧ pl.Nodup ∧ (ls.map (·.1)).Nodup ∧
    (∀ p ∈ ls, p.1 ∉ pl ∧ 97 ≤ p.1 ∧ p.1 ≤ 122 ∧ 10 ≤ p.2 ∧ p.2 ≤ 99) ∧ ∀ c ∈ pl, 97 ≤ c ∧ c ≤ 122
theorem eraseIdx_map {α β : Type} (f : α → β) : ∀ (l : List α) (r : Nat), (l.map f).eraseIdx r = (l.eraseIdx r).map f
  | [], _ => rfl
  | _ :: _, 0 => rfl
  | a :: l, r + 1 => congrArg (f a :: ·) (eraseIdx_map f l r)
theorem face_ok {S : Sto} {n : Nat} {lo hi : Int} (h : BoxAt S n) (h0 : 0 ≤ lo) (h1 : lo ≤ hi) (h2 : hi ≤ 26) :
    (F_law_face [.obj n, .py (.int lo), .py (.int hi)] S).wp (fun d S' => ∃ f : Face, d = .py f.py ∧ f.Good lo hi ∧ Ch n S S' ∧ S'.length = S.length) noE := by
  have hn := h.lt
  unfold F_law_face b_law_face
  refine wp_fn ?_
  simp [init, list_alphabet]
  refine (take_ok (n := n) (many := hi - lo + 1) (Ch.app h).box (by omega) (by omega)).to ?_
  rintro d S1 ⟨m, rfl, m0, m1, c1, l1⟩
  have hp : S1[S.length]? = some (.lst (((List.range 26).map (97 + ·)).map fun c => D.py (lt c))) := c1.at_ (by simp) (by omega)
  have c1 := (Ch.app (T := [.lst (List.map ((fun c => D.py (lt c)) ∘ fun x => 97 + x) (List.range 26))]) h).trans c1
  simp at l1 ⊢
  refine ⟨by omega, ?_⟩
  refine wp_lcL (fun pre acc T => PoolI n S T acc pre.length) ?_ ?_ ?_
  · refine ⟨c1, [], (List.range 26).map (97 + ·), rfl, hp, rfl, by decide, by decide, by decide, by simp, by decide⟩
  · rintro pre x post acc T hxs ⟨cT, ls, pl, rfl, hpl, hl, hlen, ndp, ndl, hls, hcs⟩
    have hlp : pre.length + post.length + 1 = (lo + m).toNat := by
      have := congrArg List.length hxs
      simp [rngV] at this
      omega
    have pos : 0 < (pl.length : Int) := by omega
    have cnt : lenD [.obj S.length] T = _ := lenD_obj hpl
    simp [cnt, lsOk_obj hpl]
    refine (take_ok (n := n) (many := pl.length) cT.box pos (by omega)).to ?_
    rintro d T1 ⟨r, rfl, r0, r1, cT1, _⟩
    have hr : r.toNat < pl.length := by omega
    have hpl1 := cT1.at_ hpl (by omega)
    have hpop := popD_at (i := r) (d := D.py (lt pl[r.toNat])) hpl1 ⟨r0, by omega⟩ (by simp [hr])
    simp [hpop]
    refine (take_ok (n := n) (many := 90) ((cT.trans cT1).own (o := .lst ((pl.map fun c => D.py (lt c)).eraseIdx r.toNat)) (Nat.le_refl _) hn).box (by decide) (by decide)).to ?_
    rintro d T2 ⟨q, rfl, q0, q1, cT2, _⟩
    have np := nodup_pop ndp (List.getElem?_eq_getElem hr)
    have hT2 := cT2.at_ (m := S.length) (o := .lst ((pl.map fun c => D.py (lt c)).eraseIdx r.toNat)) (by rw [List.getElem?_set_self]; have := cT1.le; have := cT.le; have := (List.getElem?_eq_some_iff.mp hpl1).1; omega) (by omega)
    simp
    refine ⟨((cT.trans cT1).own (Nat.le_refl _) hn).trans cT2, ls ++ [(pl[r.toNat], 10 + q)], pl.eraseIdx r.toNat, by simp, ?_, by simp [hl], ?_, np.2, ?_, ?_, fun c hc => hcs c (List.mem_of_mem_eraseIdx hc)⟩
    · rw [hT2]
      rw [eraseIdx_map]
    · rw [List.length_eraseIdx_of_lt hr]
      omega
    · rw [List.map_append, List.nodup_append]
      refine ⟨ndl, by simp, fun a ha b hb => ?_⟩
      simp at hb
      subst hb
      obtain ⟨p, hp1, rfl⟩ := List.mem_map.mp ha
      intro e
      exact (hls p hp1).1 (e ▸ List.getElem_mem hr)
    · intro p hp1
      rw [List.mem_append] at hp1
      rcases hp1 with hp1 | hp1
      · obtain ⟨z1, z2⟩ := hls p hp1
        exact ⟨fun h => z1 (List.mem_of_mem_eraseIdx h), z2⟩
      · simp at hp1
        subst hp1
        obtain ⟨y1, y2⟩ := hcs _ (List.getElem_mem hr)
        exact ⟨np.1, y1, y2, by omega, by omega⟩
  · rintro acc T ⟨cT, ls, pl, rfl, hpl, hl, hlen, ndp, ndl, hls, hcs⟩
    have e : ls.map (fun p => D.py (encL p)) = (ls.map encL).map .py := by simp
    rw [e]
    simp
    refine (take_ok (n := n) (many := 99) cT.box (by decide) (by decide)).to ?_
    rintro d T1 ⟨q, rfl, q0, q1, cT1, _⟩
    obtain ⟨T2, k1, k2, k3⟩ := (cT.trans cT1).cut hn
    simp
    refine ⟨T2, k1, rfl, ⟨1 + q, ls⟩, ⟨rfl, rfl⟩, ⟨by simp; omega, by simp; omega, ?_, ?_, ndl, fun p hp1 => (hls p hp1).2⟩, k2, k3⟩
    · simp [hl, rngV]
      omega
    · simp [hl, rngV]
      omega
end DV

set_option maxHeartbeats 4000000
namespace DV
open PySem
/-! Draws by a comprehension; rows of lists that are changed. -/
abbrev pyi (i : Int) : D := .py (.int i)
theorem draws {α : Type} {n i : Nat} {S : Sto} {σ : En} {e : Ex} {xs : List D} {E : Str → Sto → Prop} (f : α → PyData) (p : α → Prop) (hb : BoxAt S n)
    (h : ∀ x S', x ∈ xs → Ch n S S' → (e (σ.set i (some x)) S').wp (fun d S2 => ∃ r, d = .py (f r) ∧ p r ∧ Ch n S' S2) noE) :
    (lcL (nmG i) yesT e σ xs S).wp (fun ds S' => ∃ rs : List α, ds = rs.map (fun r => .py (f r)) ∧ rs.length = xs.length ∧ (∀ r ∈ rs, p r) ∧ Ch n S S') E := by
  refine wp_lcL (fun pre acc T => ∃ rs : List α, acc = rs.map (fun r => .py (f r)) ∧ rs.length = pre.length ∧ (∀ r ∈ rs, p r) ∧ Ch n S T) ⟨[], rfl, rfl, by simp, .refl hb⟩ ?_ fun _ _ h => h
  rintro pre x post acc T hxs ⟨rs, rfl, hl, hp, c⟩
  rw [wp_nm, wp_yes, if_pos rfl]
  refine (h x T (by rw [hxs]; simp) c).to ?_
  rintro d S2 ⟨r, rfl, pr, c2⟩
  refine ⟨rs ++ [r], by simp, by simp [hl], fun y hy => ?_, c.trans c2⟩
  rw [List.mem_append] at hy
  rcases hy with hy | hy
  · exact hp y hy
  · rw [List.mem_singleton] at hy
    rw [hy]
    exact pr
theorem nodup_get {α : Type} {l : List α} (h : l.Nodup) {i j : Nat} {x : α} (h1 : l[i]? = some x) (h2 : l[j]? = some x) : i = j := by
  obtain ⟨p, e1⟩ := List.getElem?_eq_some_iff.mp h1
  obtain ⟨q, e2⟩ := List.getElem?_eq_some_iff.mp h2
  rcases Nat.lt_trichotomy i j with z | z | z
  · exact (List.pairwise_iff_getElem.mp h i j p q z (e1.trans e2.symm)).elim
  · exact z
  · exact (List.pairwise_iff_getElem.mp h j i q p z (e2.trans e1.symm)).elim
/-- rows that are changed -/
structure Grid (S : Sto) (lo m : Nat) (ids : List Nat) (rows : List (List Int)) : Prop where
  top : S[m]? = some (.lst (ids.map .obj))
  nd : ids.Nodup
  len : ids.length = rows.length
  own : ∀ i ∈ ids, lo ≤ i ∧ i ≠ m
  row : ∀ (j id : Nat) (r : List Int), ids[j]? = some id → rows[j]? = some r → S[id]? = some (.lst (r.map pyi))
  lo : lo ≤ m
theorem Grid.new {S : Sto} {lo : Nat} {rows : List (List Int)} (hlo : lo ≤ S.length) :
    Grid (S ++ (rows.map fun r => O.lst (r.map pyi)) ++ [.lst ((List.range' S.length rows.length).map .obj)]) lo (S.length + rows.length) (List.range' S.length rows.length) rows := by
  refine ⟨?_, List.nodup_range', by simp, fun i hi => ?_, fun j id r h1 h2 => ?_, by omega⟩
  · rw [List.getElem?_append_right (by simp)]
    simp
  · rw [List.mem_range'_1] at hi
    omega
  · have hj := (List.getElem?_eq_some_iff.mp h2).1
    rw [List.getElem?_range' hj] at h1
    have h1 : S.length + j = id := by simpa using h1
    subst h1
    rw [List.append_assoc, List.getElem?_append_right (by omega), List.getElem?_append_left (by simp; omega)]
    simp [h2]
theorem Grid.ch {S S' : Sto} {n lo m : Nat} {ids : List Nat} {rows : List (List Int)} (h : Grid S lo m ids rows) (c : Ch n S S') (hn : n < lo) : Grid S' lo m ids rows := by
  have hlo := h.lo
  refine ⟨c.at_ h.top (by omega), h.nd, h.len, h.own, fun j id r e1 e2 => c.at_ (h.row j id r e1 e2) ?_, hlo⟩
  have := (h.own id (List.mem_of_getElem? e1)).1
  omega
/-- the list at m, whose rows are objects -/
theorem Grid.get {S : Sto} {lo m a : Nat} {ids : List Nat} {rows : List (List Int)} (h : Grid S lo m ids rows) (ha : a < rows.length) : itemD (.obj m) (.py (.int a)) S = .ok (.obj (ids[a]'(h.len ▸ ha))) S :=
  itemD_obj h.top a (by simp [h.len, ha])
theorem Grid.at_ {S : Sto} {lo m a : Nat} {ids : List Nat} {rows : List (List Int)} (h : Grid S lo m ids rows) (ha : a < rows.length) : S[ids[a]'(h.len ▸ ha)]? = some (.lst (rows[a].map pyi)) :=
  h.row a _ _ (List.getElem?_eq_getElem _) (List.getElem?_eq_getElem ha)
theorem Grid.set {S : Sto} {lo m a : Nat} {ids : List Nat} {rows : List (List Int)} (h : Grid S lo m ids rows) (ha : a < rows.length) (r : List Int) : Grid (S.set (ids[a]'(h.len ▸ ha)) (.lst (r.map pyi))) lo m ids (rows.set a r) := by
  have ha' : a < ids.length := h.len ▸ ha
  have e1 : ids[a]? = some ids[a] := List.getElem?_eq_getElem ha'
  have m1 := h.own _ (List.getElem_mem ha')
  refine ⟨by rw [List.getElem?_set_ne m1.2]; exact h.top, h.nd, by simp [h.len], h.own, fun j id q e2 e3 => ?_, h.lo⟩
  by_cases hj : a = j
  · subst hj
    rw [e1] at e2
    cases e2
    rw [List.getElem?_set_self ha] at e3
    cases e3
    rw [List.getElem?_set_self]
    exact (List.getElem?_eq_some_iff.mp (h.at_ ha)).1
  · rw [List.getElem?_set_ne hj] at e3
    have ne : ids[a] ≠ id := by
      intro e
      exact hj (nodup_get h.nd e1 (e ▸ e2))
    rw [List.getElem?_set_ne ne]
    exact h.row j id q e2 e3
/-- an item of a row is set -/
theorem Grid.put {S : Sto} {lo m a b : Nat} {ids : List Nat} {rows : List (List Int)} {v : Int} {σ : En} (h : Grid S lo m ids rows) (ha : a < rows.length) (hb : b < rows[a].length) :
    ixP (.obj (ids[a]'(h.len ▸ ha))) (.py (.int b)) (.py (.int v)) σ S = .ok σ (S.set (ids[a]'(h.len ▸ ha)) (.lst ((rows[a].set b v).map pyi))) := by
  rw [ixP_obj (h.at_ ha) (by simpa using hb), List.map_set]
theorem fixL_ok : ∀ {ids : List Nat} {rows : List (List Int)} {S : Sto}, ids.Nodup → ids.length = rows.length → (∀ (j id : Nat) (r : List Int), ids[j]? = some id → rows[j]? = some r → S[id]? = some (.lst (r.map pyi))) →
    ∃ S', fixL S (ids.map .obj) = some (rows.map fun r => .list (r.map .int), S') ∧ S'.length = S.length ∧ ∀ i, i ∉ ids → S'[i]? = S[i]?
  | [], [], S, _, _, _ => ⟨S, rfl, rfl, fun _ _ => rfl⟩
  | id :: ids, r :: rows, S, hn, hl, h => by
    have e := h 0 id r rfl rfl
    have hn := List.nodup_cons.mp hn
    obtain ⟨S', e1, e2, e3⟩ := fixL_ok (ids := ids) (rows := rows) (S := S.set id .gone) hn.2 (by simpa using hl) fun j id2 r2 h1 h2 => by
      rw [List.getElem?_set_ne (fun (e : id = id2) => hn.1 (e ▸ List.mem_of_getElem? h1))]
      exact h (j + 1) id2 r2 h1 h2
    refine ⟨S', ?_, by rw [e2]; simp, fun i hi => ?_⟩
    · have pe : pysOf (r.map pyi) = some (r.map PyData.int) := pysOf_fun PyData.int r
      simp only [List.map, fixL, e, pe, e1, Option.map]
    · rw [List.mem_cons, not_or] at hi
      rw [e3 i hi.2, List.getElem?_set_ne (Ne.symm hi.1)]
abbrev encR (rows : List (List Int)) : PyData := .list (rows.map fun r => .list (r.map .int))
@[simp] theorem seqD_encR (R : List (List Int)) : seqD (.py (encR R)) = some (R.map fun r => .list (r.map .int)) := id rfl
@[simp] theorem walk_encR (R : List (List Int)) (S : Sto) : pyWalk S (.py (encR R)) = some (R.map fun r => .list (r.map .int)) := id rfl
theorem Grid.fix {S : Sto} {lo m i : Nat} {ids : List Nat} {rows : List (List Int)} {σ : En} {N : K} (h : Grid S lo m ids rows) (hi : σ[i]? = some (some (.obj m))) (q : ∀ S', S'.length = S.length → (∀ j, j < lo → S'[j]? = S[j]?) → N.nx (σ.set i (some (.py (encR rows)))) S') : (fix2S i σ S).wp N := by
  have hlo := h.lo
  obtain ⟨S', e1, e2, e3⟩ := fixL_ok (S := S.set m .gone) h.nd h.len fun j id r a b => by
    rw [List.getElem?_set_ne (Ne.symm (h.own id (List.mem_of_getElem? a)).2)]
    exact h.row j id r a b
  unfold fix2S
  simp only [hi, h.top, e1]
  refine q S' (by rw [e2]; simp) fun j hj => ?_
  rw [e3 j (fun z => by have := (h.own j z).1; omega), List.getElem?_set_ne (by omega)]
structure Rows (rows : List (List Int)) (many : Nat) : Prop where
  len : rows.length = many
  row : ∀ r ∈ rows, r.length = many
  bnd : ∀ r ∈ rows, ∀ x ∈ r, -9 ≤ x ∧ x ≤ 9
theorem Rows.set {rows : List (List Int)} {many a b : Nat} {v : Int} (h : Rows rows many) (ha : a < rows.length) (h1 : -9 ≤ v) (h2 : v ≤ 9) : Rows (rows.set a (rows[a].set b v)) many := by
  have hm : rows[a] ∈ rows := List.getElem_mem ha
  refine ⟨by rw [List.length_set]; exact h.len, fun r hr => ?_, fun r hr x hx => ?_⟩
  · rcases List.mem_or_eq_of_mem_set hr with q | rfl
    · exact h.row r q
    · rw [List.length_set]
      exact h.row _ hm
  · rcases List.mem_or_eq_of_mem_set hr with q | rfl
    · exact h.bnd r q x hx
    · rcases List.mem_or_eq_of_mem_set hx with q | rfl
      · exact h.bnd _ hm x q
      · exact ⟨h1, h2⟩
/-- what lies below is as it was -/
theorem Ch.low {n : Nat} {S T T' : Sto} (c : Ch n S T) (hn : n < S.length) (hl : T'.length = T.length) (h : ∀ j, j < S.length → T'[j]? = T[j]?) : Ch n S T' :=
  ⟨by rw [hl]; exact c.le, fun i hi ne => (h i hi).trans (c.same i hi ne), by
    obtain ⟨a, b, e⟩ := c.box
    exact ⟨a, b, (h n hn).trans e⟩⟩
end DV

set_option maxHeartbeats 4000000
namespace DV
open PySem
end DV

set_option maxHeartbeats 4000000
namespace DV
open PySem
/-! Lists of gaps, known letters. -/
section
variable {α : Type} {g : Tg} {b : Sx} {σ : En} {S : Sto} {N : K}
theorem wp_forM (f : α → D) {ls : List α} (I : List α → En → Sto → Prop) (h0 : I [] σ S)
    (hs : ∀ pre x post σ S, ls = pre ++ x :: post → I pre σ S → (g (f x) σ S).wp (fun σ1 S1 => (b σ1 S1).wp { N with nx := fun σ2 S2 => I (pre ++ [x]) σ2 S2, ct := fun σ2 S2 => I (pre ++ [x]) σ2 S2, bk := fun σ2 S2 => N.nx σ2 S2 }) N.ex)
    (he : ∀ σ S, I ls σ S → N.nx σ S) : (forL g b (ls.map f) σ S).wp N := by
  refine wp_forL (fun pre σ S => ∃ p : List α, pre = p.map f ∧ p.length ≤ ls.length ∧ p = ls.take p.length ∧ I p σ S) ⟨[], rfl, Nat.zero_le _, by simp, h0⟩ ?_ ?_
  · rintro pre x post σ S e ⟨p, rfl, hl, ht, hI⟩
    obtain ⟨l1, l2, e1, e2, e3⟩ := List.map_eq_append_iff.mp e
    obtain ⟨y, l3, e4, e5, e6⟩ := List.map_eq_cons_iff.mp e3
    have lp : l1.length = p.length := by have := congrArg List.length e2; simpa using this
    have ep : p = l1 := by rw [ht, e1, ← lp, List.take_left]
    subst ep
    subst e5
    have e9 : ls = (p ++ [y]) ++ l3 := by rw [e1, e4]; simp
    refine (hs p y l3 σ S (by rw [e1, e4]) hI).mono (fun σ1 S1 h => h.mono (fun σ2 S2 h => ?_) (fun _ _ h => h) (fun _ _ h => h) (fun σ2 S2 h => ?_) fun _ _ h => h) fun _ _ h => h
    · exact ⟨p ++ [y], by simp, by rw [e9]; simp, by rw [e9, List.take_left], h⟩
    · exact ⟨p ++ [y], by simp, by rw [e9]; simp, by rw [e9, List.take_left], h⟩
  · rintro σ S ⟨p, e, hl, ht, hI⟩
    have lp : p.length = ls.length := by have := congrArg List.length e; simpa using this.symm
    rw [lp, List.take_length] at ht
    exact he σ S (ht ▸ hI)
theorem wp_pureM {c : Tx} {e : Ex} {P : List D → Sto → Prop} {E : Str → Sto → Prop} {ls : List α} (f : α → D) (p : α → Bool) (h : α → D)
    (hs : ∀ x ∈ ls, (g (f x) σ S).wp (fun σ1 S1 => (c σ1 S1).wp (fun k S2 => k = p x ∧ S2 = S ∧ (k = true → (e σ1 S).wp (fun d S3 => d = h x ∧ S3 = S) noE)) noE) noE) (q : P ((ls.filter p).map h) S) : (lcL g c e σ (ls.map f) S).wp P E := by
  refine wp_of ?_ q
  clear q
  induction ls with
  | nil => rfl
  | cons x xs ih =>
    obtain ⟨σ1, S1, h1, hs1⟩ := (hs x (List.mem_cons_self ..)).out
    obtain ⟨k, S2, h2, rfl, rfl, hs2⟩ := hs1.out
    have ih := ih fun y hy => hs y (List.mem_cons_of_mem _ hy)
    rw [List.map_cons]
    unfold lcL
    rw [h1]
    simp only [h2]
    cases hp : p x with
    | false => simp [ih, hp]
    | true =>
      obtain ⟨d, S3, h3, rfl, rfl⟩ := (hs2 hp).out
      simp [h3, ih, hp]
/-- one name, no test -/
theorem wp_pureM1 {i : Nat} {e : Ex} {P : List D → Sto → Prop} {E : Str → Sto → Prop} {ls : List α} (f : α → D) (h : α → D)
    (hs : ∀ x ∈ ls, e (σ.set i (some (f x))) S = .ok (h x) S) (q : P (ls.map h) S) : (lcL (nmG i) yesT e σ (ls.map f) S).wp P E :=
  wp_pureM f (fun _ => true) h (fun x hx => ⟨rfl, rfl, fun _ => wp_of (hs x hx) ⟨rfl, rfl⟩⟩) (by rw [List.filter_eq_self.mpr fun _ _ => rfl]; exact q)
end
abbrev Pair := Nat × Nat × Int
abbrev encT (p : Pair) : PyData := .tuple [lt p.1, lt p.2.1, .int p.2.2]
abbrev encP (ps : List Pair) : PyData := .tuple (ps.map encT)
@[simp] theorem seqD_encP (ps : List Pair) : seqD (.py (encP ps)) = some (ps.map encT) := id rfl
@[simp] theorem walk_encP (ps : List Pair) (S : Sto) : pyWalk S (.py (encP ps)) = some (ps.map encT) := id rfl
def Face.lets (f : Face) : List Nat := f.ls.map (·.1)
@[simp] theorem lets_length (f : Face) : f.lets.length = f.ls.length := by simp [Face.lets]
theorem law_letters_eq (f : Face) (S : Sto) : F_law_letters [.py f.py] S = .ok (.py (.list (f.lets.map lt))) S := by
  unfold F_law_letters b_law_letters
  refine fn_eq (wp_fn ?_)
  simp [init]
  refine wp_pureM1 (D.py ∘ encL) (fun p => .py (lt p.1)) (fun x _ => wp_eq (by simp)) ?_
  simp
  exact ⟨S, .self, rfl, by simp [Face.lets], rfl⟩
def gapIn (ps : List Pair) (l r : Nat) : Int := match ps.find? (fun p => p.1 = l ∧ p.2.1 = r) with
  | some p => p.2.2
  | none => 0
theorem slot2 {σ l : En} {i j : Nat} (h : (σ.set j none).set i none = l) : ∃ x y, σ = (l.set i x).set j y := by
  obtain ⟨x, h⟩ := slot_any h
  obtain ⟨y, h⟩ := slot_any h
  exact ⟨x, y, h⟩
theorem slot3 {σ l : En} {i j k : Nat} (h : ((σ.set k none).set j none).set i none = l) : ∃ x y z, σ = ((l.set i x).set j y).set k z := by
  obtain ⟨x, h⟩ := slot_any h
  obtain ⟨y, z, h⟩ := slot2 h
  exact ⟨x, y, z, h⟩
theorem slot4 {σ l : En} {i j k m : Nat} (h : (((σ.set m none).set k none).set j none).set i none = l) : ∃ x y z w, σ = (((l.set i x).set j y).set k z).set m w := by
  obtain ⟨x, h⟩ := slot_any h
  obtain ⟨y, z, w, h⟩ := slot3 h
  exact ⟨x, y, z, w, h⟩
/-! ### the list of rows -/
end DV

set_option maxHeartbeats 4000000
namespace DV
open PySem
/-! Data that may be shown and compared. -/
structure Fit (d : PyData) (k w : Nat) : Prop where
  sh : d.showable = true
  hd : d.hasDict = false
  dp : d.depth ≤ k
  ls : PyData.leavesShort 13 d = true
  bk : d.bulk ≤ w
  ly : d.canLay0 = true
structure FitL (ds : List PyData) (k w : Nat) : Prop where
  sh : PyData.showableAll ds = true
  hd : PyData.hasDictAll ds = false
  dp : PyData.depthAll ds ≤ k
  ls : PyData.leavesShortAll 13 ds = true
  bk : PyData.bulkAll ds ≤ w
  ly : PyData.canLayAll0 ds = true
theorem Fit.int {i : Int} (h1 : -999999999999 ≤ i) (h2 : i ≤ 999999999999) : Fit (.int i) 0 0 := by
  refine ⟨?_, PyData.hasDict.eq_3 i, by rw [PyData.depth.eq_6]; exact Nat.le_refl _, ?_, by rw [PyData.bulk.eq_7]; exact Nat.le_refl _, PyData.canLay0.eq_3 i⟩
  · rw [PyData.showable.eq_4, decide_eq_true_eq]
    by_cases h : i.natAbs = 0
    · rw [h]
      decide
    · rw [Nat.log2_lt h]
      exact Nat.lt_of_lt_of_le (show i.natAbs < 2 ^ 40 by omega) (Nat.pow_le_pow_right (by decide) (by decide))
  · rw [PyData.leavesShort.eq_3, decide_eq_true_eq]
    exact PyData.shown_int_le2 h1 h2
theorem Fit.bool (b : Bool) : Fit (.bool b) 0 0 :=
  ⟨PyData.showable.eq_2 b, PyData.hasDict.eq_2 b, by rw [PyData.depth.eq_5]; exact Nat.le_refl _, PyData.leavesShort.eq_2 13 b, by rw [PyData.bulk.eq_6]; exact Nat.le_refl _, PyData.canLay0.eq_2 b⟩
theorem Fit.none : Fit .none 0 0 :=
  ⟨PyData.showable.eq_1, PyData.hasDict.eq_1, by rw [PyData.depth.eq_4]; exact Nat.le_refl _, PyData.leavesShort.eq_1 13, by rw [PyData.bulk.eq_5]; exact Nat.le_refl _, PyData.canLay0.eq_1⟩
theorem Fit.str {x : Str} {n : Nat} (h : ∀ c ∈ x.cps.toList, c < 1114112) (hn : x.cps.size ≤ n) : Fit (.str x) 0 n := by
  refine ⟨PyData.showable.eq_3 x, PyData.hasDict.eq_4 x, ?_, ?_, by rw [PyData.bulk.eq_1]; exact hn, ?_⟩
  · rw [PyData.depth.eq_7]
    exact Nat.le_refl _
  · rw [PyData.leavesShort.eq_4, List.all_eq_true]
    intro c hc
    have := h c hc
    exact decide_eq_true (by omega)
  · rw [PyData.canLay0.eq_4]
    unfold PyData.strOk
    rw [← Array.all_toList, List.all_eq_true]
    intro c hc
    exact decide_eq_true (h c hc)
theorem Fit.lt {c : Nat} (h : c < 1114112) : Fit (DV.lt c) 0 1 := Fit.str (by simpa using h) (by simp)
theorem FitL.nil {k w : Nat} : FitL [] k w := ⟨PyData.showableAll.eq_1, PyData.hasDictAll.eq_1, by rw [PyData.depthAll.eq_1]; exact Nat.zero_le _, PyData.leavesShortAll.eq_1 13, by rw [PyData.bulkAll.eq_1]; exact Nat.zero_le _, PyData.canLayAll0.eq_1⟩
theorem FitL.cons {d : PyData} {ds : List PyData} {k w w' : Nat} (h : Fit d k w) (hs : FitL ds k w') : FitL (d :: ds) k (w + 1 + w') := by
  refine ⟨?_, ?_, ?_, ?_, ?_, ?_⟩
  · rw [PyData.showableAll.eq_2, h.sh, hs.sh]
    rfl
  · rw [PyData.hasDictAll.eq_2, h.hd, hs.hd]
    rfl
  · rw [PyData.depthAll.eq_2]
    exact Nat.max_le.mpr ⟨h.dp, hs.dp⟩
  · rw [PyData.leavesShortAll.eq_2, h.ls, hs.ls]
    rfl
  · rw [PyData.bulkAll.eq_2]
    have := h.bk
    have := hs.bk
    omega
  · rw [PyData.canLayAll0.eq_2, h.ly, hs.ly]
    rfl
theorem Fit.mono {d : PyData} {k k' w w' : Nat} (h : Fit d k w) (hk : k ≤ k') (hw : w ≤ w') : Fit d k' w' := ⟨h.sh, h.hd, Nat.le_trans h.dp hk, h.ls, Nat.le_trans h.bk hw, h.ly⟩
theorem FitL.mono {d : List PyData} {k k' w w' : Nat} (h : FitL d k w) (hk : k ≤ k') (hw : w ≤ w') : FitL d k' w' := ⟨h.sh, h.hd, Nat.le_trans h.dp hk, h.ls, Nat.le_trans h.bk hw, h.ly⟩
theorem FitL.all {k w : Nat} : ∀ {ds : List PyData}, (∀ d ∈ ds, Fit d k w) → FitL ds k (ds.length * (w + 1))
  | [], _ => .nil
  | d :: ds, h => by
    have := FitL.cons (h d (List.mem_cons_self ..)) (FitL.all fun e he => h e (List.mem_cons_of_mem _ he))
    refine this.mono (Nat.le_refl _) ?_
    rw [List.length_cons, Nat.add_mul]
    omega
theorem Fit.list {ds : List PyData} {k w : Nat} (h : FitL ds k w) : Fit (.list ds) (k + 1) w := by
  refine ⟨by rw [PyData.showable.eq_5]; exact h.sh, by rw [PyData.hasDict.eq_5]; exact h.hd, by rw [PyData.depth.eq_1]; exact Nat.succ_le_succ h.dp, by rw [PyData.leavesShort.eq_5]; exact h.ls, by rw [PyData.bulk.eq_2]; exact h.bk, by rw [PyData.canLay0.eq_5]; exact h.ly⟩
theorem Fit.tuple {ds : List PyData} {k w : Nat} (h : FitL ds k w) : Fit (.tuple ds) (k + 1) w := by
  refine ⟨by rw [PyData.showable.eq_6]; exact h.sh, by rw [PyData.hasDict.eq_6]; exact h.hd, by rw [PyData.depth.eq_2]; exact Nat.succ_le_succ h.dp, by rw [PyData.leavesShort.eq_6]; exact h.ls, by rw [PyData.bulk.eq_3]; exact h.bk, by rw [PyData.canLay0.eq_6]; exact h.ly⟩
theorem Fit.listN {ds : List PyData} {k w m : Nat} (h : ∀ d ∈ ds, Fit d k w) (hm : ds.length ≤ m) : Fit (.list ds) (k + 1) (m * (w + 1)) := (Fit.list (FitL.all h)).mono (Nat.le_refl _) (Nat.mul_le_mul_right _ hm)
theorem Fit.tupleN {ds : List PyData} {k w m : Nat} (h : ∀ d ∈ ds, Fit d k w) (hm : ds.length ≤ m) : Fit (.tuple ds) (k + 1) (m * (w + 1)) := (Fit.tuple (FitL.all h)).mono (Nat.le_refl _) (Nat.mul_le_mul_right _ hm)
theorem Fit.shaped {d : PyData} {k w : Nat} (h : Fit d k w) (hk : k ≤ 64) : SeqAt.shaped d = true := by
  unfold SeqAt.shaped
  rw [h.ly, Bool.true_and, decide_eq_true_eq]
  exact Nat.le_trans h.dp hk
theorem Fit.repr {d : PyData} {k w : Nat} (h : Fit d k w) (hk : k ≤ 60) (hw : w ≤ 2 ^ 20) (S : Sto) : reprD [.py d] S = .ok (.py (.str d.shown)) S := by
  have e : deep S 8 (.py d) = some d := rfl
  unfold reprD
  simp only [e]
  rw [if_pos ⟨h.sh, h.hd, Nat.le_trans h.dp hk, PyData.shown_fits_bulk (by decide) (by decide) h.ls (Nat.le_trans h.bk hw)⟩]
/-- letters, pairs, rows -/
theorem fit_encT {p : Pair} (h1 : p.1 < 1114112) (h2 : p.2.1 < 1114112) (h3 : -999999999999 ≤ p.2.2) (h4 : p.2.2 ≤ 999999999999) : Fit (encT p) 1 5 :=
  (Fit.tuple (.cons (Fit.lt h1) (.cons (Fit.lt h2) (.cons (Fit.int h3 h4) (FitL.nil (w := 0)))))).mono (by decide) (by decide)
end DV

set_option maxHeartbeats 4000000
namespace DV
open PySem
/-! All pairs, gaps told by their list. -/
/-! the data of lists -/
theorem Face.Good.mem {f : Face} {lo hi : Int} (h : f.Good lo hi) {c : Nat} (hc : c ∈ f.lets) : 97 ≤ c ∧ c ≤ 122 := by
  obtain ⟨p, hp, rfl⟩ := List.mem_map.mp hc
  exact ⟨(h.ok p hp).1, (h.ok p hp).2.1⟩
/-! ### all pairs -/
/-! ### what has changed, row by row -/
theorem map_fst_zip {α β : Type} : ∀ {xs : List α} {ys : List β}, xs.length ≤ ys.length → (xs.zip ys).map Prod.fst = xs
  | [], _, _ => by simp
  | _ :: _, [], h => by simp at h
  | x :: xs, y :: ys, h => by
    have := map_fst_zip (xs := xs) (ys := ys) (by simpa using h)
    simp [this]
/-- rows turned about -/
def turnR (n : Nat) (R : List (List Int)) : List (List Int) := (List.range n).map fun j => R.map fun row => row.getD j 0
theorem Rows.turn {R : List (List Int)} {n : Nat} (h : Rows R n) : Rows (turnR n R) n := by
  refine ⟨by simp [turnR], fun r hr => ?_, fun r hr x hx => ?_⟩
  · obtain ⟨j, _, rfl⟩ := List.mem_map.mp hr
    simpa using h.len
  · obtain ⟨j, hj, rfl⟩ := List.mem_map.mp hr
    obtain ⟨row, hrow, rfl⟩ := List.mem_map.mp hx
    have hl := h.row _ hrow
    rw [List.mem_range] at hj
    have : j < row.length := by omega
    simp [this]
    exact h.bnd _ hrow _ (List.getElem_mem this)
end DV

set_option maxHeartbeats 4000000
namespace DV
open PySem
/-! The law's own loop over its script. -/
def Keep0 (sc : D) (n : Nat) (σ : En) : Prop := ∃ ys : En, σ = some sc :: ys ∧ ys.length = n
theorem Keep0.mk {sc : D} {n : Nat} {ys : En} (h : ys.length = n) : Keep0 sc n (some sc :: ys) := ⟨ys, rfl, h⟩
theorem explode {α : Type} {n : Nat} {r : List α} (h : r.length = n + 1) : ∃ y r', r = y :: r' ∧ r'.length = n := by
  cases r with
  | nil => cases h
  | cons y r' => exact ⟨y, r', rfl, by simpa using h⟩
theorem nil_of {α : Type} {r : List α} (h : r.length = 0) : r = [] := List.eq_nil_of_length_eq_zero h
end DV

set_option maxHeartbeats 4000000
namespace DV
open PySem
/-! Rows of gaps; letters by marks. -/
/-! ### == of lists of whole numbers -/
abbrev tupI (r : List Int) : PyData := .tuple (r.map .int)
/-- marks that may be compared -/
structure Mk (M : List (List Int)) : Prop where
  len : M.length ≤ 200
  row : ∀ r ∈ M, r.length ≤ 2000
  bnd : ∀ r ∈ M, ∀ x ∈ r, -999999999 ≤ x ∧ x ≤ 999999999
/-- how marks are held -/
structure Enc (e : List Int → PyData) : Prop where
  eqv : ∀ a b, PyData.eqv (e a) (e b) = decide (a = b)
  fit : ∀ r : List Int, (∀ x ∈ r, -999999999 ≤ x ∧ x ≤ 999999999) → r.length ≤ 2000 → Fit (e r) 1 2000
  flat : ∀ a b, flatD (e a) (e b) = none
theorem Enc.eq {e : List Int → PyData} (h : Enc e) {a b : List Int} (ha : (∀ x ∈ a, -999999999 ≤ x ∧ x ≤ 999999999) ∧ a.length ≤ 2000) (hb : (∀ x ∈ b, -999999999 ≤ x ∧ x ≤ 999999999) ∧ b.length ≤ 2000) (S : Sto) : eqD (.py (e a)) (.py (e b)) S = .ok (.py (.bool (decide (a = b)))) S := by
  have hf := h.flat a b
  simp only [eqD, eqB, hf]
  rw [if_pos ⟨(h.fit a ha.1 ha.2).shaped (by decide), (h.fit b hb.1 hb.2).shaped (by decide)⟩, h.eqv]
theorem Enc.fitL {e : List Int → PyData} (h : Enc e) {M : List (List Int)} (hM : Mk M) : Fit (.list (M.map e)) 2 402000 :=
  (Fit.listN (k := 1) (w := 2000) (m := 200) (fun d hd => by
    obtain ⟨r, hr, rfl⟩ := List.mem_map.mp hd
    exact h.fit r (hM.bnd r hr) (hM.row r hr)) (by rw [List.length_map]; exact hM.len)).mono (by decide) (by decide)
/-! ### each mark once -/
def firsts (M : List (List Int)) : List (List Int) := M.foldl (fun acc m => if m ∈ acc then acc else acc ++ [m]) []
theorem mem_fold {m : List Int} : ∀ {M acc : List (List Int)}, m ∈ M.foldl (fun acc m => if m ∈ acc then acc else acc ++ [m]) acc ↔ m ∈ acc ∨ m ∈ M
  | [], acc => by simp
  | x :: M, acc => by
    rw [List.foldl_cons, mem_fold]
    split
    · rename_i h
      rw [List.mem_cons]
      exact ⟨fun z => z.elim .inl fun q => .inr (.inr q), fun z => z.elim .inl fun q => q.elim (fun e => .inl (e ▸ h)) .inr⟩
    · rw [List.mem_append, List.mem_singleton, List.mem_cons, or_assoc]
theorem mem_firsts {m : List Int} {M : List (List Int)} : m ∈ firsts M ↔ m ∈ M := by
  unfold firsts
  rw [mem_fold]
  simp
def groups (L : List Nat) (M : List (List Int)) : List (List Nat) := (firsts M).map fun m => ((L.zip M).filter fun p => p.2 = m).map (·.1)
abbrev encG (G : List (List Nat)) : PyData := .tuple (G.map fun g => .tuple (g.map lt))
theorem firsts_len : ∀ M : List (List Int), (firsts M).length ≤ M.length := by
  have key : ∀ (M acc : List (List Int)), (M.foldl (fun acc m => if m ∈ acc then acc else acc ++ [m]) acc).length ≤ acc.length + M.length := by
    intro M
    induction M with
    | nil => simp
    | cons x M ih =>
      intro acc
      rw [List.foldl_cons]
      refine Nat.le_trans (ih _) ?_
      split
      · rw [List.length_cons]
        omega
      · rw [List.length_append, List.length_cons, List.length_cons, List.length_nil]
        omega
  intro M
  have := key M []
  simpa [firsts] using this
theorem Mk.sub {M N : List (List Int)} (h : Mk M) (hl : N.length ≤ M.length) (hs : ∀ r ∈ N, r ∈ M) : Mk N := ⟨Nat.le_trans hl h.len, fun r hr => h.row r (hs r hr), fun r hr => h.bnd r (hs r hr)⟩
theorem Mk.firsts {M : List (List Int)} (h : Mk M) : Mk (firsts M) := h.sub (firsts_len M) fun _ hr => mem_firsts.mp hr
theorem Mk.pre {pre post : List (List Int)} (h : Mk (pre ++ post)) : Mk pre := h.sub (by simp) fun _ hr => List.mem_append_left _ hr
theorem mapM_deep (S : Sto) : ∀ ds : List PyData, (ds.map D.py).mapM (deep S 7) = some ds
  | [] => rfl
  | d :: ds => by
    rw [List.map_cons, List.mapM_cons, mapM_deep S ds]
    rfl
theorem deep_stL (S : Sto) (ds : List PyData) : deep (stL S ds) 8 (.obj S.length) = some (.list ds) := by
  simp only [deep, stL_get, mapM_deep]
  rfl
theorem any_eqv {e : List Int → PyData} (he : Enc e) (x : List Int) : ∀ K : List (List Int), ((K.map e).any fun z => PyData.eqv z (e x)) = decide (x ∈ K)
  | [] => rfl
  | k :: K => by
    rw [List.map_cons, List.any_cons, any_eqv he x K, he.eqv]
    by_cases h : k = x
    · simp [h]
    · simp [h, Ne.symm h]
theorem Enc.notin {e : List Int → PyData} (he : Enc e) {x : List Int} {K : List (List Int)} (hx : (∀ y ∈ x, -999999999 ≤ y ∧ y ≤ 999999999) ∧ x.length ≤ 2000) (hK : Mk K) (S : Sto) :
    notInD (.py (e x)) (.obj S.length) (stL S (K.map e)) = .ok (.py (.bool (!decide (x ∈ K)))) (stL S (K.map e)) := by
  have h1 : deep (stL S (K.map e)) 8 (.py (e x)) = some (e x) := rfl
  simp only [notInD, inS, deep_stL, h1, inB]
  rw [if_pos ⟨(he.fit x hx.1 hx.2).shaped (by decide), (he.fitL hK).shaped (by decide)⟩, any_eqv he]
/-- the marks as they are walked -/
structure Mks (d : PyData) (e : List Int → PyData) (M : List (List Int)) : Prop where
  seq : seqD (.py d) = some (M.map e)
  walk : ∀ S, pyWalk S (.py d) = some (M.map e)
end DV

set_option maxHeartbeats 4000000
namespace DV
open PySem
/-! The law's own gaps, marks and groups. -/
def LP (P : List Pair) : Prop := P.length ≤ 40000 ∧ ∀ p ∈ P, p.1 ≤ 122 ∧ p.2.1 ≤ 122
def leftM (f : Face) (P : List Pair) : List (List Int) := f.lets.map fun l => f.lets.map fun r => gapIn P l r
/-! ### the first place of a mark -/
theorem place_enc {e : List Int → PyData} (he : Enc e) (M : List (List Int)) (x : List Int) : placeOf (M.map e) (e x) = M.findIdx? fun m => decide (m = x) := by
  unfold placeOf
  rw [List.findIdx?_map]
  congr 1
  funext m
  exact he.eqv m x
theorem Enc.index {e : List Int → PyData} (he : Enc e) {M : List (List Int)} {x : List Int} {j : Nat} (hM : Mk M) (hx : (∀ y ∈ x, -999999999 ≤ y ∧ y ≤ 999999999) ∧ x.length ≤ 2000) (hj : M.findIdx? (fun m => decide (m = x)) = some j) (S : Sto) :
    indexD (.py (.list (M.map e))) [.py (e x)] S = .ok (.py (.int (j : Nat))) S := by
  have h1 : deep S 8 (.py (.list (M.map e))) = some (.list (M.map e)) := rfl
  have h2 : deep S 8 (.py (e x)) = some (e x) := rfl
  simp only [indexD, h1, h2, place_enc he, hj]
  rw [if_pos ⟨(he.fitL hM).shaped (by decide), (he.fit x hx.1 hx.2).shaped (by decide)⟩]
end DV

set_option maxHeartbeats 4000000
namespace DV
open PySem
/-! Lists of gaps that are small enough. -/
structure PG (P : List Pair) : Prop where
  len : P.length ≤ 40000
  lts : ∀ p ∈ P, p.1 ≤ 122 ∧ p.2.1 ≤ 122
  gap : ∀ p ∈ P, -999999999 ≤ p.2.2 ∧ p.2.2 ≤ 999999999
theorem PG.nil : PG [] := ⟨by simp, by simp, by simp⟩
theorem PG.lp {P : List Pair} (h : PG P) : LP P := ⟨h.len, h.lts⟩
theorem PG.fit {P : List Pair} (h : PG P) : Fit (encP P) 2 240000 := by
  refine (Fit.tupleN (k := 1) (w := 5) (m := 40000) (fun d hd => ?_) (by simpa using h.len)).mono (by decide) (by decide)
  obtain ⟨p, hp, rfl⟩ := List.mem_map.mp hd
  have a := h.lts p hp
  have b := h.gap p hp
  exact fit_encT (by omega) (by omega) (by omega) (by omega)
theorem PG.bnd {P : List Pair} (h : PG P) (l r : Nat) : -999999999 ≤ gapIn P l r ∧ gapIn P l r ≤ 999999999 := by
  unfold gapIn
  split
  · rename_i p hp
    exact h.gap p (List.mem_of_find?_eq_some hp)
  · omega
theorem PG.left {P : List Pair} (h : PG P) {f : Face} (hf : f.ls.length ≤ 200) : Mk (leftM f P) := by
  refine ⟨by simpa [leftM] using hf, fun r hr => ?_, fun r hr x hx => ?_⟩
  · obtain ⟨l, _, rfl⟩ := List.mem_map.mp hr
    simp
    omega
  · obtain ⟨l, _, rfl⟩ := List.mem_map.mp hr
    obtain ⟨q, _, rfl⟩ := List.mem_map.mp hx
    exact h.bnd _ _
theorem face_fit {f : Face} {lo hi : Int} (h : f.Good lo hi) (hl : f.ls.length ≤ 200) : Fit f.py 3 2000 := by
  have h1 : Fit (.tuple (f.ls.map encL)) 2 1600 := by
    refine (Fit.tupleN (k := 1) (w := 3) (m := 200) (fun d hd => ?_) (by simpa using hl)).mono (by decide) (by decide)
    obtain ⟨p, hp, rfl⟩ := List.mem_map.mp hd
    have a := h.ok p hp
    exact (Fit.tuple (.cons (Fit.lt (by omega)) (.cons (Fit.int (by omega) (by omega)) (FitL.nil (w := 0))))).mono (by decide) (by decide)
  have w0 := h.w0
  have w1 := h.w1
  exact (Fit.tuple (.cons ((Fit.int (i := f.w) (by omega) (by omega)).mono (k' := 2) (by decide) (Nat.le_refl _)) (.cons h1 (FitL.nil (w := 0))))).mono (by decide) (by decide)
end DV

set_option maxHeartbeats 4000000
namespace DV
open PySem
/-! Tables by classes of letters. -/
end DV

set_option maxHeartbeats 4000000
namespace DV
open PySem
/-! Letters, gaps and rows that are known. -/
theorem is_from_to_int (i lo hi : Int) (S : Sto) : F_is_from_to [.py (.int i), .py (.int lo), .py (.int hi)] S = .ok (.py (.bool (decide (lo ≤ i ∧ i ≤ hi)))) S := by
  unfold F_is_from_to b_is_from_to
  refine fn_eq (wp_fn ?_)
  simp [init, isB]
  by_cases h : lo ≤ i
  · simp [h]
    first | exact ⟨.self, rfl⟩ | exact .inr ⟨.self, rfl⟩
  · have h' : i < lo := by omega
    simp [h, h']
    exact ⟨.self, rfl⟩
abbrev encU (R : List (List Int)) : PyData := .tuple (R.map tupI)
@[simp] theorem seqD_encU (R : List (List Int)) : seqD (.py (encU R)) = some (R.map tupI) := id rfl
@[simp] theorem walk_encU (R : List (List Int)) (S : Sto) : pyWalk S (.py (encU R)) = some (R.map tupI) := id rfl
@[simp] theorem seqD_tupI (r : List Int) : seqD (.py (tupI r)) = some (r.map .int) := id rfl
@[simp] theorem walk_tupI (r : List Int) (S : Sto) : pyWalk S (.py (tupI r)) = some (r.map .int) := id rfl
end DV

set_option maxHeartbeats 4000000
namespace DV
open PySem
/-! Partings. -/
/-! ### the place of a letter -/
abbrev plc (L : List Nat) (c : Nat) : Nat := L.idxOf c
/-! ### partings -/
def hd0 (g : List Nat) : Nat := g.headD 0
structure IsPart (L : List Nat) (G : List (List Nat)) : Prop where
  ne : ∀ g ∈ G, g ≠ []
  srt : ∀ g ∈ G, (g.map (plc L)).Pairwise (· < ·)
  mem : ∀ g ∈ G, ∀ c ∈ g, c ∈ L
  heads : (G.map fun g => plc L (hd0 g)).Pairwise (· < ·)
  perm : G.flatten.Perm L
theorem plc_at {L : List Nat} (nd : L.Nodup) {i c : Nat} (h : L[i]? = some c) : plc L c = i := by
  obtain ⟨hi, rfl⟩ := List.getElem?_eq_some_iff.mp h
  exact List.Nodup.idxOf_getElem nd i hi
theorem plc_map {L : List Nat} (nd : L.Nodup) : L.map (plc L) = List.range L.length := by
  refine List.ext_getElem (by simp) fun i h1 h2 => ?_
  simp only [List.getElem_map, List.getElem_range]
  exact plc_at nd (List.getElem?_eq_getElem (by simpa using h1))
theorem sub_srt {L g : List Nat} (nd : L.Nodup) (h : g.Sublist L) : (g.map (plc L)).Pairwise (· < ·) := by
  have h1 : (g.map (plc L)).Sublist (L.map (plc L)) := h.map _
  rw [plc_map nd] at h1
  exact List.Pairwise.sublist h1 List.pairwise_lt_range
/-! ### groups are partings -/
theorem firsts_nodup (M : List (List Int)) : (firsts M).Nodup := by
  have key : ∀ (M acc : List (List Int)), acc.Nodup → (M.foldl (fun acc m => if m ∈ acc then acc else acc ++ [m]) acc).Nodup := by
    intro M
    induction M with
    | nil => exact fun _ h => h
    | cons x M ih =>
      intro acc h
      rw [List.foldl_cons]
      refine ih _ ?_
      split
      · exact h
      · rename_i hx
        rw [List.nodup_append]
        refine ⟨h, by simp, fun a ha b hb => ?_⟩
        rw [List.mem_singleton] at hb
        subst hb
        exact fun e => hx (e ▸ ha)
  exact key M [] List.nodup_nil
end DV

set_option maxHeartbeats 4000000
namespace DV
open PySem
/-! Partings are known; classes. -/
structure Sm (r : List Int) : Prop where
  bnd : ∀ x ∈ r, -999999999 ≤ x ∧ x ≤ 999999999
  len : r.length ≤ 2000
@[simp] theorem wp_sumL (f : Ex) {σ : En} {S : Sto} {P : List D → Sto → Prop} {E : Str → Sto → Prop} : (sumL f σ S).wp P E = (f σ S).wp (fun d S1 => ∃ ds Ls, d = .py (.list ds) ∧ listsOf ds = some Ls ∧ Ls.flatten.length ≤ sizeLine ∧ P (Ls.flatten.map .py) S1) E := by
  unfold sumL
  rw [wp_bind]
  congr 1
  funext d S1
  rcases d with d | n | n
  · cases d
    case list ds =>
      cases h : listsOf ds with
      | none =>
        simp only [h]
        exact propext ⟨fun h => h.elim, fun ⟨_, _, e, h2, _⟩ => by cases e; rw [h] at h2; cases h2⟩
      | some Ls =>
        simp only [h]
        rw [wp_iteR]
        split
        · rename_i hz
          exact propext ⟨fun p => ⟨_, _, rfl, h, hz, p⟩, fun ⟨_, _, e, h2, _, p⟩ => by cases e; rw [h] at h2; cases h2; exact p⟩
        · rename_i hz
          exact propext ⟨fun p => p.elim, fun ⟨_, _, e, h2, z, p⟩ => by cases e; rw [h] at h2; cases h2; exact hz z⟩
    all_goals exact propext ⟨fun h => h.elim, fun ⟨_, _, e, _⟩ => by cases e⟩
  · exact propext ⟨fun h => h.elim, fun ⟨_, _, e, _⟩ => by cases e⟩
  · exact propext ⟨fun h => h.elim, fun ⟨_, _, e, _⟩ => by cases e⟩
/-- places as whole numbers -/
def plI (L : List Nat) (g : List Nat) : List Int := g.map fun c => (plc L c : Int)
@[simp] theorem plI_len (L g : List Nat) : (plI L g).length = g.length := by simp [plI]
theorem IsPart.len {L : List Nat} {G : List (List Nat)} (h : IsPart L G) : (G.map List.length).sum = L.length := by
  rw [← h.perm.length_eq, List.length_flatten]
end DV

set_option maxHeartbeats 4000000
namespace DV
open PySem
/-! Tables: what they tell. -/
inductive Ky where
  | l (c : Nat)
  | n (i : Nat)
  deriving DecidableEq
def encK : Ky → PyData
  | .l c => lt c
  | .n i => .int i
abbrev Exc := Ky × Ky × Int
abbrev encE (e : Exc) : PyData := .tuple [encK e.1, encK e.2.1, .int e.2.2]
theorem eq_key (a b : Ky) (S : Sto) : eqD (.py (encK a)) (.py (encK b)) S = .ok (.py (.bool (decide (a = b)))) S := by
  cases a <;> cases b <;> simp [encK, eqD, eqB, flatD, Int.ofNat_inj]
@[simp] theorem eq_kk (a b : Ky) (S : Sto) : eqD (.py (encK a)) (.py (encK b)) S = .ok (.py (.bool (decide (a = b)))) S := eq_key a b S
structure Tab where
  lefts : List (List Nat)
  rights : List (List Nat)
  gaps : List (List Int)
  exc : List Exc
abbrev Tab.py (t : Tab) : PyData := .tuple [encG t.lefts, encG t.rights, encU t.gaps, .tuple (t.exc.map encE)]
def clsIn (G : List (List Nat)) (c : Nat) : Nat := G.findIdx fun g => decide (c ∈ g)
theorem IsPart.has {L : List Nat} {G : List (List Nat)} (h : IsPart L G) {c : Nat} (hc : c ∈ L) : ∃ g ∈ G, c ∈ g := List.mem_flatten.mp (h.perm.mem_iff.mpr hc)
/-! ### what is told -/
def hit (es : List Exc) (a b : Ky) : Option Int := (es.find? fun e => decide (e.1 = a ∧ e.2.1 = b)).map (·.2.2)
structure TabOk (L : List Nat) (t : Tab) : Prop where
  lp : IsPart L t.lefts
  rp : IsPart L t.rights
  gl : t.gaps.length = t.lefts.length
  gr : ∀ r ∈ t.gaps, r.length = t.rights.length
  gb : ∀ r ∈ t.gaps, ∀ x ∈ r, -9 ≤ x ∧ x ≤ 9
/-! ### the law's own look -/
def kyB (k : Ky) : Prop := match k with
  | .l c => c ≤ 122
  | .n i => i ≤ 1000
structure ExOk (es : List Exc) : Prop where
  len : es.length ≤ 2000
  key : ∀ e ∈ es, kyB e.1 ∧ kyB e.2.1
  gap : ∀ e ∈ es, -9 ≤ e.2.2 ∧ e.2.2 ≤ 9
def Ky.isL : Ky → Bool
  | .l _ => true
  | .n _ => false
@[simp] theorem isL_l (c : Nat) : (Ky.l c).isL = true := id rfl
@[simp] theorem isL_n (c : Nat) : (Ky.n c).isL = false := id rfl
end DV

set_option maxHeartbeats 4000000
namespace DV
open PySem
/-! Tables drawn from the box; tables known. -/
/-! ### exceptions drawn -/
abbrev kk (e : Exc) : Ky × Ky := (e.1, e.2.1)
def cross (A B : List Ky) : List (Ky × Ky) := A.flatMap fun a => B.map fun b => (a, b)
def gapB (x : Int) : Prop := -9 ≤ x ∧ x ≤ 9
end DV

set_option maxHeartbeats 4000000
namespace DV
open PySem
/-! Exceptions in order; tables known. -/
def keyI (L : List Nat) : Ky × Ky → List Int
  | (.l a, .l b) => [0, plc L a, plc L b]
  | (.l a, .n j) => [1, plc L a, j]
  | (.n i, .l b) => [2, i, plc L b]
  | (.n i, .n j) => [3, i, j]
def allK (L : List Nat) (nl nr : Nat) : List (Ky × Ky) := cross (L.map .l) (L.map .l) ++ (cross (L.map .l) ((List.range nr).map .n) ++ cross ((List.range nl).map .n) (L.map .l))
theorem lex3 (k x y k' x' y' : Int) : HT.lexLt [k, x, y] [k', x', y'] = true ↔ k < k' ∨ (k = k' ∧ (x < x' ∨ (x = x' ∧ y < y'))) := by
  rw [HT.lexLt_cons]
  split
  · rename_i h
    rw [HT.lexLt_cons]
    split
    · rename_i h2
      rw [HT.lexLt_cons]
      split
      · rename_i h3
        simp [HT.lexLt_nil_nil]
        omega
      · simp
        omega
    · simp
      omega
  · simp
    omega
theorem cross_pw {α β : Type} {A : List α} {B : List β} (fa : α → Ky) (fb : β → Ky) (L : List Nat) (k : Int) (ga : α → Int) (gb : β → Int) (hA : A.Pairwise fun a b => ga a < ga b) (hB : B.Pairwise fun a b => gb a < gb b)
    (h : ∀ a b, keyI L (fa a, fb b) = [k, ga a, gb b]) : ((cross (A.map fa) (B.map fb)).map (keyI L)).Pairwise fun a b => HT.lexLt a b = true := by
  unfold cross
  rw [List.pairwise_map, List.flatMap_map, List.pairwise_flatMap]
  refine ⟨fun a ha => ?_, hA.imp fun {a a'} haa x hx y hy => ?_⟩
  · rw [List.map_map, List.pairwise_map]
    refine hB.imp fun {b b'} hbb => ?_
    simp only [Function.comp_def, h]
    rw [lex3]
    omega
  · rw [List.map_map] at hx hy
    obtain ⟨b, hb, rfl⟩ := List.mem_map.mp hx
    obtain ⟨b', hb', rfl⟩ := List.mem_map.mp hy
    simp only [Function.comp_def, h]
    rw [lex3]
    omega
theorem mem_cross {A B : List Ky} {p : Ky × Ky} (h : p ∈ cross A B) : p.1 ∈ A ∧ p.2 ∈ B := by
  unfold cross at h
  obtain ⟨a, ha, h⟩ := List.mem_flatMap.mp h
  obtain ⟨b, hb, rfl⟩ := List.mem_map.mp h
  exact ⟨ha, hb⟩
theorem plc_pw {L : List Nat} (nd : L.Nodup) : L.Pairwise fun a b => (plc L a : Int) < plc L b := by
  have := sub_srt nd (List.Sublist.refl L)
  rw [List.pairwise_map] at this
  exact this.imp fun h => by omega
theorem range_pw (n : Nat) : (List.range n).Pairwise fun (a b : Nat) => (a : Int) < (b : Int) := List.pairwise_lt_range.imp fun h => by omega
theorem allK_pw {L : List Nat} (nd : L.Nodup) (nl nr : Nat) : ((allK L nl nr).map (keyI L)).Pairwise fun a b => HT.lexLt a b = true := by
  unfold allK
  rw [List.map_append, List.map_append, List.pairwise_append, List.pairwise_append]
  have key : ∀ {A B : List Ky} {k : Int}, (∀ a ∈ A, ∀ b ∈ B, ∃ x y, keyI L (a, b) = [k, x, y]) → ∀ z ∈ (cross A B).map (keyI L), ∃ x y, z = [k, x, y] := fun hh z hz => by
    obtain ⟨p, hp, rfl⟩ := List.mem_map.mp hz
    have := mem_cross hp
    exact hh _ this.1 _ this.2
  have k0 := key (A := L.map .l) (B := L.map .l) (k := 0) fun a ha b hb => by
    obtain ⟨a, _, rfl⟩ := List.mem_map.mp ha
    obtain ⟨b, _, rfl⟩ := List.mem_map.mp hb
    exact ⟨_, _, rfl⟩
  have k1 := key (A := L.map .l) (B := (List.range nr).map .n) (k := 1) fun a ha b hb => by
    obtain ⟨a, _, rfl⟩ := List.mem_map.mp ha
    obtain ⟨b, _, rfl⟩ := List.mem_map.mp hb
    exact ⟨_, _, rfl⟩
  have k2 := key (A := (List.range nl).map .n) (B := L.map .l) (k := 2) fun a ha b hb => by
    obtain ⟨a, _, rfl⟩ := List.mem_map.mp ha
    obtain ⟨b, _, rfl⟩ := List.mem_map.mp hb
    exact ⟨_, _, rfl⟩
  refine ⟨cross_pw Ky.l Ky.l L 0 (fun a => plc L a) (fun a => plc L a) (plc_pw nd) (plc_pw nd) fun _ _ => rfl, ⟨cross_pw Ky.l Ky.n L 1 (fun a => plc L a) (fun j => j) (plc_pw nd) (range_pw nr) fun _ _ => rfl, cross_pw Ky.n Ky.l L 2 (fun j => j) (fun a => plc L a) (range_pw nl) (plc_pw nd) fun _ _ => rfl, fun x hx y hy => ?_⟩, fun x hx y hy => ?_⟩
  · obtain ⟨a, b, rfl⟩ := k1 x hx
    obtain ⟨c, d, rfl⟩ := k2 y hy
    rw [lex3]
    omega
  · obtain ⟨a, b, rfl⟩ := k0 x hx
    rcases List.mem_append.mp hy with hy | hy
    · obtain ⟨c, d, rfl⟩ := k1 y hy
      rw [lex3]
      omega
    · obtain ⟨c, d, rfl⟩ := k2 y hy
      rw [lex3]
      omega
/-- exceptions that stand in order -/
structure ExIn (L : List Nat) (nl nr : Nat) (es : List Exc) : Prop where
  sub : (es.map kk).Sublist (allK L nl nr)
  gap : ∀ e ∈ es, gapB e.2.2
theorem ExIn.srt {L : List Nat} {nl nr : Nat} {es : List Exc} (h : ExIn L nl nr es) (nd : L.Nodup) : ((es.map kk).map (keyI L)).Pairwise fun a b => HT.lexLt a b = true :=
  List.Pairwise.sublist (h.sub.map _) (allK_pw nd nl nr)
theorem ExIn.cut {L : List Nat} {nl nr : Nat} {es fs : List Exc} (h : ExIn L nl nr es) (hs : fs.Sublist es) : ExIn L nl nr fs := ⟨(hs.map _).trans h.sub, fun e he => h.gap e (hs.subset he)⟩
inductive KyIn (L : List Nat) (nl nr : Nat) : Ky × Ky → Prop
  | ll {a b : Nat} : a ∈ L → b ∈ L → KyIn L nl nr (.l a, .l b)
  | ln {a j : Nat} : a ∈ L → j < nr → KyIn L nl nr (.l a, .n j)
  | nl {i b : Nat} : i < nl → b ∈ L → KyIn L nl nr (.n i, .l b)
theorem allK_in {L : List Nat} {nl nr : Nat} {p : Ky × Ky} (h : p ∈ allK L nl nr) : KyIn L nl nr p := by
  unfold allK at h
  obtain ⟨a, b⟩ := p
  rcases List.mem_append.mp h with h | h
  · obtain ⟨h1, h2⟩ := mem_cross h
    obtain ⟨a, ha, rfl⟩ := List.mem_map.mp h1
    obtain ⟨b, hb, rfl⟩ := List.mem_map.mp h2
    exact .ll ha hb
  rcases List.mem_append.mp h with h | h
  · obtain ⟨h1, h2⟩ := mem_cross h
    obtain ⟨a, ha, rfl⟩ := List.mem_map.mp h1
    obtain ⟨b, hb, rfl⟩ := List.mem_map.mp h2
    exact .ln ha (List.mem_range.mp hb)
  · obtain ⟨h1, h2⟩ := mem_cross h
    obtain ⟨a, ha, rfl⟩ := List.mem_map.mp h1
    obtain ⟨b, hb, rfl⟩ := List.mem_map.mp h2
    exact .nl (List.mem_range.mp ha) hb
theorem ExIn.kyin {L : List Nat} {nl nr : Nat} {es : List Exc} (h : ExIn L nl nr es) {e : Exc} (he : e ∈ es) : KyIn L nl nr (kk e) := allK_in (h.sub.subset (List.mem_map.mpr ⟨e, he, rfl⟩))
theorem cross_length (A B : List Ky) : (cross A B).length = A.length * B.length := by
  unfold cross
  rw [List.length_flatMap]
  simp only [List.length_map]
  induction A with
  | nil => simp
  | cons a A ih => rw [List.map_cons, List.sum_cons, ih, List.length_cons, Nat.succ_mul, Nat.add_comm]
theorem ExIn.ok {L : List Nat} {nl nr : Nat} {es : List Exc} (h : ExIn L nl nr es) (hL : L.length ≤ 20) (hnl : nl ≤ 20) (hnr : nr ≤ 20) (b : ∀ c ∈ L, c ≤ 122) : ExOk es := by
  refine ⟨?_, fun e he => ?_, h.gap⟩
  · have h1 := h.sub.length_le
    unfold allK at h1
    simp only [List.length_append, cross_length, List.length_map, List.length_range] at h1
    have h2 : L.length * L.length ≤ 20 * 20 := Nat.mul_le_mul hL hL
    have h3 : L.length * nr ≤ 20 * 20 := Nat.mul_le_mul hL hnr
    have h4 : nl * L.length ≤ 20 * 20 := Nat.mul_le_mul hnl hL
    omega
  · have := h.kyin he
    obtain ⟨x, y, g⟩ := e
    cases this with
    | ll ha hb => exact ⟨b _ ha, b _ hb⟩
    | ln ha hb => exact ⟨b _ ha, show _ ≤ 1000 by omega⟩
    | nl ha hb => exact ⟨show _ ≤ 1000 by omega, b _ hb⟩
end DV

set_option maxHeartbeats 4000000
namespace DV
open PySem
/-! Tables drawn; tables known. -/
structure TabIn (L : List Nat) (t : Tab) : Prop where
  ok : TabOk L t
  ex : ExIn L t.lefts.length t.rights.length t.exc
/-! ### is_table -/
@[simp] theorem wp_sliceL (a : Ex) (lo hi : Px) {σ : En} {S : Sto} {P : List D → Sto → Prop} {E : Str → Sto → Prop} : (sliceL a lo hi σ S).wp P E = (a σ S).wp (fun x S1 => (lo σ S1).wp (fun l S2 => (hi σ S2).wp (fun h S3 => (match seqOf S3 x with
    | some ds => (match x with
      | .py (.tuple _) => R.no
      | _ => if ds.length ≤ sizeLine then .ok (cutP ds l h) S3 else .no)
    | none => .no).wp P E) E) E) E := by
  unfold sliceL
  rw [wp_bind]
  congr 1
  funext x S1
  rw [wp_bind]
  congr 1
  funext l S2
  rw [wp_bind]
  try rfl
@[simp] theorem wp_noP {σ : En} {S : Sto} {P : Option Int → Sto → Prop} {E : Str → Sto → Prop} : (noP σ S).wp P E = P none S := id rfl
@[simp] theorem wp_someP (a : Ex) {σ : En} {S : Sto} {P : Option Int → Sto → Prop} {E : Str → Sto → Prop} : (someP a σ S).wp P E = (a σ S).wp (fun d S1 => ∃ i, d = .py (.int i) ∧ P (some i) S1) E := by
  unfold someP
  rw [wp_bind]
  congr 1
  funext d S1
  split
  · exact propext ⟨fun h => ⟨_, rfl, h⟩, fun ⟨k, e, h⟩ => by cases e; exact h⟩
  · rename_i hn
    exact propext ⟨fun h => h.elim, fun ⟨k, e, h⟩ => (hn k e).elim⟩
/-! ### what is told -/
end DV

set_option maxHeartbeats 4000000
namespace DV
open PySem
end DV

set_option maxHeartbeats 4000000
namespace DV
open PySem
/-! The first pair unlike. -/
end DV

set_option maxHeartbeats 4000000
namespace DV
open PySem
end DV

set_option maxHeartbeats 4000000
namespace DV
open PySem
/-! Idle exceptions: the plain theory. -/
def tl (t : Tab) (es : List Exc) (l r : Nat) : Int := (hit es (.l l) (.l r)).getD ((hit es (.l l) (.n (clsIn t.rights r))).getD ((hit es (.n (clsIn t.lefts l)) (.l r)).getD ((t.gaps.getD (clsIn t.lefts l) []).getD (clsIn t.rights r) 0)))
theorem hit_app (A B : List Exc) (a b : Ky) : hit (A ++ B) a b = (hit A a b).or (hit B a b) := by
  unfold hit
  rw [List.find?_append]
  cases A.find? (fun e => decide (e.1 = a ∧ e.2.1 = b)) <;> rfl
theorem hit_cons (x : Exc) (B : List Exc) (a b : Ky) : hit (x :: B) a b = if kk x = (a, b) then some x.2.2 else hit B a b := by
  unfold hit
  rw [List.find?_cons]
  by_cases h : x.1 = a ∧ x.2.1 = b
  · simp [h, kk]
  · have : ¬ kk x = (a, b) := fun e => h ⟨congrArg Prod.fst e, congrArg Prod.snd e⟩
    simp [h, this]
theorem hit_none {A : List Exc} {a b : Ky} : hit A a b = none ↔ ∀ e ∈ A, kk e ≠ (a, b) := by
  unfold hit
  rw [Option.map_eq_none_iff, List.find?_eq_none]
  constructor
  · intro h e he q
    exact h e he (decide_eq_true ⟨congrArg Prod.fst q, congrArg Prod.snd q⟩)
  · intro h e he q
    simp at q
    exact h e he (Prod.ext q.1 q.2)
def ty : Ky × Ky → Nat
  | (.l _, .l _) => 0
  | (.l _, .n _) => 1
  | (.n _, .l _) => 2
  | (.n _, .n _) => 3
/-- x stands behind A, ahead of B, and its key is its own -/
structure Mid (A B : List Exc) (x : Exc) : Prop where
  a : ∀ e ∈ A, kk e ≠ kk x ∧ ty (kk e) ≤ ty (kk x)
  b : ∀ e ∈ B, kk e ≠ kk x
theorem Mid.sub {A A' B : List Exc} {x : Exc} (h : Mid A B x) (s : A'.Sublist A) : Mid A' B x := ⟨fun e he => h.a e (s.subset he), h.b⟩
theorem Mid.at_ {A B : List Exc} {x : Exc} (h : Mid A B x) (a b : Ky) : hit (A ++ x :: B) a b = if kk x = (a, b) then some x.2.2 else hit (A ++ B) a b := by
  rw [hit_app, hit_cons, hit_app]
  split
  · rename_i e
    rw [hit_none.mpr fun y hy => e ▸ (h.a y hy).1]
    rfl
  · rfl
theorem Mid.later {A B : List Exc} {x : Exc} (h : Mid A B x) {a b : Ky} (q : ty (kk x) < ty (a, b)) : hit (A ++ B) a b = hit B a b := by
  rw [hit_app, hit_none.mpr fun y hy e => by
    have := (h.a y hy).2
    rw [e] at this
    omega]
  rfl
/-! ### leaving out from the last one on -/
end DV

set_option maxHeartbeats 4000000
namespace DV
open PySem
/-! Idle exceptions: the program. -/
theorem keyI_shape (L : List Nat) (p : Ky × Ky) : ∃ u v, keyI L p = [(ty p : Int), u, v] := by
  obtain ⟨a, b⟩ := p
  cases a <;> cases b <;> exact ⟨_, _, rfl⟩
theorem ExIn.mid {L : List Nat} {nl nr : Nat} {es A B B' : List Exc} {x : Exc} (h : ExIn L nl nr es) (nd : L.Nodup) (e : es = A ++ x :: B) (s : B'.Sublist B) : Mid A B' x := by
  have srt := h.srt nd
  rw [e, List.map_append, List.map_append, List.pairwise_append] at srt
  obtain ⟨_, s2, s3⟩ := srt
  rw [List.map_cons, List.map_cons, List.pairwise_cons] at s2
  have irr : ∀ p : Ky × Ky, HT.lexLt (keyI L p) (keyI L p) = true → False := fun p hp => by
    obtain ⟨u, v, e⟩ := keyI_shape L p
    rw [e, lex3] at hp
    omega
  refine ⟨fun y hy => ?_, fun y hy q => ?_⟩
  · have z := s3 (keyI L (kk y)) (List.mem_map.mpr ⟨_, List.mem_map.mpr ⟨y, hy, rfl⟩, rfl⟩) (keyI L (kk x)) (List.mem_cons_self ..)
    refine ⟨fun q => irr (kk x) (by rw [q] at z; exact z), ?_⟩
    obtain ⟨u, v, e1⟩ := keyI_shape L (kk y)
    obtain ⟨u', v', e2⟩ := keyI_shape L (kk x)
    rw [e1, e2, lex3] at z
    omega
  · have z := s2.1 (keyI L (kk y)) (List.mem_map.mpr ⟨_, List.mem_map.mpr ⟨y, s.subset hy, rfl⟩, rfl⟩)
    exact irr (kk x) (by rw [q] at z; exact z)
theorem TabIn.cut {L : List Nat} {t : Tab} {es : List Exc} (h : TabIn L t) (s : es.Sublist t.exc) : TabIn L { t with exc := es } := ⟨⟨h.ok.lp, h.ok.rp, h.ok.gl, h.ok.gr, h.ok.gb⟩, h.ex.cut s⟩
/-! ### the program's own -/
@[simp ↓] theorem wp_sliceE (a : Ex) (lo hi : Px) {σ : En} {S : Sto} {P : D → Sto → Prop} {E : Str → Sto → Prop} : (sliceE a lo hi σ S).wp P E = (a σ S).wp (fun x S1 => (lo σ S1).wp (fun l S2 => (hi σ S2).wp (fun h S3 => (sliceV x l h S3).wp P E) E) E) E := by
  unfold sliceE
  rw [wp_bind]
  congr 1
  funext x S1
  rw [wp_bind]
  congr 1
  funext l S2
  rw [wp_bind]
theorem cut_from {α : Type} (xs : List α) (n : Nat) : cutP xs (some (n : Int)) none = xs.drop n := by
  unfold cutP
  rw [HT.sIx_nat, HT.sIx_none]
  by_cases h : n ≤ xs.length
  · rw [Nat.min_eq_left h, List.take_of_length_le (by rw [List.length_drop]; omega)]
  · rw [Nat.min_eq_right (by omega), List.drop_length, List.drop_of_length_le (by omega), List.take_nil]
@[simp ↓] theorem wp_rrng1 (e : Ex) {σ : En} {S : Sto} {P : List D → Sto → Prop} {E : Str → Sto → Prop} : (rrng1I e σ S).wp P E = (e σ S).wp (fun d S1 => ∃ j, d = .py (.int j) ∧ (-(2 ^ 62) ≤ j ∧ j ≤ 16777216) ∧ P (rngV 0 j.toNat).reverse S1) E := by
  unfold rrng1I
  rw [wp_bind]
  congr 1
  funext d S1
  split
  · rw [wp_iteR]
    split
    · rename_i h
      exact propext ⟨fun p => ⟨_, rfl, h, p⟩, fun ⟨j, e, _, p⟩ => by cases e; exact p⟩
    · rename_i h
      exact propext ⟨fun p => p.elim, fun ⟨j, e, h', p⟩ => by cases e; exact h h'⟩
  · rename_i hn
    exact propext ⟨fun h => h.elim, fun ⟨k, e, _, h⟩ => (hn k e).elim⟩
end DV

set_option maxHeartbeats 4000000
namespace DV
open PySem
/-! Texts, and how wide they are. -/
abbrev tx (l : List Nat) : PyData := .str ⟨l.toArray⟩
abbrev lt1 (c : Nat) : PyData := lt c
theorem sl_big' : sizeLine = 16777216 := rfl
@[simp ↓] theorem wp_txt (e : Ex) {σ : En} {S : Sto} {P : List D → Sto → Prop} {E : Str → Sto → Prop} : (txtI e σ S).wp P E = (e σ S).wp (fun d S1 => ∃ x, d = .py (.str x) ∧ x.length ≤ 16777216 ∧ P (x.cps.toList.map fun c => D.py (.str ⟨#[c]⟩)) S1) E := by
  unfold txtI
  rw [wp_bind]
  congr 1
  funext d S1
  split
  · rw [wp_iteR]
    split
    · rename_i h
      exact propext ⟨fun p => ⟨_, rfl, h, p⟩, fun ⟨j, e, _, p⟩ => by cases e; exact p⟩
    · rename_i h
      exact propext ⟨fun p => p.elim, fun ⟨j, e, h', p⟩ => by cases e; exact h h'⟩
  · rename_i hn
    exact propext ⟨fun h => h.elim, fun ⟨k, e, _, h⟩ => (hn k e).elim⟩
theorem pw_tx {l : List Nat} (h : l.length ≤ 16777216) (S : Sto) : pyWalk S (.py (tx l)) = some (l.map lt) := by
  simp only [pyWalk]
  rw [if_pos (by simpa [Str.length] using h)]
theorem item_tx {l : List Nat} (hl : l.length ≤ 16777216) (k : Nat) {c : Nat} (h : l[k]? = some c) (S : Sto) : itemD (.py (tx l)) (.py (.int (k : Int))) S = .ok (.py (lt c)) S := by
  simp only [itemD]
  rw [if_pos (by simpa [Str.length, sl_big'] using hl)]
  rw [atI_nat k c h]
/-! ### signs -/
def Face.has (f : Face) (c : Nat) : Prop := c = 32 ∨ c ∈ f.lets
def sw (f : Face) (c : Nat) : Int := if c = 32 then f.w else ((f.ls.find? fun p => decide (p.1 = c)).map (·.2)).getD 0
def bt (P : List Pair) (a b : Nat) : Int := if a = 32 ∨ b = 32 then 0 else gapIn P a b
theorem blank_str : Str.ofString " " = ⟨#[32]⟩ := by decide +kernel
@[simp] theorem str_blank (c : Nat) : ((⟨#[c]⟩ : Str) = Str.ofString " ") = (c = 32) := by
  rw [blank_str]
  simp
def wd (f : Face) (P : List Pair) (l : List Nat) : Int := (l.map (sw f)).sum + ((l.zip (l.drop 1)).map fun p => bt P p.1 p.2).sum
end DV

set_option maxHeartbeats 4000000
namespace DV
open PySem
/-! The law's own measure of a text. -/
@[simp ↓] theorem wp_dictF (f : Ex) {σ : En} {S : Sto} {P : D → Sto → Prop} {E : Str → Sto → Prop} : (dictF f σ S).wp P E = (f σ S).wp (fun d S1 => ∃ ds kv, d = .py (.list ds) ∧ pairsOf ds = some kv ∧ (kv.map Prod.fst).Nodup ∧ P (.py (.dict (kv.map fun p => (keyP p.1, p.2)))) S1) E := by
  unfold dictF
  rw [wp_bind]
  congr 1
  funext d S1
  rcases d with d | n | n
  · cases d
    case list ds =>
      cases h : pairsOf ds with
      | none =>
        simp only [h]
        exact propext ⟨fun h => h.elim, fun ⟨_, _, e, h2, _⟩ => by cases e; rw [h] at h2; cases h2⟩
      | some kv =>
        simp only [h]
        rw [wp_iteR]
        split
        · rename_i hz
          exact propext ⟨fun p => ⟨_, _, rfl, h, hz, p⟩, fun ⟨_, _, e, h2, _, p⟩ => by cases e; rw [h] at h2; cases h2; exact p⟩
        · rename_i hz
          exact propext ⟨fun p => p.elim, fun ⟨_, _, e, h2, z, p⟩ => by cases e; rw [h] at h2; cases h2; exact hz z⟩
    all_goals exact propext ⟨fun h => h.elim, fun ⟨_, _, e, _⟩ => by cases e⟩
  · exact propext ⟨fun h => h.elim, fun ⟨_, _, e, _⟩ => by cases e⟩
  · exact propext ⟨fun h => h.elim, fun ⟨_, _, e, _⟩ => by cases e⟩
def dgetV (x y : D) (S2 : Sto) : R D := match x, y with
  | .py (.dict kvs), .py k => (match keyOf k with
    | some k => (match dlook kvs k with
      | some d => .ok (.py d) S2
      | none => .no)
    | none => .no)
  | _, _ => .no
@[simp ↓] theorem wp_dgetF (a b : Ex) {σ : En} {S : Sto} {P : D → Sto → Prop} {E : Str → Sto → Prop} : (dgetF a b σ S).wp P E = (a σ S).wp (fun x S1 => (b σ S1).wp (fun y S2 => (dgetV x y S2).wp P E) E) E := by
  unfold dgetF
  rw [wp_bind]
  congr 1
  funext x S1
  rw [wp_bind]
  rfl
theorem cutS_from {l : List Nat} (n : Nat) : L2.cutS (⟨l.toArray⟩ : Str) (some (n : Int)) none = ⟨(l.drop n).toArray⟩ := by
  have h := cut_from l n
  unfold cutP at h
  unfold L2.cutS
  have e : (⟨l.toArray⟩ : Str).length = l.length := by simp [Str.length]
  rw [e]
  simp only [List.toList_toArray]
  rw [h]
end DV

set_option maxHeartbeats 4000000
namespace DV
open PySem
/-! Words and lines. -/
def jn : List (List Nat) → List Nat
  | [] => []
  | [w] => w
  | w :: v :: r => w ++ 32 :: jn (v :: r)
abbrev st (w : List Nat) : Str := ⟨w.toArray⟩
/-- words of a face -/
structure Wds (f : Face) (ws : List (List Nat)) : Prop where
  ne : ∀ w ∈ ws, w ≠ []
  mem : ∀ w ∈ ws, ∀ c ∈ w, c ∈ f.lets
  short : ∀ w ∈ ws, w.length ≤ 100
  few : ws.length ≤ 60
theorem jn_len : ∀ {ws : List (List Nat)} {n : Nat}, (∀ w ∈ ws, w.length ≤ n) → (jn ws).length ≤ ws.length * (n + 1)
  | [], n, _ => by simp [jn]
  | [w], n, h => by
    have := h w (List.mem_cons_self ..)
    simp [jn]
    omega
  | w :: v :: r, n, h => by
    have h1 := h w (List.mem_cons_self ..)
    have h2 := jn_len (ws := v :: r) fun x hx => h x (List.mem_cons_of_mem _ hx)
    simp only [jn, List.length_append, List.length_cons, Nat.add_mul] at h2 ⊢
    omega
theorem Wds.len {f : Face} {ws : List (List Nat)} (h : Wds f ws) : (jn ws).length ≤ 10000 := by
  have h1 := jn_len h.short
  have h2 : ws.length * (100 + 1) ≤ 60 * 101 := Nat.mul_le_mul_right _ h.few
  omega
@[simp ↓] theorem wp_methSL (g : D → List D → Sto → R (List D)) (o : Ex) (a : Ax) {σ : En} {S : Sto} {P : List D → Sto → Prop} {E : Str → Sto → Prop} : (methSL g o a σ S).wp P E = (o σ S).wp (fun x S1 => ∃ z, x = .py (.str z) ∧ (a σ S1).wp (fun ds S2 => (g x ds S2).wp P E) E) E := by
  unfold methSL
  rw [wp_bind]
  congr 1
  funext d S1
  split
  · rw [wp_bind]
    exact propext ⟨fun h => ⟨_, rfl, h⟩, fun ⟨z, e, h⟩ => by cases e; exact h⟩
  · rename_i hn
    exact propext ⟨fun h => h.elim, fun ⟨z, e, _⟩ => (hn z e).elim⟩
end DV

set_option maxHeartbeats 4000000
namespace DV
open PySem
/-! Lines that take words as long as they fit. -/
/-- lines of so many words -/
structure Lns (f : Face) (ls : List (List Nat)) (k : Nat) : Prop where
  has : ∀ l ∈ ls, ∀ c ∈ l, f.has c
  len : ∀ l ∈ ls, l.length ≤ k * 101
  few : ls.length ≤ k
theorem Wds.pre {f : Face} {ws pre post : List (List Nat)} (h : Wds f ws) (e : ws = pre ++ post) : Wds f pre := by
  subst e
  exact ⟨fun w hw => h.ne w (List.mem_append_left _ hw), fun w hw => h.mem w (List.mem_append_left _ hw), fun w hw => h.short w (List.mem_append_left _ hw), by have := h.few; rw [List.length_append] at this; omega⟩
def sts (ls : List (List Nat)) : List PyData := ls.map fun w => PyData.str (st w)
@[simp] theorem sts_len (ls : List (List Nat)) : (sts ls).length = ls.length := by simp [sts]
end DV

set_option maxHeartbeats 4000000
namespace DV
open PySem
/-! How wide words and lines are. -/
/-- widths and gaps as they are drawn -/
structure Wid (f : Face) (P : List Pair) : Prop where
  w : 1 ≤ f.w ∧ f.w ≤ 99
  s : ∀ c ∈ f.lets, 10 ≤ sw f c ∧ sw f c ≤ 99
  g : ∀ a b, -9 ≤ bt P a b ∧ bt P a b ≤ 9
theorem snoc_ind {α : Type} {Q : List α → Prop} (h0 : Q []) (hs : ∀ l a, Q l → Q (l ++ [a])) : ∀ l, Q l := by
  have key : ∀ (n : Nat) (l : List α), l.length = n → Q l := by
    intro n
    induction n with
    | zero => intro l h; rw [List.eq_nil_of_length_eq_zero h]; exact h0
    | succ n ih =>
      intro l h
      have hne : l ≠ [] := fun e => by rw [e] at h; cases h
      rw [← List.dropLast_concat_getLast hne]
      exact hs _ _ (ih _ (by simp [h]))
  exact fun l => key _ l rfl
end DV

set_option maxHeartbeats 4000000
namespace DV
open PySem
/-! Words and rooms drawn. -/
@[simp ↓] theorem wp_methS (g : D → List D → Sto → R D) (o : Ex) (a : Ax) {σ : En} {S : Sto} {P : D → Sto → Prop} {E : Str → Sto → Prop} : (methS g o a σ S).wp P E = (o σ S).wp (fun x S1 => ∃ z, x = .py (.str z) ∧ (a σ S1).wp (fun ds S2 => (g x ds S2).wp P E) E) E := by
  unfold methS
  rw [wp_bind]
  congr 1
  funext d S1
  split
  · rw [wp_bind]
    exact propext ⟨fun h => ⟨_, rfl, h⟩, fun ⟨z, e, h⟩ => by cases e; exact h⟩
  · rename_i hn
    exact propext ⟨fun h => h.elim, fun ⟨z, e, _⟩ => (hn z e).elim⟩
end DV

set_option maxHeartbeats 4000000
namespace DV
open PySem
end DV

set_option maxHeartbeats 4000000
namespace DV
open PySem
end DV

set_option maxHeartbeats 4000000
namespace DV
open PySem
/-! Texts, refused or not; odd things. -/
theorem wp_exq {α : Type} {r : R α} {c : Str} {S : Sto} (h : r.wp (fun _ _ => False) (fun c' T => c' = c ∧ T = S)) : r = .ex c S := by
  cases r with
  | ok a T => exact h.elim
  | ex c' T =>
    obtain ⟨rfl, rfl⟩ := h
    rfl
  | no => exact h.elim
instance (f : Face) (c : Nat) : Decidable (f.has c) := by unfold Face.has; infer_instance
/-- a text of the thing is not too long -/
def Short (n : Nat) (d : PyData) : Prop := ∀ x, d = .str x → x.length ≤ n
@[simp] theorem lstOf_list (ds : List PyData) (S : Sto) : lstOf S (.py (.list ds)) = some (ds.map .py) := rfl
theorem lstOf_obj {n : Nat} {ds : List D} {S : Sto} (h : S[n]? = some (.lst ds)) : lstOf S (.obj n) = some ds := by simp [lstOf, h]
@[simp ↓] theorem wp_catL (a b : Ex) {σ : En} {S : Sto} {P : List D → Sto → Prop} {E : Str → Sto → Prop} : (catL a b σ S).wp P E = (a σ S).wp (fun x S1 => (b σ S1).wp (fun y S2 => ∃ xs ys, lstOf S2 x = some xs ∧ lstOf S2 y = some ys ∧ xs.length + ys.length ≤ sizeLine ∧ P (xs ++ ys) S2) E) E := by
  unfold catL
  rw [wp_bind]
  congr 1
  funext x S1
  rw [wp_bind]
  congr 1
  funext y S2
  split
  · rename_i xs ys h1 h2
    rw [wp_iteR]
    split
    · rename_i hz
      exact propext ⟨fun p => ⟨xs, ys, h1, h2, hz, p⟩, fun ⟨_, _, e1, e2, _, p⟩ => by rw [h1] at e1; rw [h2] at e2; cases e1; cases e2; exact p⟩
    · rename_i hz
      exact propext ⟨fun p => p.elim, fun ⟨_, _, e1, e2, q, p⟩ => by rw [h1] at e1; rw [h2] at e2; cases e1; cases e2; exact hz q⟩
  · rename_i hn
    exact propext ⟨fun h => h.elim, fun ⟨_, _, e1, e2, _, _⟩ => (hn _ _ e1 e2).elim⟩
@[simp ↓] theorem wp_repL (a b : Ex) {σ : En} {S : Sto} {P : List D → Sto → Prop} {E : Str → Sto → Prop} : (repL a b σ S).wp P E = (a σ S).wp (fun x S1 => (b σ S1).wp (fun y S2 => ∃ xs k, lstOf S2 x = some xs ∧ y = .py (.int k) ∧ (-1000 ≤ k ∧ k ≤ 1000 ∧ xs.length ≤ 1000) ∧ P (List.replicate k.toNat xs).flatten S2) E) E := by
  unfold repL
  rw [wp_bind]
  congr 1
  funext x S1
  rw [wp_bind]
  congr 1
  funext y S2
  split
  · rename_i xs k h1
    rw [wp_iteR]
    split
    · rename_i hz
      exact propext ⟨fun p => ⟨xs, k, h1, rfl, hz, p⟩, fun ⟨_, _, e1, e2, _, p⟩ => by rw [h1] at e1; cases e1; cases e2; exact p⟩
    · rename_i hz
      exact propext ⟨fun p => p.elim, fun ⟨_, _, e1, e2, q, p⟩ => by rw [h1] at e1; cases e1; cases e2; exact hz q⟩
  · rename_i hn
    exact propext ⟨fun h => h.elim, fun ⟨_, _, e1, e2, _, _⟩ => (hn _ _ e1 e2).elim⟩
end DV

set_option maxHeartbeats 4000000
namespace DV
open PySem
/-! Things whose text may be asked, dicts among them. -/
mutual
theorem leaves_mono : ∀ (d : PyData), d.leavesShort 13 = true → d.leavesShort 25 = true
  | .none, _ => by rw [PyData.leavesShort.eq_1]
  | .bool b, _ => by rw [PyData.leavesShort.eq_2]
  | .int i, h => by
    rw [PyData.leavesShort.eq_3, decide_eq_true_eq] at h ⊢
    omega
  | .str x, h => by
    rw [PyData.leavesShort.eq_4] at h ⊢
    exact h
  | .list xs, h => by
    rw [PyData.leavesShort.eq_5] at h ⊢
    exact leaves_monoAll xs h
  | .tuple xs, h => by
    rw [PyData.leavesShort.eq_6] at h ⊢
    exact leaves_monoAll xs h
  | .dict kvs, h => by
    rw [PyData.leavesShort.eq_7] at h ⊢
    exact leaves_monoKv kvs h
theorem leaves_monoAll : ∀ (ds : List PyData), PyData.leavesShortAll 13 ds = true → PyData.leavesShortAll 25 ds = true
  | [], _ => by rw [PyData.leavesShortAll.eq_1]
  | d :: ds, h => by
    rw [PyData.leavesShortAll.eq_2, Bool.and_eq_true] at h ⊢
    exact ⟨leaves_mono d h.1, leaves_monoAll ds h.2⟩
theorem leaves_monoKv : ∀ (ds : List (PyData × PyData)), PyData.leavesShortKv 13 ds = true → PyData.leavesShortKv 25 ds = true
  | [], _ => by rw [PyData.leavesShortKv.eq_1]
  | (k, v) :: ds, h => by
    rw [PyData.leavesShortKv.eq_2, Bool.and_eq_true, Bool.and_eq_true] at h ⊢
    exact ⟨⟨leaves_mono k h.1.1, leaves_mono v h.1.2⟩, leaves_monoKv ds h.2⟩
end
structure FitX (d : PyData) (k w : Nat) : Prop where
  sh : d.showable = true
  dp : d.depth ≤ k
  ls : d.leavesShort 25 = true
  bk : d.bulk ≤ w
structure FitXL (ds : List PyData) (k w : Nat) : Prop where
  sh : PyData.showableAll ds = true
  dp : PyData.depthAll ds ≤ k
  ls : PyData.leavesShortAll 25 ds = true
  bk : PyData.bulkAll ds ≤ w
theorem Fit.x {d : PyData} {k w : Nat} (h : Fit d k w) : FitX d k w := ⟨h.sh, h.dp, leaves_mono d h.ls, h.bk⟩
theorem FitX.mono {d : PyData} {k k' w w' : Nat} (h : FitX d k w) (hk : k ≤ k') (hw : w ≤ w') : FitX d k' w' := ⟨h.sh, Nat.le_trans h.dp hk, h.ls, Nat.le_trans h.bk hw⟩
theorem FitXL.nil {k w : Nat} : FitXL [] k w := ⟨PyData.showableAll.eq_1, by rw [PyData.depthAll.eq_1]; exact Nat.zero_le _, PyData.leavesShortAll.eq_1 25, by rw [PyData.bulkAll.eq_1]; exact Nat.zero_le _⟩
theorem FitXL.cons {d : PyData} {ds : List PyData} {k w w' : Nat} (h : FitX d k w) (hs : FitXL ds k w') : FitXL (d :: ds) k (w + 1 + w') := by
  refine ⟨?_, ?_, ?_, ?_⟩
  · rw [PyData.showableAll.eq_2, h.sh, hs.sh]
    rfl
  · rw [PyData.depthAll.eq_2]
    exact Nat.max_le.mpr ⟨h.dp, hs.dp⟩
  · rw [PyData.leavesShortAll.eq_2, h.ls, hs.ls]
    rfl
  · rw [PyData.bulkAll.eq_2]
    have := h.bk
    have := hs.bk
    omega
theorem FitX.list {ds : List PyData} {k w : Nat} (h : FitXL ds k w) : FitX (.list ds) (k + 1) w :=
  ⟨by rw [PyData.showable.eq_5]; exact h.sh, by rw [PyData.depth.eq_1]; exact Nat.succ_le_succ h.dp, by rw [PyData.leavesShort.eq_5]; exact h.ls, by rw [PyData.bulk.eq_2]; exact h.bk⟩
theorem FitX.tuple {ds : List PyData} {k w : Nat} (h : FitXL ds k w) : FitX (.tuple ds) (k + 1) w :=
  ⟨by rw [PyData.showable.eq_6]; exact h.sh, by rw [PyData.depth.eq_2]; exact Nat.succ_le_succ h.dp, by rw [PyData.leavesShort.eq_6]; exact h.ls, by rw [PyData.bulk.eq_3]; exact h.bk⟩
/-- two things in a list -/
theorem FitX.two {a b : PyData} {k w v : Nat} (ha : FitX a k w) (hb : FitX b k v) : FitX (.list [a, b]) (k + 1) (w + 1 + (v + 1 + 0)) := FitX.list (.cons ha (.cons hb .nil))
theorem FitX.repr {d : PyData} {k w : Nat} (h : FitX d k w) (hk : k ≤ 60) (hw : w ≤ 500000) (S : Sto) : reprX [.py d] S = .ok (.py (.str d.shown)) S := by
  have hz : d.shown.length ≤ sizeLine := by
    have h1 := PyData.shown_le_bulk 25 (by decide) d h.ls
    have h2 := h.bk
    rw [sizeLine_eq]
    have h3 : (25 + 2) * d.bulk ≤ 27 * 500000 := Nat.mul_le_mul_left _ (by omega)
    omega
  have e : deep S 8 (.py d) = some d := rfl
  unfold reprX
  simp only [e]
  rw [if_pos ⟨h.sh, Nat.le_trans h.dp hk, hz⟩]
theorem shI {i : Int} (h : -999999999999 ≤ i ∧ i ≤ 999999999999) : (PyData.int i).shown.length ≤ 25 := Nat.le_trans (PyData.shown_int_le2 h.1 h.2) (by decide)
theorem shBig : (PyData.int 10000000000000000000).shown.length ≤ 25 ∧ (PyData.int (-10000000000000000000)).shown.length ≤ 25 := by decide +kernel
theorem shS {i : Int} (h : -999999999999 ≤ i ∧ i ≤ 999999999999) : (PyData.int i).shown.cps.size ≤ 25 := shI h
end DV

set_option maxHeartbeats 4000000
namespace DV
open PySem
/-! The law's own loop, where it makes lambdas; what is said. -/
theorem law_allT {n : Nat} {c : Int} {b : Sx} {ns : List Int} {T : Nat} {q : Str} (hc : 1 ≤ c) (hc2 : c ≤ 60)
    (hb : ∀ (k : Nat) (ys : En) (S : Sto) (m : Nat), BoxAt S m → S[0]? = some (.tab T q) → m ≠ 0 → ys.length = n → k < 64 →
      (b (some (.py (.list (ns.map .int))) :: some (.py (.int k)) :: some (.obj m) :: ys) S).wp { nx := fun σ S' => Keep0 (.py (.list (ns.map .int))) (n + 2) σ ∧ Ch m S S', ct := fun σ S' => Keep0 (.py (.list (ns.map .int))) (n + 2) σ ∧ Ch m S S' }) :
    ∃ S', fnF (n + 3) (seqS (forS (rng1I (callE max2D (consA (cE (.int 1)) (consA (callE min2D (consA (callE lenD (consA (varE 0) nilA)) (consA (cE (.int c)) nilA))) nilA)))) (nmG 1)
      (seqS (asgS (callE F_law_box (consA (varE 0) (consA (varE 1) nilA))) (nmG 2)) b)) (retS (cE (.bool true)))) [.py (.list (ns.map .int))] [.tab T q] = .ok (.py (.bool true)) S' := by
  have key : (fnF (n + 3) (seqS (forS (rng1I (callE max2D (consA (cE (.int 1)) (consA (callE min2D (consA (callE lenD (consA (varE 0) nilA)) (consA (cE (.int c)) nilA))) nilA)))) (nmG 1)
      (seqS (asgS (callE F_law_box (consA (varE 0) (consA (varE 1) nilA))) (nmG 2)) b)) (retS (cE (.bool true)))) [.py (.list (ns.map .int))] [.tab T q]).wp (fun d _ => d = .py (.bool true)) noE := by
    refine wp_fn ?_
    have hi : init (n + 3) [.py (.list (ns.map .int))] = some (.py (.list (ns.map .int))) :: List.replicate (n + 2) none := rfl
    rw [hi]
    simp
    refine ⟨by split <;> split <;> omega, ?_⟩
    refine wp_forL (fun pre σ S => Keep0 (.py (.list (ns.map .int))) (n + 2) σ ∧ S[0]? = some (.tab T q)) ⟨.mk (by simp), rfl⟩ ?_ ?_
    · rintro pre x post σ S e ⟨⟨ys, rfl, hy⟩, h0⟩
      obtain ⟨y1, r1, rfl, h1⟩ := explode hy
      obtain ⟨y2, r2, rfl, h2⟩ := explode h1
      have hx : ∃ k : Nat, x = .py (.int k) ∧ k < 64 := by
        have hm : x ∈ rngV 0 (if (if c < (ns.length : Int) then c else (ns.length : Int)) > 1 then (if c < (ns.length : Int) then c else (ns.length : Int)) else 1).toNat := by
          have e' := e
          simp at e' ⊢
          rw [e']
          simp
        unfold rngV at hm
        rw [List.mem_map] at hm
        obtain ⟨k, hk, rfl⟩ := hm
        rw [List.mem_range] at hk
        refine ⟨k, by simp, ?_⟩
        split at hk <;> split at hk <;> omega
      obtain ⟨k, rfl, hk⟩ := hx
      simp
      refine (box_ok (ns := ns) (k := k) (by omega)).to ?_
      rintro d S1 ⟨rfl, a, b', rfl⟩
      have hbx : BoxAt (S ++ [.lst [.py (.int a), .py (.int b')]]) S.length := ⟨a, b', last_get⟩
      have l0 : 0 < S.length := (List.getElem?_eq_some_iff.mp h0).1
      have h0' : (S ++ [O.lst [.py (.int a), .py (.int b')]])[0]? = some (.tab T q) := by rw [List.getElem?_append_left l0]; exact h0
      have fin : ∀ σ S', Keep0 (.py (.list (ns.map .int))) (n + 2) σ ∧ Ch S.length (S ++ [.lst [.py (.int a), .py (.int b')]]) S' → Keep0 (.py (.list (ns.map .int))) (n + 2) σ ∧ S'[0]? = some (.tab T q) := fun σ S' ⟨k1, k2⟩ => ⟨k1, k2.at_ h0' (by omega)⟩
      exact (hb k r2 _ _ hbx h0' (by omega) h2 hk).mono (fun σ S' h => fin σ S' h) (fun _ _ h => h.elim) (fun _ _ h => h.elim) (fun σ S' h => fin σ S' h) fun _ _ h => h.elim
    · rintro σ S ⟨_, h0⟩
      have l0 : 0 < S.length := (List.getElem?_eq_some_iff.mp h0).1
      refine ⟨⟨S.take 1, ⟨l0, rfl, fun i o hi e => .inl ?_⟩⟩, rfl⟩
      have : i = 0 := by simpa using hi
      subst this
      rw [h0] at e
      cases e
      rfl
  obtain ⟨a, S', e, rfl⟩ := key.out
  exact ⟨S', e⟩
theorem wp_said {i T : Nat} {q : Str} {W : List (Str × Str)} {f : Ex} {σ : En} {S : Sto} {P : D → Sto → Prop} {E : Str → Sto → Prop} (h0 : S[i]? = some (.tab T q)) :
    (saidE T q W f σ S).wp P E = (f σ S).wp (fun d S1 => (reprD [d] S1).wp P E) (fun c S1 => ∃ t, W.lookup c = some t ∧ P (.py (.str t)) S1) := by
  unfold saidE
  rw [if_pos ⟨i, h0⟩]
  unfold saidR
  cases f σ S with
  | ok d S1 => rfl
  | no => rfl
  | ex c S1 =>
    simp only
    cases hw : W.lookup c with
    | none =>
      exact propext ⟨fun h => h.elim, fun ⟨t, e, _⟩ => by rw [hw] at e; cases e⟩
    | some t =>
      exact propext ⟨fun h => ⟨t, hw, h⟩, fun ⟨t', e, h⟩ => by rw [hw] at e; cases e; exact h⟩
theorem lstOf_last {S : Sto} {ds : List D} : lstOf (S ++ [.lst ds]) (.obj S.length) = some ds := lstOf_obj last_get
theorem get4 (S : Sto) (a b c d : O) : (S ++ [a, b, c, d])[S.length + 1 + 1 + 1]? = some d := by
  rw [List.getElem?_append_right (by omega)]
  have : S.length + 1 + 1 + 1 - S.length = 3 := by omega
  rw [this]
  rfl
theorem app4 (S : Sto) (a b c : O) (ds : List D) (x : D) (h : ds.length < sizeLine) : appendD (.obj (S.length + 1 + 1 + 1)) [x] (S ++ [a, b, c, .lst ds]) = .ok (.py .none) (S ++ [a, b, c, .lst (ds ++ [x])]) := by
  rw [appendD_obj (get4 S a b c (.lst ds)) h]
  have : (S ++ [a, b, c, .lst ds]).set (S.length + 1 + 1 + 1) (.lst (ds ++ [x])) = S ++ [a, b, c, .lst (ds ++ [x])] := by
    rw [List.set_append_right _ _ (by omega)]
    have : S.length + 1 + 1 + 1 - S.length = 3 := by omega
    rw [this]
    rfl
  rw [this]
/-- a thing that may be shown; its text, if it is one, is short -/
def okP (p : PyData) : Bool := p.showable && decide (p.depth ≤ 5) && p.leavesShort 25 && decide (p.bulk ≤ 200) && (p.canLay0 || isDk p)
def okD : D → Bool
  | .py (.str x) => okP (.str x) && (decide (x.length ≤ 100) && x.cps.toList.all fun c => decide (c ≤ 300))
  | .py p => okP p
  | _ => false
def Low (d : PyData) : Prop := ∀ x, d = .str x → ∀ c ∈ x.cps.toList, c ≤ 300
/-- a dict, or data without dicts -/
def Lay (p : PyData) : Prop := p.canLay0 = true ∨ isDk p = true
theorem okP_spec {p : PyData} (h : okP p = true) : FitX p 5 200 ∧ Lay p := by
  unfold okP at h
  simp only [Bool.and_eq_true, decide_eq_true_eq, Bool.or_eq_true] at h
  exact ⟨⟨h.1.1.1.1, h.1.1.1.2, h.1.1.2, h.1.2⟩, h.2⟩
theorem okD_spec {d : D} (h : okD d = true) : ∃ p, d = .py p ∧ Short 100 p ∧ Low p ∧ FitX p 5 200 ∧ Lay p := by
  cases d with
  | obj n => cases h
  | raw n => cases h
  | py p =>
    cases p with
    | str x =>
      have h := Bool.and_eq_true_iff.mp h
      have h2 := Bool.and_eq_true_iff.mp h.2
      refine ⟨_, rfl, fun x e => ?_, fun x e c hc => ?_, okP_spec h.1⟩
      · cases e
        exact of_decide_eq_true h2.1
      · cases e
        exact of_decide_eq_true (List.all_eq_true.mp h2.2 c hc)
    | none => exact ⟨_, rfl, fun x e => (by cases e), fun x e => (by cases e), okP_spec h⟩
    | bool b => exact ⟨_, rfl, fun x e => (by cases e), fun x e => (by cases e), okP_spec h⟩
    | int i => exact ⟨_, rfl, fun x e => (by cases e), fun x e => (by cases e), okP_spec h⟩
    | list ds => exact ⟨_, rfl, fun x e => (by cases e), fun x e => (by cases e), okP_spec h⟩
    | tuple ds => exact ⟨_, rfl, fun x e => (by cases e), fun x e => (by cases e), okP_spec h⟩
    | dict ds => exact ⟨_, rfl, fun x e => (by cases e), fun x e => (by cases e), okP_spec h⟩
theorem law_odd_okL {S : Sto} {n : Nat} {f : Face} (hB : BoxAt S n) (b122 : ∀ c ∈ f.lets, c ≤ 122) (h1 : 0 < f.ls.length) (h2 : f.ls.length ≤ 200) :
    (F_law_odd_v1 [.obj n, .py f.py] S).wp (fun d S' => ∃ p, d = .py p ∧ Short 100 p ∧ Low p ∧ FitX p 5 200 ∧ Lay p ∧ Ch n S S') noE := by
  have hn := hB.lt
  have tk : ∀ {T : Sto} (m : Int), Ch n S T → 0 < m → m < 1073741824 → (F_law_take [.obj n, .py (.int m)] T).wp (fun d S2 => ∃ r, d = .py (PyData.int r) ∧ (0 ≤ r ∧ r < m) ∧ Ch n T S2 ∧ S2.length = T.length) noE := fun m c a b =>
    (take_ok c.box a b).to fun d S2 ⟨r, e, r0, r1, c2, l⟩ => ⟨r, e, ⟨r0, r1⟩, c2, l⟩
  have c0 : Ch n S S := Ch.refl hB
  unfold F_law_odd_v1 b_law_odd_v1
  refine wp_fn ?_
  simp [init, law_letters_eq]
  refine (tk f.ls.length c0 (by omega) (by omega)).to ?_
  rintro _ T1 ⟨r, rfl, hr, c1, l1⟩
  have hl : r.toNat < f.lets.length := by simp; omega
  have it : ∀ T, itemD (.py (.list (f.lets.map lt))) (.py (.int r)) T = .ok (.py (lt f.lets[r.toNat])) T := fun T => itemD_listI hr.1 (by simp [hl])
  have ha : f.lets[r.toNat] ≤ 122 := b122 _ (List.getElem_mem hl)
  generalize f.lets[r.toNat] = a at *
  simp [it]
  refine (tk 26 c1 (by decide) (by decide)).to ?_
  rintro _ T2 ⟨r2, rfl, hr2, c2, l2⟩
  have i2 : ∃ b, b ≤ 122 ∧ ∀ T, itemD (.py (.str (Str.ofString "abcdefghijklmnopqrstuvwxyz"))) (.py (.int r2)) T = .ok (.py (lt b)) T := by
    obtain ⟨j, rfl⟩ : ∃ j : Nat, r2 = j := ⟨r2.toNat, by omega⟩
    have hj : j < 26 := by omega
    refine ⟨97 + j, by omega, fun T => ?_⟩
    unfold itemD
    simp only
    rw [if_pos (by decide +kernel), alphabet, atI_nat j (97 + j) (by rw [List.getElem?_map, List.getElem?_range hj]; rfl)]
  obtain ⟨b, hb, i2⟩ := i2
  have p10 : ∀ T, powD (.py (.int 10)) (.py (.int 19)) T = .ok (.py (.int 10000000000000000000)) T := fun T => rfl
  have a1 : ∀ T, addD (.py (lt a)) (.py (lt b)) T = .ok (.py (tx [a, b])) T := fun T => by
    unfold addD
    simp only
    rw [if_pos (by rw [sl_big']; simp [Str.length])]
    rfl
  have a2 : ∀ T, addD (.py (lt b)) (.py (.str (Str.ofString "\n"))) T = .ok (.py (tx [b, 10])) T := fun T => by
    have e : Str.ofString "\n" = ⟨#[10]⟩ := by decide +kernel
    rw [e]
    unfold addD
    simp only
    rw [if_pos (by rw [sl_big']; simp [Str.length])]
    rfl
  have m1 : ∀ T, mulSD (.py (lt a)) (.py (.int 2)) T = .ok (.py (tx [a, a])) T := fun T => by
    unfold mulSD
    simp only
    rw [if_pos (by simp [Str.length])]
    rfl
  have d1 : ∀ (x : D) T, dict1E 3 10 [some (.obj n), some (.py f.py), some (.py (.list (f.lets.map lt))), some (.py (lt a)), some (.py (lt b)), some x] T = .ok (.py (.dict [(lt a, .int 10)])) T := fun x T => rfl
  simp [i2, p10, a1, a2, m1, d1, lstOf_last, sl_big']
  rw [app4 _ _ _ _ _ _ (by rw [sl_big']; simp)]
  simp only [wp_ok]
  have ok : ∀ A B C E : List D, E.all okD = true → E.length = 46 → ∀ S0 : Sto, S0 = T2 ++ [.lst A, .lst B, .lst C, .lst E] →
      (lenD [.obj (T2.length + 1 + 1 + 1)] S0).wp (fun d S1 => (F_law_take [.obj n, d] S1).wp (fun y S2 => (itemD (.obj (T2.length + 1 + 1 + 1)) y S2).wp (fun d S1 => ∃ T, Cut S S1 T ∧ d.pure = true ∧ ∃ p, d = .py p ∧ Short 100 p ∧ Low p ∧ FitX p 5 200 ∧ Lay p ∧ Ch n S T) fun _ _ => False) fun _ _ => False) fun _ _ => False := by
    rintro A B C E hE lE _ rfl
    have c3 : Ch n S (T2 ++ [.lst A, .lst B, .lst C, .lst E]) := (c1.trans c2).trans (Ch.app c2.box)
    have g := get4 T2 (.lst A) (.lst B) (.lst C) (.lst E)
    rw [lenD_obj g]
    simp only [wp_ok, lE]
    refine (tk 46 c3 (by decide) (by decide)).to ?_
    rintro _ T3 ⟨r3, rfl, hr3, c4, l4⟩
    obtain ⟨j, rfl⟩ : ∃ j : Nat, r3 = j := ⟨r3.toNat, by omega⟩
    have hj : j < E.length := by omega
    have nn : T2.length + 1 + 1 + 1 ≠ n := by have := c2.box.lt; omega
    rw [itemD_obj (c4.at_ g nn) j (List.getElem?_eq_getElem hj)]
    simp only [wp_ok]
    obtain ⟨p, hp, sp, lp, fx, ly⟩ := okD_spec (List.all_eq_true.mp hE _ (List.getElem_mem hj))
    obtain ⟨U, k1, k2, k3⟩ := (c3.trans c4).cut hn
    exact ⟨U, k1, by rw [hp]; rfl, p, hp, sp, lp, fx, ly, k2⟩
  refine ok _ _ _ _ ?_ rfl _ rfl
  simp only [List.all_append, List.all_cons, List.all_nil, Bool.and_eq_true, and_true]
  repeat' apply And.intro
  all_goals first | rfl | (simp [okD, okP, Str.length, PyData.showable, PyData.showableAll, PyData.showableKv, PyData.depth, PyData.depthAll, PyData.depthKv, PyData.leavesShort, PyData.leavesShortAll, PyData.leavesShortKv, PyData.bulk, PyData.bulkAll, PyData.bulkKv, PyData.canLay0, PyData.canLayAll0, PyData.strOk, isDk, shS, shBig]; try ((repeat' apply And.intro) <;> first | omega | decide))
theorem law_odd_ok {S : Sto} {n : Nat} {f : Face} (hB : BoxAt S n) (b122 : ∀ c ∈ f.lets, c ≤ 122) (h1 : 0 < f.ls.length) (h2 : f.ls.length ≤ 200) :
    (F_law_odd_v1 [.obj n, .py f.py] S).wp (fun d S' => ∃ p, d = .py p ∧ Short 100 p ∧ Low p ∧ FitX p 5 200 ∧ Ch n S S') noE :=
  (law_odd_okL hB b122 h1 h2).to fun _ _ ⟨p, a, b, c, d, _, e⟩ => ⟨p, a, b, c, d, e⟩
end DV

set_option maxHeartbeats 4000000
namespace DV
open PySem
/-! Things spoilt at some place. -/
theorem bulk_app : ∀ xs ys : List PyData, PyData.bulkAll (xs ++ ys) = PyData.bulkAll xs + PyData.bulkAll ys
  | [], ys => by rw [List.nil_append, PyData.bulkAll.eq_1, Nat.zero_add]
  | x :: xs, ys => by rw [List.cons_append, PyData.bulkAll.eq_2, PyData.bulkAll.eq_2, bulk_app xs ys]; omega
theorem depth_app : ∀ xs ys : List PyData, PyData.depthAll (xs ++ ys) = max (PyData.depthAll xs) (PyData.depthAll ys)
  | [], ys => by rw [List.nil_append, PyData.depthAll.eq_1, Nat.zero_max]
  | x :: xs, ys => by rw [List.cons_append, PyData.depthAll.eq_2, PyData.depthAll.eq_2, depth_app xs ys]; omega
theorem show_app : ∀ xs ys : List PyData, PyData.showableAll (xs ++ ys) = (PyData.showableAll xs && PyData.showableAll ys)
  | [], ys => by rw [List.nil_append, PyData.showableAll.eq_1, Bool.true_and]
  | x :: xs, ys => by rw [List.cons_append, PyData.showableAll.eq_2, PyData.showableAll.eq_2, show_app xs ys, Bool.and_assoc]
theorem leaves_app (n : Nat) : ∀ xs ys : List PyData, PyData.leavesShortAll n (xs ++ ys) = (PyData.leavesShortAll n xs && PyData.leavesShortAll n ys)
  | [], ys => by rw [List.nil_append, PyData.leavesShortAll.eq_1, Bool.true_and]
  | x :: xs, ys => by rw [List.cons_append, PyData.leavesShortAll.eq_2, PyData.leavesShortAll.eq_2, leaves_app n xs ys, Bool.and_assoc]
/-- the parts of a sequence, how much they weigh -/
structure Part (ds : List PyData) (k : Nat) : Prop where
  sh : PyData.showableAll ds = true
  dp : PyData.depthAll ds ≤ k
  ls : PyData.leavesShortAll 25 ds = true
theorem Part.app {xs ys : List PyData} {k : Nat} : Part (xs ++ ys) k ↔ Part xs k ∧ Part ys k := by
  constructor
  · intro ⟨a, b, c⟩
    rw [show_app, Bool.and_eq_true] at a
    rw [depth_app] at b
    rw [leaves_app, Bool.and_eq_true] at c
    exact ⟨⟨a.1, by omega, c.1⟩, ⟨a.2, by omega, c.2⟩⟩
  · intro ⟨⟨a, b, c⟩, ⟨d, e, f⟩⟩
    exact ⟨by rw [show_app, a, d]; rfl, by rw [depth_app]; omega, by rw [leaves_app, c, f]; rfl⟩
theorem Part.one {d : PyData} {k : Nat} : Part [d] k ↔ d.showable = true ∧ d.depth ≤ k ∧ d.leavesShort 25 = true := by
  constructor
  · intro ⟨a, b, c⟩
    rw [PyData.showableAll.eq_2, PyData.showableAll.eq_1, Bool.and_true] at a
    rw [PyData.depthAll.eq_2, PyData.depthAll.eq_1] at b
    rw [PyData.leavesShortAll.eq_2, PyData.leavesShortAll.eq_1, Bool.and_true] at c
    exact ⟨a, by omega, c⟩
  · intro ⟨a, b, c⟩
    exact ⟨by rw [PyData.showableAll.eq_2, PyData.showableAll.eq_1, a]; rfl, by rw [PyData.depthAll.eq_2, PyData.depthAll.eq_1]; omega, by rw [PyData.leavesShortAll.eq_2, PyData.leavesShortAll.eq_1, c]; rfl⟩
theorem Part.mono {ds : List PyData} {k j : Nat} (h : Part ds k) (hk : k ≤ j) : Part ds j := ⟨h.sh, Nat.le_trans h.dp hk, h.ls⟩
theorem FitX.part {d : PyData} {k w : Nat} (h : FitX d k w) : Part [d] k := Part.one.mpr ⟨h.sh, h.dp, h.ls⟩
theorem Part.fit {d : PyData} {k w : Nat} (h : Part [d] k) (hb : d.bulk ≤ w) : FitX d k w := let ⟨a, b, c⟩ := Part.one.mp h; ⟨a, b, c, hb⟩
theorem Part.tuple {ds : List PyData} {k w : Nat} (h : Part ds k) (hb : PyData.bulkAll ds ≤ w) : FitX (.tuple ds) (k + 1) w := FitX.tuple ⟨h.sh, h.dp, h.ls, hb⟩
theorem Part.list {ds : List PyData} {k w : Nat} (h : Part ds k) (hb : PyData.bulkAll ds ≤ w) : FitX (.list ds) (k + 1) w := FitX.list ⟨h.sh, h.dp, h.ls, hb⟩
theorem FitX.items {ds : List PyData} {k w : Nat} (h : FitX (.tuple ds) k w) : ∃ j, k = j + 1 ∧ Part ds j ∧ PyData.bulkAll ds ≤ w := by
  have h1 := h.sh
  have h2 := h.dp
  have h3 := h.ls
  have h4 := h.bk
  rw [PyData.showable.eq_6] at h1
  rw [PyData.depth.eq_2] at h2
  rw [PyData.leavesShort.eq_6] at h3
  rw [PyData.bulk.eq_3] at h4
  exact ⟨k - 1, by omega, ⟨h1, by omega, h3⟩, h4⟩
theorem bulk_mem {d : PyData} : ∀ {ds : List PyData}, d ∈ ds → d.bulk + 1 ≤ PyData.bulkAll ds
  | x :: xs, h => by
    rw [PyData.bulkAll.eq_2]
    rcases List.mem_cons.mp h with rfl | h
    · omega
    · have := bulk_mem h
      omega
theorem Part.mem {d : PyData} {ds : List PyData} {k : Nat} (h : Part ds k) (hd : d ∈ ds) : Part [d] k := by
  obtain ⟨a, b, rfl⟩ := List.append_of_mem hd
  have := (Part.app.mp h).2
  have : Part ([d] ++ b) k := this
  exact (Part.app.mp this).1
theorem FitX.item {d : PyData} {ds : List PyData} {k w : Nat} (h : FitX (.tuple ds) k w) (hd : d ∈ ds) : FitX d k w := by
  obtain ⟨j, rfl, p, b⟩ := h.items
  have := bulk_mem hd
  exact (p.mem hd).mono (Nat.le_succ _) |>.fit (by omega)
theorem FitX.short {d : PyData} {k w : Nat} (h : FitX d k w) : Short w d := by
  rintro x rfl
  have := h.bk
  rw [PyData.bulk.eq_1] at this
  exact this
theorem shI25 {i : Int} (h : -200000000000000000000 ≤ i ∧ i ≤ 200000000000000000000) : (PyData.int i).shown.length ≤ 25 := by
  have e := int_text_length_le10 (a := i) (k := 21) (by decide) (show i.natAbs < 10 ^ 21 by omega)
  have e2 : (PyData.int i).shown.length = (toString i).length := by
    show (Str.ofString (toString i)).length = _
    exact ofString_length _
  omega
theorem log_small {i : Int} (h : -200000000000000000000 ≤ i ∧ i ≤ 200000000000000000000) : i.natAbs.log2 < 1920 := by
  by_cases h0 : i.natAbs = 0
  · rw [h0]
    decide
  · rw [Nat.log2_lt h0]
    exact Nat.lt_of_lt_of_le (show i.natAbs < 2 ^ 80 by omega) (Nat.pow_le_pow_right (by decide) (by decide))
theorem fit_int {i : Int} (h : -200000000000000000000 ≤ i ∧ i ≤ 200000000000000000000) : FitX (.int i) 0 0 := by
  refine ⟨?_, by rw [PyData.depth.eq_6]; exact Nat.le_refl _, ?_, by rw [PyData.bulk.eq_7]; exact Nat.le_refl _⟩
  · rw [PyData.showable.eq_4, decide_eq_true_eq]
    by_cases h0 : i.natAbs = 0
    · rw [h0]
      decide
    · rw [Nat.log2_lt h0]
      exact Nat.lt_of_lt_of_le (show i.natAbs < 2 ^ 80 by omega) (Nat.pow_le_pow_right (by decide) (by decide))
  · rw [PyData.leavesShort.eq_3, decide_eq_true_eq]
    exact shI25 h
theorem sl_tr : sizeLine = 16777216 := by decide
theorem add_tup {a b : List PyData} (h : a.length + b.length ≤ 100000) (S : Sto) : addD (.py (.tuple a)) (.py (.tuple b)) S = .ok (.py (.tuple (a ++ b))) S := by
  unfold addD
  simp only
  rw [if_pos (by rw [sl_tr]; omega)]
end DV

set_option maxHeartbeats 4000000
namespace DV
open PySem
/-! What a line of words costs. -/
/-- the words from one number to another -/
def lnW (ws : List (List Nat)) (a b : Nat) : List (List Nat) := (ws.drop a).take (b - a)
theorem Wds.ln {f : Face} {ws : List (List Nat)} (h : Wds f ws) (a b : Nat) : Wds f (lnW ws a b) := by
  have sub : ∀ w ∈ lnW ws a b, w ∈ ws := fun w hw => List.mem_of_mem_drop (List.mem_of_mem_take hw)
  refine ⟨fun w hw => h.ne w (sub w hw), fun w hw => h.mem w (sub w hw), fun w hw => h.short w (sub w hw), ?_⟩
  have := h.few
  simp [lnW]
  omega
/-- what a line costs -/
def cost (f : Face) (P : List Pair) (n : Int) (ws : List (List Nat)) (a b : Nat) : Option Int :=
  if n - wd f P (jn (lnW ws a b)) < 0 then none else if b = ws.length then some 0 else some ((n - wd f P (jn (lnW ws a b))) * (n - wd f P (jn (lnW ws a b))))
end DV

set_option maxHeartbeats 4000000
namespace DV
open PySem
/-! A thing spoilt at some place. -/
@[simp ↓] theorem wp_revTE (a : Ex) {σ : En} {S : Sto} {P : D → Sto → Prop} {E : Str → Sto → Prop} : (revTE a σ S).wp P E = (a σ S).wp (fun x S1 => ∃ ds, x = .py (.tuple ds) ∧ P (.py (.tuple ds.reverse)) S1) E := by
  unfold revTE
  rw [wp_bind]
  congr 1
  funext x S1
  split
  · exact propext ⟨fun h => ⟨_, rfl, h⟩, fun ⟨ds, e, h⟩ => by cases e; exact h⟩
  · rename_i hn
    exact propext ⟨fun h => h.elim, fun ⟨ds, e, h⟩ => (hn ds e).elim⟩
theorem Part.sub {xs ys : List PyData} {k : Nat} (h : xs.Sublist ys) : Part ys k → Part xs k ∧ PyData.bulkAll xs ≤ PyData.bulkAll ys := by
  induction h with
  | slnil => exact fun h => ⟨h, Nat.le_refl _⟩
  | @cons l1 l2 a hs ih =>
    intro h
    have h2 : Part ([a] ++ l2) k := h
    obtain ⟨i1, i2⟩ := ih (Part.app.mp h2).2
    refine ⟨i1, ?_⟩
    rw [PyData.bulkAll.eq_2]
    omega
  | @cons_cons l1 l2 a hs ih =>
    intro h
    have h2 : Part ([a] ++ l2) k := h
    obtain ⟨i1, i2⟩ := ih (Part.app.mp h2).2
    refine ⟨show Part ([a] ++ l1) k from Part.app.mpr ⟨(Part.app.mp h2).1, i1⟩, ?_⟩
    rw [PyData.bulkAll.eq_2, PyData.bulkAll.eq_2]
    omega
end DV

set_option maxHeartbeats 4000000
namespace DV
open PySem
/-! What is shown is no word; how far the signs of a text begin. -/
@[simp ↓] theorem wp_revS (a : Ex) {σ : En} {S : Sto} {P : D → Sto → Prop} {E : Str → Sto → Prop} : (revS a σ S).wp P E = (a σ S).wp (fun x S1 => ∃ z : Str, x = .py (.str z) ∧ z.length ≤ sizeLine ∧ P (.py (.str ⟨z.cps.toList.reverse.toArray⟩)) S1) E := by
  unfold revS
  rw [wp_bind]
  congr 1
  funext x S1
  split
  · rename_i z
    rw [wp_iteR]
    split
    · rename_i hz
      exact propext ⟨fun p => ⟨z, rfl, hz, p⟩, fun ⟨_, e, _, p⟩ => by cases e; exact p⟩
    · rename_i hz
      exact propext ⟨fun p => p.elim, fun ⟨_, e, q, p⟩ => by cases e; exact hz q⟩
  · rename_i hn
    exact propext ⟨fun h => h.elim, fun ⟨_, e, _⟩ => (hn _ e).elim⟩
theorem add_tx {a b : List Nat} (h : a.length + b.length ≤ 2000) (S : Sto) : addD (.py (tx a)) (.py (tx b)) S = .ok (.py (tx (a ++ b))) S := by
  unfold addD
  simp only
  rw [if_pos (by rw [sl_big']; simp [Str.length]; omega)]
  show R.ok (D.py (.str ⟨a.toArray ++ b.toArray⟩)) S = _
  simp
end DV

set_option maxHeartbeats 4000000
namespace DV
/-! Breakings of k words left of L into lines, as rows of how many words each line has: costs, the greedy row of least cost. -/
section
variable (C : Nat → Nat → Option Int) (L : Nat) (pr : Nat → Int)
/-- what a row costs, none where it is no row of k words or a line does not fit -/
def rowC : Nat → List Nat → Option Int
  | k, [] => if k = 0 then some 0 else none
  | k, m :: r => if 1 ≤ m ∧ m ≤ k then (match C (L - k) (L - k + m), rowC (k - m) r with
    | some c, some d => some (c + d)
    | _, _ => none) else none
/-- the line of i + 1 words keeps to the price of k + 1 words left -/
def okR (k i : Nat) : Bool := match C (L - (k + 1)) (L - k + i) with
  | some c => decide (c + pr (k - i) = pr (k + 1))
  | none => false
def pickR (k : Nat) : Nat := ((List.range (k + 1)).reverse.find? fun i => okR C L pr k i).getD 0
def greedy : Nat → List Nat
  | 0 => []
  | k + 1 => (pickR C L pr k + 1) :: greedy (k - pickR C L pr k)
termination_by k => k
/-- the prices are least sums -/
structure Prs : Prop where
  zero : pr 0 = 0
  is : ∀ k, k < L → ∃ i c, i ≤ k ∧ C (L - (k + 1)) (L - k + i) = some c ∧ c + pr (k - i) = pr (k + 1)
  le : ∀ k i c, k < L → i ≤ k → C (L - (k + 1)) (L - k + i) = some c → pr (k + 1) ≤ c + pr (k - i)
variable {C L pr}
theorem pick_spec (h : Prs C L pr) {k : Nat} (hk : k < L) : okR C L pr k (pickR C L pr k) = true ∧ pickR C L pr k ≤ k ∧ ∀ i, i ≤ k → okR C L pr k i = true → i ≤ pickR C L pr k := by
  obtain ⟨i0, c0, h1, h2, h3⟩ := h.is k hk
  have o0 : okR C L pr k i0 = true := by
    unfold okR
    rw [h2]
    simp [h3]
  unfold pickR
  cases e : (List.range (k + 1)).reverse.find? fun i => okR C L pr k i with
  | none =>
    rw [List.find?_eq_none] at e
    exact absurd o0 (e i0 (by simp; omega))
  | some j =>
    obtain ⟨a1, as, bs, a2, a3⟩ := List.find?_eq_some_iff_append.mp e
    have hj : j ≤ k := by
      have : j ∈ (List.range (k + 1)).reverse := by rw [a2]; simp
      simp at this
      omega
    refine ⟨a1, hj, fun i hi ho => ?_⟩
    show i ≤ j
    rcases Nat.lt_or_ge j i with hl | hl
    · -- i stands ahead of j in the reversed row
      exfalso
      have mem : i ∈ as := by
        have hm : i ∈ as ++ j :: bs := by rw [← a2]; simp; omega
        rcases List.mem_append.mp hm with m | m
        · exact m
        · rcases List.mem_cons.mp m with m | m
          · omega
          · have pw : ((List.range (k + 1)).reverse).Pairwise (fun a b => b < a) := by
              rw [List.pairwise_reverse]
              exact List.pairwise_lt_range
            rw [a2] at pw
            have := (List.pairwise_cons.mp (List.pairwise_append.mp pw).2.1).1 i m
            omega
      have := a3 i mem
      rw [ho] at this
      cases this
    · exact hl
theorem ok_cost {k i : Nat} (h : okR C L pr k i = true) : ∃ c, C (L - (k + 1)) (L - k + i) = some c ∧ c + pr (k - i) = pr (k + 1) := by
  unfold okR at h
  split at h
  · rename_i c hc
    exact ⟨c, hc, by simpa using h⟩
  · cases h
/-- the greedy row costs the price -/
theorem greedy_cost (h : Prs C L pr) : ∀ k, k ≤ L → rowC C L k (greedy C L pr k) = some (pr k) := by
  intro k
  induction k using Nat.strongRecOn with
  | ind k ih =>
    intro hk
    cases k with
    | zero => rw [greedy, rowC, h.zero]; rfl
    | succ k =>
      obtain ⟨a1, a2, a3⟩ := pick_spec h (show k < L by omega)
      obtain ⟨c, h1, h2⟩ := ok_cost a1
      have := ih (k - pickR C L pr k) (by omega) (by omega)
      rw [greedy, rowC, if_pos ⟨by omega, by omega⟩]
      have e1 : L - (k + 1) + (pickR C L pr k + 1) = L - k + pickR C L pr k := by omega
      have e2 : k + 1 - (pickR C L pr k + 1) = k - pickR C L pr k := by omega
      rw [e1, e2, h1, this]
      simp [h2]
/-- a row with more words ahead -/
def ahead : List Nat → List Nat → Prop
  | x :: xs, y :: ys => y < x ∨ (x = y ∧ ahead xs ys)
  | _, _ => False
theorem rowC_cons {k m : Nat} {r : List Nat} {v : Int} (h : rowC C L k (m :: r) = some v) : 1 ≤ m ∧ m ≤ k ∧ ∃ c d, C (L - k) (L - k + m) = some c ∧ rowC C L (k - m) r = some d ∧ v = c + d := by
  rw [rowC] at h
  split at h
  · rename_i hm
    split at h
    · rename_i c d h1 h2
      cases h
      exact ⟨hm.1, hm.2, c, d, h1, h2, rfl⟩
    · cases h
  · cases h
/-- no row costs less, and of those that cost the price the greedy one has most words ahead -/
theorem greedy_least (h : Prs C L pr) : ∀ k, k ≤ L → ∀ row v, rowC C L k row = some v → pr k ≤ v ∧ (v = pr k → row = greedy C L pr k ∨ ahead (greedy C L pr k) row) := by
  intro k
  induction k using Nat.strongRecOn with
  | ind k ih =>
    intro hk row v hv
    cases row with
    | nil =>
      rw [rowC] at hv
      split at hv
      · rename_i hz
        subst hz
        cases hv
        rw [h.zero, greedy]
        exact ⟨Int.le_refl _, fun _ => .inl rfl⟩
      · cases hv
    | cons m r =>
      obtain ⟨m1, m2, c, d, h1, h2, rfl⟩ := rowC_cons hv
      cases k with
      | zero => omega
      | succ k =>
        obtain ⟨i, rfl⟩ : ∃ i, m = i + 1 := ⟨m - 1, by omega⟩
        have e1 : L - (k + 1) + (i + 1) = L - k + i := by omega
        have e2 : k + 1 - (i + 1) = k - i := by omega
        rw [e1] at h1
        rw [e2] at h2
        obtain ⟨i1, i2⟩ := ih (k - i) (by omega) (by omega) r d h2
        have le := h.le k i c (by omega) (by omega) h1
        refine ⟨by omega, fun e => ?_⟩
        obtain ⟨a1, a2, a3⟩ := pick_spec h (show k < L by omega)
        have ed : d = pr (k - i) := by omega
        have ok : okR C L pr k i = true := by
          unfold okR
          rw [h1]
          simp
          omega
        have ge := a3 i (by omega) ok
        rw [greedy]
        rcases Nat.lt_or_ge i (pickR C L pr k) with hl | hl
        · exact .inr (.inl (by omega))
        · have ei : i = pickR C L pr k := by omega
          rcases i2 ed with q | q
          · exact .inl (by rw [← ei, q])
          · exact .inr (.inr ⟨by rw [ei], by rw [← ei]; exact q⟩)
end
/-! ### all rows -/
def rowOk (k : Nat) (row : List Nat) : Prop := (∀ m ∈ row, 1 ≤ m) ∧ row.sum = k
/-- the last number one more -/
def more1 (row : List Nat) : List Nat := row.dropLast ++ [row.getLastD 0 + 1]
def brk : Nat → List (List Nat)
  | 0 => [[]]
  | 1 => [[1]]
  | k + 2 => (brk (k + 1)).map (· ++ [1]) ++ (brk (k + 1)).map more1
end DV

set_option maxHeartbeats 4000000
namespace DV
open PySem
end DV

set_option maxHeartbeats 4000000
namespace DV
open PySem
/-! Things drawn for laws of texts. -/
/-- a thing that may be asked about -/
structure Tng (x : PyData) : Prop where
  short : Short 10000 x
  low : Low x
  fit : FitX x 6 1000
theorem Tng.tx {l : List Nat} (h : ∀ c ∈ l, c ≤ 300) (hl : l.length ≤ 1000) : Tng (tx l) :=
  ⟨fun x e => (by cases e; simp [Str.length]; omega), fun x e => (by cases e; simpa using h), (Fit.str (x := ⟨l.toArray⟩) (n := 1000) (fun c hc => by have := h c (by simpa using hc); omega) (by simpa using hl)).x.mono (by decide) (by decide)⟩
theorem Tng.odd {p : PyData} (h1 : Short 100 p) (h2 : Low p) (h3 : FitX p 5 200) : Tng p :=
  ⟨fun x e => by have := h1 x e; omega, h2, h3.mono (by decide) (by decide)⟩
theorem fitL_lts {l : List Nat} (h : ∀ c ∈ l, c ≤ 300) (hl : l.length ≤ 250) : FitL (l.map lt) 0 500 := (FitL.all (k := 0) (w := 1) (fun d hd => by
    obtain ⟨c, hc, rfl⟩ := List.mem_map.mp hd
    have := h c hc
    exact Fit.lt (by omega))).mono (by decide) (by simp; omega)
theorem Tng.lst {l : List Nat} (h : ∀ c ∈ l, c ≤ 300) (hl : l.length ≤ 250) : Tng (.list (l.map lt)) :=
  ⟨fun x e => (by cases e), fun x e => (by cases e), (Fit.list (fitL_lts h hl)).x.mono (k := 1) (w := 500) (by decide) (by decide)⟩
theorem Tng.tup {l : List Nat} (h : ∀ c ∈ l, c ≤ 300) (hl : l.length ≤ 250) : Tng (.tuple (l.map lt)) :=
  ⟨fun x e => (by cases e), fun x e => (by cases e), (Fit.tuple (fitL_lts h hl)).x.mono (k := 1) (w := 500) (by decide) (by decide)⟩
/-- the law's own loop, where a text is named ahead of it -/
def Keep1 (sc z : D) (n : Nat) (σ : En) : Prop := ∃ ys : En, σ = some sc :: some z :: ys ∧ ys.length = n
theorem Keep1.mk {sc z : D} {n : Nat} {ys : En} (h : ys.length = n) : Keep1 sc z n (some sc :: some z :: ys) := ⟨ys, rfl, h⟩
end DV

set_option maxHeartbeats 4000000
namespace DV
open PySem
/-! The sign at a number. -/
end DV

set_option maxHeartbeats 4000000
namespace DV
open PySem
/-! Letters that may be added. -/
/-- the letter that a thing is -/
def isL : PyData → Option Nat
  | .str x => match x.cps.toList with
    | [c] => if 97 ≤ c ∧ c ≤ 122 then some c else none
    | _ => none
  | _ => none
theorem isL_lt {d : PyData} {c : Nat} (h : isL d = some c) : d = lt c ∧ 97 ≤ c ∧ c ≤ 122 := by
  cases d with
  | str x =>
    obtain ⟨⟨l⟩⟩ := x
    match l, h with
    | [a], h =>
      unfold isL at h
      simp only at h
      split at h
      · rename_i hc
        cases h
        exact ⟨rfl, hc⟩
      · cases h
  | _ => cases h
theorem one_lt (a b : Nat) : ([a] < [b]) ↔ a < b := by
  rw [List.cons_lt_cons_iff]
  simp
theorem len_str {l : List Nat} (h : l.length ≤ 10000) (S : Sto) : lenD [.py (.str ⟨⟨l⟩⟩)] S = .ok (.py (.int (l.length : Nat))) S := by
  unfold lenD
  simp only
  rw [if_pos (by simp [Str.length, sl_big']; omega)]
  rfl
theorem in_alpha (c : Nat) (S : Sto) : inD (.py (lt c)) (.py (.str (Str.ofString "abcdefghijklmnopqrstuvwxyz"))) S = .ok (.py (.bool (decide (97 ≤ c ∧ c ≤ 122)))) S := by
  have h1 : deep S 8 (.py (lt c)) = some (lt c) := rfl
  have h2 : deep S 8 (.py (.str (Str.ofString "abcdefghijklmnopqrstuvwxyz"))) = some (.str (Str.ofString "abcdefghijklmnopqrstuvwxyz")) := rfl
  simp only [inD, inS, h1, h2, inB]
  rw [alphabet]
  congr 3
  rw [decide_eq_decide]
  simp
  constructor
  · rintro ⟨a, h, rfl⟩
    omega
  · intro h
    exact ⟨c - 97, by omega, by omega⟩
theorem is_letter_any {d : PyData} (h : Short 10000 d) (S : Sto) : F_is_letter [.py d] S = .ok (.py (.bool (isL d).isSome)) S := by
  unfold F_is_letter b_is_letter
  refine fn_eq (wp_fn ?_)
  cases d with
  | str x =>
    obtain ⟨⟨l⟩⟩ := x
    have hl := h _ rfl
    simp [Str.length] at hl
    have le := len_str hl
    match l, le with
    | [], le => simp [init, isB, le, isL]; exact ⟨.self, rfl⟩
    | [c], le =>
      have ia := in_alpha c
      by_cases hc : 97 ≤ c ∧ c ≤ 122
      · simp [init, isB, le, isL, ia, hc]
        exact ⟨.self, rfl⟩
      · simp [init, isB, le, isL, ia, hc]
        exact ⟨.self, rfl⟩
    | a :: b :: r, le =>
      have : ¬ ((r.length : Int) + 1 + 1 = 1) := by omega
      simp [init, isB, le, isL, this]
      exact ⟨.self, rfl⟩
  | none => simp [init, isB, isL]; exact ⟨.self, rfl⟩
  | bool b => simp [init, isB, isL]; exact ⟨.self, rfl⟩
  | int i => simp [init, isB, isL]; exact ⟨.self, rfl⟩
  | list ds => simp [init, isB, isL]; exact ⟨.self, rfl⟩
  | tuple ds => simp [init, isB, isL]; exact ⟨.self, rfl⟩
  | dict ds => simp [init, isiD, tyN, isB, isL]; exact ⟨.self, rfl⟩
def isFT (lo hi : Int) : PyData → Bool
  | .int i => decide (lo ≤ i ∧ i ≤ hi)
  | _ => false
theorem from_to_any (d : PyData) (lo hi : Int) (S : Sto) : F_is_from_to [.py d, .py (.int lo), .py (.int hi)] S = .ok (.py (.bool (isFT lo hi d))) S := by
  cases d with
  | int i => exact is_from_to_int i lo hi S
  | _ =>
    unfold F_is_from_to b_is_from_to
    refine fn_eq (wp_fn ?_)
    first
      | (simp [init, isB, isFT]; exact ⟨.self, rfl⟩)
      | (simp [init, isiD, tyN, isB, isFT]; exact ⟨.self, rfl⟩)
theorem law_from_to_any (d : PyData) (lo hi : Int) (S : Sto) : F_law_is_from_to [.py d, .py (.int lo), .py (.int hi)] S = .ok (.py (.bool (isFT lo hi d))) S := from_to_any d lo hi S
theorem is_wide_any (d : PyData) (S : Sto) : F_is_wide [.py d] S = .ok (.py (.bool (isFT 10 99 d))) S := by
  unfold F_is_wide b_is_wide
  refine fn_eq (wp_fn ?_)
  simp [init, from_to_any]
  exact ⟨.self, rfl⟩
/-! ### a drawn letter that a face has not -/
end DV

set_option maxHeartbeats 4000000
namespace DV
open PySem
/-! Letters, asked of any thing. -/
def isOne (t : PyData) (a : Nat) : Bool := match t with
  | .str x => decide ((⟨#[a]⟩ : Str) = x)
  | _ => false
theorem eqv_all {a : Nat} {t : PyData} : PyData.eqv (lt a) t = isOne t a := by
  cases t with
  | str x =>
    show PyData.eqv (.str ⟨#[a]⟩) (.str x) = _
    rw [PyData.eqv.eq_6]
    rw [Bool.eq_iff_iff]
    simp [isOne]
  | none => simp [isOne, PyData.eqv]
  | bool b => simp [isOne, PyData.eqv]
  | int b => simp [isOne, PyData.eqv]
  | list b => simp [isOne, PyData.eqv]
  | tuple b => simp [isOne, PyData.eqv]
  | dict b => simp [isOne, PyData.eqv]
/-- any thing among texts of one sign -/
theorem inB_all (L : List Nat) (t : PyData) : inB t (.list (L.map lt)) = some (L.any (isOne t)) := by
  have hv : ((L.map lt).any fun z => PyData.eqv z t) = L.any (isOne t) := by
    rw [List.any_map]
    congr 1
    funext a
    exact eqv_all
  have hst : (L.map lt).all isSt = true := by
    rw [List.all_map]
    exact List.all_eq_true.mpr fun _ _ => rfl
  have hfl : (L.map lt).all isFlat = true := by
    rw [List.all_map]
    exact List.all_eq_true.mpr fun _ _ => rfl
  have hno : isSq t = true → L.any (isOne t) = false := fun h => by
    rw [List.any_eq_false]
    intro c _
    cases t <;> simp [isSq] at h <;> simp [isOne]
  unfold inB
  simp only
  split
  · rw [hv]
  · split
    · rename_i h
      rw [hno h.1]
    · rename_i h
      have hf : isFlat t = true := by cases t <;> first | rfl | exact absurd ⟨rfl, hst⟩ h
      rw [if_pos ⟨hf, hfl⟩, hv]
end DV

set_option maxHeartbeats 4000000
namespace DV
open PySem
/-! Rows of gaps, asked of any thing. -/
end DV

set_option maxHeartbeats 4000000
namespace DV
open PySem
/-! Tuples of pairs in order, each with a gap, asked of any thing. -/
def ltC (a b : Nat × Nat × Int) : Prop := a.1 < b.1 ∨ (a.1 = b.1 ∧ a.2.1 < b.2.1)
instance (a b : Nat × Nat × Int) : Decidable (ltC a b) := by unfold ltC; infer_instance
theorem three {gs : List PyData} (h : gs.length = 3) : ∃ a b c, gs = [a, b, c] := by
  match gs, h with
  | [a, b, c], _ => exact ⟨a, b, c, rfl⟩
/-! ### the law's own -/
end DV

set_option maxHeartbeats 4000000
namespace DV
open PySem
/-! The law's things: some told ones, many spoilt ones. -/
theorem fix_own {σ : En} {i m : Nat} {T : Sto} {ds : List PyData} {N : K} (hi : σ[i]? = some (some (.obj m))) (h : T[m]? = some (.lst (ds.map .py))) (q : N.nx (σ.set i (some (.py (.list ds)))) (T.set m .gone)) : (fixS i σ T).wp N := by
  unfold fixS
  simp only [hi, h, pysOf_map]
  exact q
theorem bulk_len : ∀ ds : List PyData, ds.length ≤ PyData.bulkAll ds
  | [] => Nat.zero_le _
  | d :: ds => by
    have := bulk_len ds
    rw [PyData.bulkAll.eq_2, List.length_cons]
    omega
theorem FitX.len {ts : List PyData} {k w : Nat} (h : FitX (.tuple ts) k w) : ts.length ≤ w := by
  obtain ⟨j, _, _, hb⟩ := h.items
  exact Nat.le_trans (bulk_len ts) hb
end DV

set_option maxHeartbeats 4000000
namespace DV
open PySem
/-! Partings, asked of any thing. -/
def pInts (is : List Nat) : List Int := is.map fun k : Nat => (k : Int)
@[simp] theorem pInts_len (is : List Nat) : (pInts is).length = is.length := by simp [pInts]
@[simp] theorem headD_take (is : List Nat) (h : is ≠ []) : is.take 1 = [is.headD 0] := by
  cases is with
  | nil => exact absurd rfl h
  | cons a r => rfl
/-! ### what is a parting is one -/
end DV

set_option maxHeartbeats 4000000
namespace DV
open PySem
/-! Texts that are moved where one list stands for another one. -/
/-! ### the law's own -/
def isStr : PyData → Bool
  | .str _ => true
  | _ => false
/-! ### rows from the end -/
end DV

set_option maxHeartbeats 4000000
namespace DV
open PySem
/-! Tables, asked of any thing. -/
def lt3 (a b : Int × Int × Int) : Prop := a.1 < b.1 ∨ (a.1 = b.1 ∧ (a.2.1 < b.2.1 ∨ (a.2.1 = b.2.1 ∧ a.2.2 < b.2.2)))
instance (a b : Int × Int × Int) : Decidable (lt3 a b) := by unfold lt3; infer_instance
end DV

set_option maxHeartbeats 4000000
namespace DV
/-! Neighbours tell of all where the order is transitive. -/
end DV

set_option maxHeartbeats 4000000
namespace DV
open PySem
/-! Exceptions and tables, asked of any thing. -/
theorem four {gs : List PyData} (h : gs.length = 4) : ∃ a b c d, gs = [a, b, c, d] := by
  match gs, h with
  | [a, b, c, d], _ => exact ⟨a, b, c, d, rfl⟩
/-! ### as the law asks it -/
/-! a row of a law's table -/
end DV

set_option maxHeartbeats 4000000
namespace DV
open PySem
/-! How much a table weighs. -/
end DV

set_option maxHeartbeats 4000000
namespace DV
open PySem
/-! Papers of left classes. -/
/-! ### all two of some letters -/
@[simp ↓] theorem wp_sliceA (a : Ex) (lo hi : Px) {σ : En} {S : Sto} {P : D → Sto → Prop} {E : Str → Sto → Prop} : (sliceA a lo hi σ S).wp P E = (a σ S).wp (fun x S1 => (lo σ S1).wp (fun l S2 => (hi σ S2).wp (fun h S3 => (sliceAV x l h S3).wp P E) E) E) E := by
  unfold sliceA
  rw [wp_bind]
  congr 1
  funext x S1
  rw [wp_bind]
  congr 1
  funext l S2
  rw [wp_bind]
def heads (G : List (List Nat)) : List Nat := G.map fun g => g.headD 0
end DV

set_option maxHeartbeats 4000000
namespace DV
open PySem
/-! A gap turned, a letter left out: what the program answers of any things. -/
theorem Cut.low {S S' : Sto} (hl : S.length ≤ S'.length) (h : ∀ j, j < S.length → S'[j]? = S[j]?) : Cut S S' S :=
  ⟨hl, by
    apply List.ext_getElem?
    intro i
    by_cases hi : i < S.length
    · rw [List.getElem?_take_of_lt hi, h i hi]
    · rw [List.getElem?_eq_none (by omega), List.getElem?_eq_none (by simp; omega)], fun i o hi e => .inl ((h i hi).symm.trans e)⟩
@[simp ↓] theorem wp_methT (g : D → List D → Sto → R D) (o : Ex) (a : Ax) {σ : En} {S : Sto} {P : D → Sto → Prop} {E : Str → Sto → Prop} : (methT g o a σ S).wp P E = (o σ S).wp (fun x S1 => ∃ ts, x = .py (.tuple ts) ∧ (a σ S1).wp (fun ds S2 => (g x ds S2).wp P E) E) E := by
  unfold methT
  rw [wp_bind]
  congr 1
  funext x S1
  rcases x with d | n | n
  · cases d
    case tuple ts =>
      simp only [wp_bind]
      exact propext ⟨fun h => ⟨ts, rfl, h⟩, fun ⟨_, _, h⟩ => h⟩
    all_goals exact propext ⟨fun h => h.elim, fun ⟨_, e, _⟩ => by cases e⟩
  · exact propext ⟨fun h => h.elim, fun ⟨_, e, _⟩ => by cases e⟩
  · exact propext ⟨fun h => h.elim, fun ⟨_, e, _⟩ => by cases e⟩
end DV

set_option maxHeartbeats 4000000
namespace DV
open PySem
/-! Pieces of texts. -/
def pc (f : Face) (P : List Pair) (l : List Nat) : PyData := if l = [] then .none else .tuple [lt (l.headD 0), lt (l.getLastD 0), .int (wd f P l)]
/-! ### cuts -/
/-! ### beginnings and widths -/
@[simp ↓] theorem wp_revL (a : Ex) {σ : En} {S : Sto} {P : List D → Sto → Prop} {E : Str → Sto → Prop} : (revL a σ S).wp P E = (a σ S).wp (fun x S1 => ∃ ds, x = .py (.list ds) ∧ P (ds.reverse.map .py) S1) E := by
  unfold revL
  rw [wp_bind]
  congr 1
  funext x S1
  split
  · rename_i ds
    exact propext ⟨fun p => ⟨ds, rfl, p⟩, fun ⟨_, e, p⟩ => by cases e; exact p⟩
  · rename_i hn
    exact propext ⟨fun h => h.elim, fun ⟨_, e, _⟩ => (hn _ e).elim⟩
end DV

set_option maxHeartbeats 4000000
namespace DV
open PySem
/-! Texts that are joined, split again. -/
abbrev jS (sep : List Nat) (ws : List (List Nat)) : List Nat := TL.joinL sep ws
theorem pre_mark {m : Nat} (h : m ≠ 32) {p q : List Nat} (hp : m ∉ p) (hq : q = [] ∨ q.head? = some 32) : ∀ i, i < p.length → TL.pre [32, m, 32] ((p ++ q).drop i) = false := by
  intro i hi
  cases hb : TL.pre [32, m, 32] ((p ++ q).drop i) with
  | false => rfl
  | true =>
    unfold TL.pre at hb
    have e := congrArg (fun l : List Nat => l[1]?) (eq_of_beq hb)
    simp only [List.length_cons, List.length_nil] at e
    rw [List.getElem?_take_of_lt (by omega), List.getElem?_drop] at e
    simp only [List.getElem?_cons_succ, List.getElem?_cons_zero] at e
    by_cases h1 : i + 1 < p.length
    · rw [List.getElem?_append_left h1] at e
      exact absurd (List.mem_of_getElem? e) hp
    · have h2 : i + 1 = p.length := by omega
      rw [h2, List.getElem?_append_right (Nat.le_refl _), Nat.sub_self] at e
      rcases hq with rfl | hq
      · cases e
      · rw [List.head?_eq_getElem?] at hq
        rw [hq] at e
        exact absurd (Option.some.inj e).symm h
theorem spl_mark {m : Nat} (h : m ≠ 32) : ∀ {parts : List (List Nat)}, parts ≠ [] → (∀ p ∈ parts, m ∉ p) → TL.spl [32, m, 32] 0 [] (jS [32, m, 32] parts) = parts
  | [], hn, _ => absurd rfl hn
  | [p], _, hp => by
    show TL.spl [32, m, 32] 0 [] p = [p]
    rw [TL.spl_last fun i hi => by
      have := pre_mark (q := []) h (hp p (List.mem_singleton.mpr rfl)) (.inl rfl) i hi
      rwa [List.append_nil] at this, List.nil_append]
  | p :: q :: r, _, hp => by
    show TL.spl [32, m, 32] 0 [] (p ++ ([32, m, 32] ++ TL.joinL [32, m, 32] (q :: r))) = p :: q :: r
    rw [TL.spl_part (by simp) (pre_mark h (hp p (List.mem_cons_self ..)) (.inr rfl)), List.nil_append]
    have ih := spl_mark (parts := q :: r) h (by simp) fun z hz => hp z (List.mem_cons_of_mem _ hz)
    rw [show TL.spl [32, m, 32] 0 [] (TL.joinL [32, m, 32] (q :: r)) = q :: r from ih]
theorem join_st (sep : List Nat) (ws : List (List Nat)) : Txt.join (st sep) (ws.map st) = st (jS sep ws) := by
  refine TL.ext_tl ?_
  rw [TL.join_eq, TL.tl_join, List.map_map]
  have : (TL.tl ∘ st) = id := by funext w; rfl
  rw [this, List.map_id]
theorem js_len (sep : List Nat) : ∀ ws : List (List Nat), (jS sep ws).length ≤ (ws.map fun w => w.length).sum + ws.length * sep.length
  | [] => by simp [jS, TL.joinL]
  | [w] => by simp [jS, TL.joinL]
  | w :: v :: r => by
    have ih := js_len sep (v :: r)
    show (w ++ (sep ++ TL.joinL sep (v :: r))).length ≤ _
    rw [List.length_append, List.length_append, List.map_cons, List.sum_cons, List.length_cons, Nat.succ_mul]
    show w.length + (sep.length + (jS sep (v :: r)).length) ≤ _
    omega
theorem sum_len {ws : List (List Nat)} {k : Nat} (h : ∀ w ∈ ws, w.length ≤ k) : (ws.map fun w => w.length).sum ≤ ws.length * k := by
  induction ws with
  | nil => simp
  | cons w r ih =>
    have h1 := h w (by simp)
    have h2 := ih fun v hv => h v (List.mem_cons_of_mem _ hv)
    rw [List.map_cons, List.sum_cons, List.length_cons, Nat.succ_mul]
    omega
theorem js_le {sep : List Nat} {ws : List (List Nat)} {k n : Nat} (h : ∀ w ∈ ws, w.length ≤ k) (hn : ws.length ≤ n) : (jS sep ws).length ≤ n * (k + sep.length) := by
  have h1 := js_len sep ws
  have h2 := sum_len h
  have h3 : ws.length * k + ws.length * sep.length ≤ n * (k + sep.length) := by
    rw [← Nat.mul_add]
    exact Nat.mul_le_mul hn (Nat.le_refl _)
  omega
theorem js_mem {sep : List Nat} {c : Nat} : ∀ {ws : List (List Nat)}, c ∈ jS sep ws → c ∈ sep ∨ ∃ w ∈ ws, c ∈ w
  | [], h => by simp [jS, TL.joinL] at h
  | [w], h => .inr ⟨w, by simp, h⟩
  | w :: v :: r, h => by
    rcases List.mem_append.mp (show c ∈ w ++ (sep ++ jS sep (v :: r)) from h) with h | h
    · exact .inr ⟨w, by simp, h⟩
    · rcases List.mem_append.mp h with h | h
      · exact .inl h
      · rcases js_mem h with h | ⟨z, hz, h⟩
        · exact .inl h
        · exact .inr ⟨z, List.mem_cons_of_mem _ hz, h⟩
theorem strs_tx (ws : List (List Nat)) : strsOf (ws.map tx) = some (ws.map st) := by
  induction ws with
  | nil => rfl
  | cons w r ih =>
    rw [List.map_cons, List.map_cons]
    unfold strsOf
    rw [ih]
    rfl
theorem join_list {sep : List Nat} {x : Str} {ws : List (List Nat)} {k n : Nat} (hx : x = st sep) (h : ∀ w ∈ ws, w.length ≤ k) (hn : ws.length ≤ n) (hk : n * (k + sep.length) ≤ 1000000) (S : Sto) :
    joinD (.py (.str x)) [.py (.list (ws.map tx))] S = .ok (.py (tx (jS sep ws))) S := by
  subst hx
  have h2 := sum_len h
  have h3 : ws.length * k + ws.length * sep.length ≤ n * (k + sep.length) := by
    rw [← Nat.mul_add]
    exact Nat.mul_le_mul hn (Nat.le_refl _)
  have e : ((ws.map st).map fun x : Str => x.length).sum + (ws.map st).length * (st sep).length ≤ 16777216 := by
    rw [List.map_map, List.length_map]
    show (ws.map fun w => w.length).sum + ws.length * sep.length ≤ _
    omega
  simp only [joinD, strs_tx]
  rw [if_pos e, join_st]
end DV

set_option maxHeartbeats 4000000
namespace DV
open PySem
/-! Whole numbers as texts; the text of a table. -/
def numS (i : Int) : List Nat := (Str.ofString (toString i)).cps.toList
def figS (w : List Nat) : List Nat := if w.take 1 = [45] then w.drop 1 else w
structure NumOk (w : List Nat) (i : Int) : Prop where
  tx : st w = Str.ofString (toString i)
  rd : PySem.intText? (st w) = some i
  len : w.length ≤ 2
  pos : 0 < w.length
  fig : figS w ≠ []
  dig : ∀ c ∈ figS w, 48 ≤ c ∧ c ≤ 57
  sgn : ∀ c ∈ w, c = 45 ∨ (48 ≤ c ∧ c ≤ 57)
  big : -9 ≤ i ∧ i ≤ 9
theorem st_eq {a b : List Nat} : (st a = st b) = (a = b) := by
  refine propext ⟨fun h => ?_, fun h => by rw [h]⟩
  have := congrArg (fun s : Str => s.cps.toList) h
  simpa using this
theorem eq_tx (a b : List Nat) (S : Sto) : eqD (.py (tx a)) (.py (tx b)) S = .ok (.py (.bool (decide (a = b)))) S := by
  show R.ok (D.py (.bool (decide (st a = st b)))) S = _
  simp only [st_eq]
theorem sl_tx_from {w : List Nat} {n : Nat} (hl : w.length ≤ 100000) (S : Sto) : sliceV (.py (tx w)) (some (n : Int)) none S = .ok (.py (tx (w.drop n))) S := by
  simp only [sliceV]
  rw [if_pos (by rw [show sizeLine = 16777216 from rfl]; show w.length ≤ _; omega), cutS_from]
theorem dash_st : Str.ofString "-" = st [45] := by decide +kernel
theorem none_st : Str.ofString "" = st [] := by decide +kernel
theorem blank_sx : Str.ofString " " = st [32] := by decide +kernel
theorem semi_st : Str.ofString " ; " = st [32, 59, 32] := by decide +kernel
theorem figs_st : Str.ofString "0123456789" = st [48, 49, 50, 51, 52, 53, 54, 55, 56, 57] := by decide +kernel
end DV

set_option maxHeartbeats 4000000
namespace DV
open PySem
/-! The text of a table. -/
/-- letters and small numbers -/
def KyS : Ky → Prop
  | .l c => 97 ≤ c ∧ c ≤ 122
  | .n i => i ≤ 9
structure ExS (es : List Exc) : Prop where
  ok : ExOk es
  few : es.length ≤ 2000
  ky : ∀ e ∈ es, KyS e.1 ∧ KyS e.2.1
  gap : ∀ e ∈ es, -9 ≤ e.2.2 ∧ e.2.2 ≤ 9
structure PtS (G : List (List Nat)) : Prop where
  few : G.length ≤ 10
  row : ∀ g ∈ G, g.length ≤ 10
  pos : G ≠ []
  ne : ∀ g ∈ G, g ≠ []
  lts : ∀ g ∈ G, ∀ c ∈ g, 97 ≤ c ∧ c ≤ 122
structure TxS (t : Tab) : Prop where
  lp : PtS t.lefts
  rp : PtS t.rights
  gf : t.gaps.length ≤ 10
  gp : t.gaps ≠ []
  gr : ∀ r ∈ t.gaps, r.length ≤ 10 ∧ r ≠ []
  gb : ∀ r ∈ t.gaps, ∀ x ∈ r, -9 ≤ x ∧ x ≤ 9
  ex : ExS t.exc
end DV

set_option maxHeartbeats 4000000
namespace DV
open PySem
/-! The text of a table, read again. -/
inductive KyPair : Ky → Ky → Prop
  | ll {a b : Nat} : KyPair (.l a) (.l b)
  | ln {a j : Nat} : KyPair (.l a) (.n j)
  | nl {i b : Nat} : KyPair (.n i) (.l b)
end DV

set_option maxHeartbeats 4000000
namespace DV
open PySem
/-! A table read. -/
end DV

set_option maxHeartbeats 4000000
namespace DV
open PySem
/-! Numbers in any words. -/
theorem cut_to_any (w : List Nat) (n : Nat) : L2.cutS (st w) none (some (n : Int)) = st (w.take n) := by
  unfold L2.cutS
  rw [HT.sIx_nat, HT.sIx_none]
  show (⟨((w.drop 0).take (min n w.length - 0)).toArray⟩ : Str) = _
  rw [List.drop_zero, Nat.sub_zero]
  congr 2
  rw [List.take_eq_take_iff]
  omega
theorem cut_mid_any (w : List Nat) (a b : Nat) : L2.cutS (st w) (some (a : Int)) (some (b : Int)) = st ((w.drop a).take (b - a)) := by
  unfold L2.cutS
  rw [HT.sIx_nat, HT.sIx_nat]
  show (⟨((w.drop (min a w.length)).take (min b w.length - min a w.length)).toArray⟩ : Str) = _
  congr 2
  by_cases h : a ≤ w.length
  · rw [Nat.min_eq_left h, List.take_eq_take_iff, List.length_drop]
    omega
  · rw [Nat.min_eq_right (by omega : w.length ≤ a), List.drop_eq_nil_of_le (Nat.le_refl _), List.drop_eq_nil_of_le (by omega : w.length ≤ a)]
    simp
theorem sl_to {w : List Nat} (n : Nat) (hl : w.length ≤ 100000) (S : Sto) : sliceV (.py (tx w)) none (some (n : Int)) S = .ok (.py (tx (w.take n))) S := by
  simp only [sliceV]
  rw [if_pos (by rw [show sizeLine = 16777216 from rfl]; show w.length ≤ _; omega), cut_to_any]
theorem sl_mid {w : List Nat} (a b : Nat) (hl : w.length ≤ 100000) (S : Sto) : sliceV (.py (tx w)) (some (a : Int)) (some (b : Int)) S = .ok (.py (tx ((w.drop a).take (b - a)))) S := by
  simp only [sliceV]
  rw [if_pos (by rw [show sizeLine = 16777216 from rfl]; show w.length ≤ _; omega), cut_mid_any]
def digB (l : List Nat) : Bool := l.all fun c => decide (48 ≤ c ∧ c ≤ 57)
def okW (m : Nat) (w : List Nat) : Prop := figS w ≠ [] ∧ (figS w).length ≤ m ∧ digB (figS w) = true
instance (m : Nat) (w : List Nat) : Decidable (okW m w) := by unfold okW; infer_instance
def valW (w : List Nat) : Int := (PySem.intText? (st w)).getD 0
theorem digitsVal_lt {l : List Nat} (h : ∀ c ∈ l, 48 ≤ c ∧ c ≤ 57) : NumText.digitsVal l < 10 ^ l.length := by
  have key : ∀ (l : List Nat) (a : Nat), (∀ c ∈ l, 48 ≤ c ∧ c ≤ 57) → l.foldl (fun n c => n * 10 + (c - 48)) a < (a + 1) * 10 ^ l.length := by
    intro l
    induction l with
    | nil => intro a _; simp
    | cons c r ih =>
      intro a h
      have hc := h c (by simp)
      have := ih (a * 10 + (c - 48)) fun x hx => h x (List.mem_cons_of_mem _ hx)
      rw [List.foldl_cons, List.length_cons, Nat.pow_succ]
      refine Nat.lt_of_lt_of_le this ?_
      have e : (a + 1) * (10 ^ r.length * 10) = ((a + 1) * 10) * 10 ^ r.length := by rw [Nat.mul_comm (10 ^ r.length) 10, Nat.mul_assoc]
      rw [e]
      exact Nat.mul_le_mul_right _ (by omega)
  have := key l 0 h
  unfold NumText.digitsVal
  simpa using this
theorem valW_some {m : Nat} {w : List Nat} (hm : m ≤ 20) (h : okW m w) : PySem.intText? (st w) = some (valW w) ∧ (-(10 ^ 20) < valW w ∧ valW w < 10 ^ 20) := by
  obtain ⟨h0, hl, hd⟩ := h
  have hd' : ∀ c ∈ figS w, 48 ≤ c ∧ c ≤ 57 := fun c hc => by
    have := List.all_eq_true.mp hd c hc
    simpa using this
  have lt : NumText.digitsVal (figS w) < 10 ^ 20 := Nat.lt_of_lt_of_le (digitsVal_lt hd') (Nat.pow_le_pow_right (by decide) (by omega))
  have lt' : ((NumText.digitsVal (figS w) : Nat) : Int) < 10 ^ 20 := by exact_mod_cast lt
  suffices H : ∃ n : Int, PySem.intText? (st w) = some n ∧ (-(10 ^ 20) < n ∧ n < 10 ^ 20) by
    obtain ⟨n, e, b⟩ := H
    have : valW w = n := by unfold valW; rw [e]; rfl
    rw [this]
    exact ⟨e, b⟩
  by_cases h45 : w.take 1 = [45]
  · obtain ⟨cs, rfl⟩ : ∃ cs, w = 45 :: cs := by
      cases w with
      | nil => simp at h45
      | cons a r =>
        have : a = 45 := by simpa using h45
        exact ⟨r, by rw [this]⟩
    have ef : figS (45 :: cs) = cs := by unfold figS; rw [if_pos h45]; rfl
    rw [ef] at h0 hl hd' lt'
    refine ⟨_, intText_neg (x := st (45 :: cs)) (cs := cs) rfl hd' h0 (by show (45 :: cs).length ≤ 4300; simp; omega), ?_⟩
    omega
  · have ef : figS w = w := by unfold figS; rw [if_neg h45]
    rw [ef] at h0 hl hd' lt'
    refine ⟨_, intText_digits (x := st w) hd' h0 (by show w.length ≤ 4300; omega), ?_⟩
    show -(10 ^ 20) < ((NumText.digitsVal w : Nat) : Int) ∧ ((NumText.digitsVal w : Nat) : Int) < 10 ^ 20
    omega
def numP (w : List Nat) : PyData := if okW 20 w then (if numS (valW w) = w then .int (valW w) else .none) else .none
def numL (w : List Nat) : PyData := if okW 18 w then (if (figS w).headD 0 = 48 ∧ w ≠ [48] then .none else .int (valW w)) else .none
theorem dig_in (c : Nat) (T : Sto) : inD (.py (.str ⟨#[c]⟩)) (.py (tx [48, 49, 50, 51, 52, 53, 54, 55, 56, 57])) T = .ok (.py (.bool (decide (48 ≤ c ∧ c ≤ 57)))) T := by
  show R.ok (D.py (.bool (decide (c ∈ [48, 49, 50, 51, 52, 53, 54, 55, 56, 57])))) T = _
  congr 4
  simp only [List.mem_cons, List.not_mem_nil, or_false]
  rw [eq_iff_iff]
  omega
theorem numS_any {n : Int} (h : -(10 ^ 20) < n ∧ n < 10 ^ 20) (S : Sto) : strD [.py (.int n)] S = .ok (.py (tx (numS n))) S := by
  simp only [strD]
  rw [if_pos (log_small (by omega))]
  rfl
section
variable {w : List Nat} (hl : w.length ≤ 2000)
include hl
theorem fig_len : (figS w).length ≤ 2000 := by
  unfold figS
  split
  · rw [List.length_drop]; omega
  · exact hl
theorem int_any {m : Nat} (hm : m ≤ 20) (h : okW m w) (T : Sto) : intX [.py (tx w)] T = .ok (.py (.int (valW w))) T := by
  have e := (valW_some hm h).1
  simp only [intX]
  rw [show PySem.intText? (⟨w.toArray⟩ : Str) = some (valW w) from e]
  simp only
  rw [if_pos]
  show w.length ≤ 640
  have := h.2.1
  unfold figS at this
  split at this
  · rw [List.length_drop] at this; omega
  · omega
theorem number_in_any (S : Sto) : F_number_in [.py (tx w)] S = .ok (.py (numP w)) S := by
  have s1 : ∀ T, sliceV (.py (tx w)) none (some 1) T = .ok (.py (tx (w.take 1))) T := fun T => sl_to (w := w) 1 (by omega) T
  have s2 : ∀ T, sliceV (.py (tx w)) (some 1) none T = .ok (.py (tx (w.drop 1))) T := fun T => sl_tx_from (w := w) (n := 1) (by omega) T
  have e1 := fun T => eq_tx (w.take 1) [45] T
  have e2 := fun T => eq_tx (figS w) [] T
  have ln : ∀ T, lenD [.py (tx (figS w))] T = .ok (.py (.int ((figS w).length : Nat))) T := fun T => by
    simp only [lenD]
    rw [if_pos (by rw [show sizeLine = 16777216 from rfl]; show (figS w).length ≤ _; have := fig_len hl; omega)]
    rfl
  have cm : ∀ (x y : Int) T, cmpI (fun i j => decide (j < i)) (.py (.int x)) (.py (.int y)) T = .ok (.py (.bool (decide (y < x)))) T := fun x y T => rfl
  have lf := fig_len hl
  have tail : ∀ (N : K), N.rt (.py (numP w)) S → ((seqS (ifS (orT (valT (opE eqD (varE 1) (cE (.str "")))) (orT (valT (opE (cmpI fun i j => decide (j < i)) (callE lenD (consA (varE 1) nilA)) (cE (.int 20)))) (notT (valT (callE allD (consA (frzE (lcX (txtI (varE 1)) [2] (nmG 2) yesT (opE inD (varE 2) (cE (.str "0123456789"))))) nilA)))))) (retS (cE .none)) passS) (seqS (ifS (valT (opE neD (callE strD (consA (callE intX (consA (varE 0) nilA)) nilA)) (varE 0))) (retS (cE .none)) passS) (retS (callE intX (consA (varE 0) nilA))))) [some (.py (tx w)), some (.py (tx (figS w))), none] S).wp N := fun N hN => by
    rw [figs_st, none_st]
    simp [e2, ln, cm]
    by_cases h0 : figS w = []
    · refine .inr ⟨h0, ?_⟩
      have : numP w = .none := if_neg fun h => h.1 h0
      rw [this] at hN
      exact hN
    refine .inl ⟨h0, ?_⟩
    by_cases h20 : 20 < (figS w).length
    · refine .inr ⟨by omega, ?_⟩
      have : numP w = .none := if_neg fun h => by have := h.2.1; omega
      rw [this] at hN
      exact hN
    refine .inl ⟨by omega, ?_⟩
    refine ⟨by simp [Str.length]; omega, ?_⟩
    refine wp_pureM1 (D.py ∘ lt) (fun c => D.py (.bool (decide (48 ≤ c ∧ c ≤ 57)))) (fun c hc => wp_eq (by simp [dig_in])) ?_
    have e3 : ((figS w).map fun c => D.py (.bool (decide (48 ≤ c ∧ c ≤ 57)))) = (((figS w).map fun c => decide (48 ≤ c ∧ c ≤ 57)).map PyData.bool).map D.py := by simp
    rw [e3, pysOf_map]
    simp only [allD_bools, wp_ok]
    have eall : ((figS w).map fun c => decide (48 ≤ c ∧ c ≤ 57)).all id = digB (figS w) := by unfold digB; rw [List.all_map]; rfl
    rw [eall]
    by_cases hd : digB (figS w) = true
    · have ok : okW 20 w := ⟨h0, by omega, hd⟩
      have ix := fun T => int_any hl (Nat.le_refl _) ok T
      have bn := (valW_some (Nat.le_refl _) ok).2
      have sn := fun T => numS_any bn T
      have ne : ∀ T, neD (.py (tx (numS (valW w)))) (.py (tx w)) T = .ok (.py (.bool (!decide (numS (valW w) = w)))) T := fun T => by
        show R.ok (D.py (.bool (!decide (st (numS (valW w)) = st w)))) T = _
        simp only [st_eq]
      refine .inr ⟨by rw [hd], ?_⟩
      simp [ix, sn, ne]
      by_cases e : numS (valW w) = w
      · refine .inl ⟨e, ?_⟩
        have : numP w = .int (valW w) := by unfold numP; rw [if_pos ok, if_pos e]
        rw [this] at hN
        exact hN
      · refine .inr ⟨e, ?_⟩
        have : numP w = .none := by unfold numP; rw [if_pos ok, if_neg e]
        rw [this] at hN
        exact hN
    · have hd : digB (figS w) = false := by simpa using hd
      refine .inl ⟨by rw [hd], ?_⟩
      have : numP w = .none := if_neg fun h => by rw [h.2.2] at hd; cases hd
      rw [this] at hN
      exact hN
  unfold F_number_in b_number_in
  refine fn_eq (wp_fn ?_)
  rw [wp_seq]
  refine wp_mid (fun _ σ' S' => σ' = [some (.py (tx w)), some (.py (tx (figS w))), none] ∧ S' = S) ?_ ?_
  · rw [dash_st]
    by_cases h45 : w.take 1 = [45]
    · have ef : figS w = w.drop 1 := by unfold figS; rw [if_pos h45]
      rw [ef]
      simp [init, s1, s2, e1, h45, -List.drop_one, -List.tail_drop]
    · have ef : figS w = w := by unfold figS; rw [if_neg h45]
      rw [ef]
      simp [init, s1, s2, e1, h45]
  · rintro σ' S' ⟨rfl, rfl⟩
    exact tail _ ⟨S', .self, rfl, rfl, rfl⟩
end
end DV

set_option maxHeartbeats 4000000
namespace DV
open PySem
theorem law_number_any {w : List Nat} (hl : w.length ≤ 2000) (S : Sto) : F_law_number [.py (tx w)] S = .ok (.py (numL w)) S := by
  have s1 : ∀ T, sliceV (.py (tx w)) none (some 1) T = .ok (.py (tx (w.take 1))) T := fun T => sl_to (w := w) 1 (by omega) T
  have s2 : ∀ T, sliceV (.py (tx w)) (some 1) none T = .ok (.py (tx (w.drop 1))) T := fun T => sl_tx_from (w := w) (n := 1) (by omega) T
  have e1 := fun T => eq_tx (w.take 1) [45] T
  have e2 := fun T => eq_tx (figS w) [] T
  have lf := fig_len hl
  have ln : ∀ T, lenD [.py (tx (figS w))] T = .ok (.py (.int ((figS w).length : Nat))) T := fun T => by
    simp only [lenD]
    rw [if_pos (by rw [show sizeLine = 16777216 from rfl]; show (figS w).length ≤ _; omega)]
    rfl
  have cm : ∀ (x y : Int) T, cmpI (fun i j => decide (j < i)) (.py (.int x)) (.py (.int y)) T = .ok (.py (.bool (decide (y < x)))) T := fun x y T => rfl
  have z48 : Str.ofString "0" = st [48] := by decide +kernel
  have tail : ∀ (N : K), N.rt (.py (numL w)) S → ((seqS (ifS (orT (valT (opE eqD (varE 1) (cE (.str "")))) (orT (valT (opE (cmpI fun i j => decide (j < i)) (callE lenD (consA (varE 1) nilA)) (cE (.int 18)))) (notT (valT (callE allD (consA (frzE (lcX (txtI (varE 1)) [2] (nmG 2) yesT (opE inD (varE 2) (cE (.str "0123456789"))))) nilA)))))) (retS (cE .none)) passS) (seqS (ifS (andT (valT (opE eqD (opE itemD (varE 1) (cE (.int 0))) (cE (.str "0")))) (valT (opE neD (varE 0) (cE (.str "0"))))) (retS (cE .none)) passS) (retS (callE intX (consA (varE 0) nilA))))) [some (.py (tx w)), some (.py (tx (figS w))), none] S).wp N := fun N hN => by
    rw [figs_st, none_st]
    simp [e2, ln, cm]
    by_cases h0 : figS w = []
    · refine .inr ⟨h0, ?_⟩
      have : numL w = .none := if_neg fun h => h.1 h0
      rw [this] at hN
      exact hN
    refine .inl ⟨h0, ?_⟩
    by_cases h20 : 18 < (figS w).length
    · refine .inr ⟨by omega, ?_⟩
      have : numL w = .none := if_neg fun h => by have := h.2.1; omega
      rw [this] at hN
      exact hN
    refine .inl ⟨by omega, ?_⟩
    refine ⟨by simp [Str.length]; omega, ?_⟩
    refine wp_pureM1 (D.py ∘ lt) (fun c => D.py (.bool (decide (48 ≤ c ∧ c ≤ 57)))) (fun c hc => wp_eq (by simp [dig_in])) ?_
    have e3 : ((figS w).map fun c => D.py (.bool (decide (48 ≤ c ∧ c ≤ 57)))) = (((figS w).map fun c => decide (48 ≤ c ∧ c ≤ 57)).map PyData.bool).map D.py := by simp
    rw [e3, pysOf_map]
    simp only [allD_bools, wp_ok]
    have eall : ((figS w).map fun c => decide (48 ≤ c ∧ c ≤ 57)).all id = digB (figS w) := by unfold digB; rw [List.all_map]; rfl
    rw [eall]
    by_cases hd : digB (figS w) = true
    · have ok : okW 18 w := ⟨h0, by omega, hd⟩
      have ix := fun T => int_any hl (by decide) ok T
      have it : ∀ T, itemD (.py (tx (figS w))) (.py (.int 0)) T = .ok (.py (lt ((figS w).headD 0))) T := fun T => by
        refine item_tx (k := 0) (by omega) ?_ T
        cases h : figS w with
        | nil => exact absurd h h0
        | cons a r => rfl
      have e4 := fun T => eq_tx [(figS w).headD 0] [48] T
      have n4 : ∀ T, neD (.py (tx w)) (.py (tx [48])) T = .ok (.py (.bool (!decide (w = [48])))) T := fun T => by
        show R.ok (D.py (.bool (!decide (st w = st [48])))) T = _
        simp only [st_eq]
      refine .inr ⟨by rw [hd], ?_⟩
      rw [z48]
      have e4' : ∀ T, eqD (.py (lt ((figS w).headD 0))) (.py (.str (st [48]))) T = .ok (.py (.bool (decide ((figS w).headD 0 = 48)))) T := fun T => by
        have := e4 T
        rw [this]
        simp
      have se : ((⟨w.toArray⟩ : Str) = st [48]) = (w = [48]) := st_eq
      simp only [wp_ok, it, e4', se, ix]
      by_cases c1 : (figS w).headD 0 = 48
      · refine .inr ⟨by simp only [c1, decide_true], ?_⟩
        by_cases c2 : w = [48]
        · refine .inl ⟨c2, ?_⟩
          have : numL w = .int (valW w) := by unfold numL; rw [if_pos ok, if_neg fun h => h.2 c2]
          rw [this] at hN
          exact hN
        · refine .inr ⟨c2, ?_⟩
          have : numL w = .none := by unfold numL; rw [if_pos ok, if_pos ⟨c1, c2⟩]
          rw [this] at hN
          exact hN
      · refine .inl ⟨by simp only [c1, decide_false], ?_⟩
        have : numL w = .int (valW w) := by unfold numL; rw [if_pos ok, if_neg fun h => c1 h.1]
        rw [this] at hN
        exact hN
    · have hd : digB (figS w) = false := by simpa using hd
      refine .inl ⟨by rw [hd], ?_⟩
      have : numL w = .none := if_neg fun h => by rw [h.2.2] at hd; cases hd
      rw [this] at hN
      exact hN
  unfold F_law_number b_law_number
  refine fn_eq (wp_fn ?_)
  rw [wp_seq]
  refine wp_mid (fun _ σ' S' => σ' = [some (.py (tx w)), some (.py (tx (figS w))), none] ∧ S' = S) ?_ ?_
  · rw [dash_st]
    by_cases h45 : w.take 1 = [45]
    · have ef : figS w = w.drop 1 := by unfold figS; rw [if_pos h45]
      rw [ef]
      simp [init, s1, s2, e1, h45, -List.drop_one, -List.tail_drop]
    · have ef : figS w = w := by unfold figS; rw [if_neg h45]
      rw [ef]
      simp [init, s1, s2, e1, h45]
  · rintro σ' S' ⟨rfl, rfl⟩
    exact tail _ ⟨S', .self, rfl, rfl, rfl⟩
end DV

set_option maxHeartbeats 4000000
namespace DV
open PySem
/-! A letter made like another one. -/
@[simp ↓] theorem wp_dictT (f : Ex) {σ : En} {S : Sto} {P : D → Sto → Prop} {E : Str → Sto → Prop} : (dictT f σ S).wp P E = (f σ S).wp (fun d S1 => ∃ ds kv, d = .py (.tuple ds) ∧ pairsOf ds = some kv ∧ (kv.map Prod.fst).Nodup ∧ P (.py (.dict (kv.map fun p => (keyP p.1, p.2)))) S1) E := by
  unfold dictT
  rw [wp_bind]
  congr 1
  funext d S1
  rcases d with d | n | n
  · cases d
    case tuple ds =>
      cases h : pairsOf ds with
      | none =>
        simp only [h]
        exact propext ⟨fun h => h.elim, fun ⟨_, _, e, h2, _⟩ => by cases e; rw [h] at h2; cases h2⟩
      | some kv =>
        simp only [h]
        rw [wp_iteR]
        split
        · rename_i hz
          exact propext ⟨fun p => ⟨_, _, rfl, h, hz, p⟩, fun ⟨_, _, e, h2, _, p⟩ => by cases e; rw [h] at h2; cases h2; exact p⟩
        · rename_i hz
          exact propext ⟨fun p => p.elim, fun ⟨_, _, e, h2, z, p⟩ => by cases e; rw [h] at h2; cases h2; exact hz z⟩
    all_goals exact propext ⟨fun h => h.elim, fun ⟨_, _, e, _⟩ => by cases e⟩
  · exact propext ⟨fun h => h.elim, fun ⟨_, _, e, _⟩ => by cases e⟩
  · exact propext ⟨fun h => h.elim, fun ⟨_, _, e, _⟩ => by cases e⟩
end DV

set_option maxHeartbeats 4000000
namespace DV
open PySem
/-! Lists with open pairs. -/
end DV

set_option maxHeartbeats 4000000
namespace DV
open PySem
/-! Open lists closed by a parting. -/
/-- a list of the store that is filled while others come and go above it -/
def Fil (S : Sto) (ds : List PyData) (T : Sto) : Prop := ∃ G, T = S ++ O.lst (ds.map D.py) :: G
theorem Fil.get {S T : Sto} {ds : List PyData} (h : Fil S ds T) : T[S.length]? = some (.lst (ds.map D.py)) := by
  obtain ⟨G, rfl⟩ := h
  simp
theorem Fil.app {S T : Sto} {ds : List PyData} (h : Fil S ds T) (hl : ds.length ≤ 100000) (d : PyData) : ∃ U, appendD (.obj S.length) [.py d] T = .ok (.py .none) U ∧ Fil S (ds ++ [d]) U := by
  have hg := h.get
  obtain ⟨G, rfl⟩ := h
  refine ⟨_, appendD_obj hg (by rw [List.length_map, sl_tr]; omega), G, ?_⟩
  rw [List.set_append_right _ _ (by omega)]
  simp
theorem Fil.more {S T : Sto} {ds : List PyData} (h : Fil S ds T) (U : Sto) : Fil S ds (T ++ U) := by
  obtain ⟨G, rfl⟩ := h
  exact ⟨G ++ U, by simp⟩
end DV

set_option maxHeartbeats 4000000
namespace DV
open PySem
/-! Open lists drawn. -/
end DV

set_option maxHeartbeats 4000000
namespace DV
open PySem
/-! Open lists in order are open lists. -/
end DV

set_option maxHeartbeats 4000000
namespace DV
open PySem
/-! Is any thing a face? -/
def letF : PyData → Option Nat
  | .tuple [d, w] => if isFT 10 99 w = true then isL d else none
  | _ => none
def letsF : List PyData → Option (List Nat)
  | [] => some []
  | d :: ds => match letF d, letsF ds with
    | some c, some cs => some (c :: cs)
    | _, _ => none
def nodF (ls : List PyData) : Bool := match letsF ls with
  | some cs => decide cs.Nodup
  | none => false
def isFace : PyData → Bool
  | .tuple [d, .tuple ls] => isFT 1 99 d && (decide (1 ≤ ls.length ∧ ls.length ≤ 10) && nodF ls)
  | _ => false
theorem letF_is {x : PyData} {c : Nat} (h : letF x = some c) : ∃ w, x = .tuple [lt c, w] ∧ isFT 10 99 w = true ∧ isL (lt c) = some c ∧ 97 ≤ c ∧ c ≤ 122 := by
  unfold letF at h
  split at h
  · rename_i d w
    split at h
    · rename_i hw
      have h' := h
      obtain ⟨rfl, h1, h2⟩ := isL_lt h
      exact ⟨w, rfl, hw, h', h1, h2⟩
    · cases h
  · cases h
theorem letsF_snoc {x : PyData} {c : Nat} : ∀ {xs : List PyData} {cs : List Nat}, letsF xs = some cs → letF x = some c → letsF (xs ++ [x]) = some (cs ++ [c])
  | [], cs, h, hx => by
    cases h
    simp [letsF, hx]
  | y :: xs, cs, h, hx => by
    unfold letsF at h
    split at h
    · rename_i d ds h1 h2
      cases h
      rw [List.cons_append, letsF, h1, letsF_snoc h2 hx]
      rfl
    · cases h
theorem letsF_none {x : PyData} {post : List PyData} : ∀ {xs : List PyData}, letF x = none → letsF (xs ++ x :: post) = none
  | [], hx => by simp [letsF, hx]
  | y :: xs, hx => by
    rw [List.cons_append, letsF, letsF_none (xs := xs) hx]
    split
    · rename_i h; cases h
    · rfl
theorem letsF_cut : ∀ {xs ys : List PyData} {cs : List Nat}, letsF (xs ++ ys) = some cs → ∃ as bs, letsF xs = some as ∧ letsF ys = some bs ∧ cs = as ++ bs
  | [], ys, cs, h => ⟨[], cs, rfl, h, rfl⟩
  | x :: xs, ys, cs, h => by
    rw [List.cons_append, letsF] at h
    split at h
    · rename_i d ds h1 h2
      cases h
      obtain ⟨as, bs, e1, e2, rfl⟩ := letsF_cut h2
      exact ⟨d :: as, bs, by rw [letsF, h1, e1], e2, rfl⟩
    · cases h
theorem letsF_len : ∀ {xs : List PyData} {cs : List Nat}, letsF xs = some cs → cs.length = xs.length
  | [], cs, h => by cases h; rfl
  | x :: xs, cs, h => by
    rw [letsF] at h
    split at h
    · rename_i d ds h1 h2
      cases h
      rw [List.length_cons, List.length_cons, letsF_len h2]
    · cases h
theorem nodF_bad {pre post : List PyData} {x : PyData} (h : letF x = none) : nodF (pre ++ x :: post) = false := by
  unfold nodF
  rw [letsF_none h]
theorem nodF_twice {pre post : List PyData} {x : PyData} {cs : List Nat} {c : Nat} (h1 : letsF pre = some cs) (h2 : letF x = some c) (hc : c ∈ cs) : nodF (pre ++ x :: post) = false := by
  unfold nodF
  cases e : letsF (pre ++ x :: post) with
  | none => rfl
  | some zs =>
    have e' : pre ++ x :: post = (pre ++ [x]) ++ post := by simp
    rw [e'] at e
    obtain ⟨as, bs, e1, e2, rfl⟩ := letsF_cut e
    rw [letsF_snoc h1 h2] at e1
    cases e1
    simp only [decide_eq_false_iff_not]
    intro hp
    exact (List.nodup_append.mp (List.nodup_append.mp hp).1).2.2 c hc c (by simp) rfl
theorem two {gs : List PyData} (h : gs.length = 2) : ∃ a b, gs = [a, b] := by
  match gs, h with
  | [a, b], _ => exact ⟨a, b, rfl⟩
theorem not_two {gs : List PyData} (h : gs.length ≠ 2) : letF (.tuple gs) = none := by
  unfold letF
  split
  · rename_i e
    cases e
    exact absurd rfl h
  · rfl
/-! a set of letters -/
theorem fold_lt : ∀ (cs acc : List Nat), (cs.map fun c => (⟨#[c]⟩ : Str)).foldl stepS (acc.map fun c => (⟨#[c]⟩ : Str)) = (cs.foldl (fun a c => if c ∈ a then a else a ++ [c]) acc).map fun c => (⟨#[c]⟩ : Str)
  | [], acc => rfl
  | c :: cs, acc => by
    have inj : ∀ a b : Nat, ((⟨#[a]⟩ : Str) == ⟨#[b]⟩) = decide (a = b) := fun a b => by
      by_cases h : a = b
      · subst h; simp
      · rw [decide_eq_false h]
        exact beq_eq_false_iff_ne.mpr fun e => h (by cases e; rfl)
    have e : stepS (acc.map fun c => (⟨#[c]⟩ : Str)) ⟨#[c]⟩ = (if c ∈ acc then acc else acc ++ [c]).map fun c => (⟨#[c]⟩ : Str) := by
      unfold stepS
      have ha : (acc.map fun c => (⟨#[c]⟩ : Str)).any (· == ⟨#[c]⟩) = decide (c ∈ acc) := by
        rw [List.any_map, Bool.eq_iff_iff, List.any_eq_true, decide_eq_true_eq]
        constructor
        · rintro ⟨x, hx, h⟩
          have h : ((⟨#[x]⟩ : Str) == ⟨#[c]⟩) = true := h
          rw [inj] at h
          exact of_decide_eq_true h ▸ hx
        · intro h
          exact ⟨c, h, by show ((⟨#[c]⟩ : Str) == ⟨#[c]⟩) = true; rw [inj]; simp⟩
      rw [ha]
      by_cases h : c ∈ acc <;> simp [h]
    rw [List.map_cons, List.foldl_cons, e, fold_lt cs, List.foldl_cons]
theorem fold_ge : ∀ (cs acc : List Nat), (cs.foldl (fun a c => if c ∈ a then a else a ++ [c]) acc).length ≤ acc.length + cs.length
  | [], acc => by simp
  | c :: cs, acc => by
    have h := fold_ge cs (if c ∈ acc then acc else acc ++ [c])
    rw [List.foldl_cons]
    split at h <;> simp_all <;> omega
theorem fold_nodup : ∀ (cs acc : List Nat), acc.Nodup → ((cs.foldl (fun a c => if c ∈ a then a else a ++ [c]) acc).length = acc.length + cs.length ↔ (acc ++ cs).Nodup)
  | [], acc, h => by simp [h]
  | c :: cs, acc, h => by
    rw [List.foldl_cons]
    by_cases hc : c ∈ acc
    · rw [if_pos hc]
      have := fold_ge cs acc
      constructor
      · intro e
        simp at e
        omega
      · intro hn
        exact absurd rfl ((List.nodup_append.mp hn).2.2 c hc c (by simp))
    · rw [if_neg hc]
      have hn : (acc ++ [c]).Nodup := List.nodup_append.mpr ⟨h, by simp, fun a ha b hb e => by
        rw [List.mem_singleton.mp hb] at e
        exact hc (e ▸ ha)⟩
      have := fold_nodup cs (acc ++ [c]) hn
      rw [List.append_assoc] at this
      simp only [List.length_append, List.length_cons, List.length_nil, List.singleton_append] at this ⊢
      rw [← this]
      omega
theorem dedS_lts (cs : List Nat) : (dedS (cs.map fun c => (⟨#[c]⟩ : Str))).length = cs.length ↔ cs.Nodup := by
  have h := fold_lt cs []
  unfold dedS
  rw [show ([] : List Str) = ([] : List Nat).map (fun c => (⟨#[c]⟩ : Str)) from rfl, h, List.length_map]
  simpa using fold_nodup cs [] List.nodup_nil
theorem textsOf_lts : ∀ cs : List Nat, textsOf (cs.map lt) = some (cs.map fun c => (⟨#[c]⟩ : Str))
  | [] => rfl
  | c :: cs => by
    show (textsOf (cs.map lt)).map _ = _
    rw [textsOf_lts cs]
    rfl
theorem lenSetX_lts {cs : List Nat} (h : cs.length ≤ 4000) (S : Sto) : lenSetX (.py (.list (cs.map lt))) S = .ok (.py (.int ((dedS (cs.map fun c => (⟨#[c]⟩ : Str))).length : Nat))) S := by
  have hd : deep S 8 (.py (.list (cs.map lt))) = some (.list (cs.map lt)) := rfl
  unfold lenSetX
  rw [hd]
  simp only [textsOf_lts]
  rw [if_pos (by simpa using h)]
theorem is_face_any {t : PyData} {k w : Nat} (h : FitX t k w) (hw : w ≤ 9000) (S : Sto) : F_is_face [.py t] S = .ok (.py (.bool (isFace t))) S := by
  unfold F_is_face b_is_face
  refine fn_eq (wp_fn ?_)
  cases t with
  | none => simp [init, isB, isFace]; exact ⟨.self, rfl⟩
  | bool b => simp [init, isB, isFace]; exact ⟨.self, rfl⟩
  | int b => simp [init, isB, isFace]; exact ⟨.self, rfl⟩
  | str b => simp [init, isB, isFace]; exact ⟨.self, rfl⟩
  | list b => simp [init, isB, isFace]; exact ⟨.self, rfl⟩
  | dict b => simp [init, isiD, tyN, isB, isFace]; exact ⟨.self, rfl⟩
  | tuple ts =>
    by_cases hl : ts.length = 2
    · obtain ⟨d, e, rfl⟩ := two hl
      have i0 : ∀ T, itemD (.py (.tuple [d, e])) (.py (.int 0)) T = .ok (.py d) T := fun T => itemD_tupleI (by decide) rfl
      have i1 : ∀ T, itemD (.py (.tuple [d, e])) (.py (.int 1)) T = .ok (.py e) T := fun T => itemD_tupleI (by decide) rfl
      have ft := from_to_any d 1 99
      have sd : ∀ ds, seqD (.py (.tuple ds)) = some ds := fun _ => rfl
      by_cases hd : isFT 1 99 d = true
      · cases e with
        | none => simp [init, isB, isFace, i0, i1, ft, hd]; exact ⟨.self, rfl⟩
        | bool b => simp [init, isB, isFace, i0, i1, ft, hd]; exact ⟨.self, rfl⟩
        | int b => simp [init, isB, isFace, i0, i1, ft, hd]; exact ⟨.self, rfl⟩
        | str b => simp [init, isB, isFace, i0, i1, ft, hd]; exact ⟨.self, rfl⟩
        | list b => simp [init, isB, isFace, i0, i1, ft, hd]; exact ⟨.self, rfl⟩
        | dict b => simp [init, isiD, tyN, isB, isFace, i0, i1, ft, hd]; exact ⟨.self, rfl⟩
        | tuple ls =>
          have hls : FitX (.tuple ls) k w := h.item (by simp)
          by_cases hz : 1 ≤ ls.length ∧ ls.length ≤ 10
          · simp [init, isB, isFace, i0, i1, ft, hd, hz, pysOf, -wp_forL_cons]
            refine .inr ⟨by omega, .inr ⟨by omega, ?_⟩⟩
            refine wp_forM D.py (fun pre σ T => wipeD σ [1] = wipeD (init 2 [.py (.tuple [d, .tuple ls])]) [1] ∧ T = S ∧ ∃ cs, letsF pre = some cs) ⟨rfl, rfl, [], rfl⟩ ?_ ?_
            · rintro pre x post σ T e ⟨hσ, rfl, cs, hcs⟩
              obtain ⟨v1, rfl⟩ := slot_any hσ
              clear hσ
              have bad : letF x = none → ∃ U, Cut T T U ∧ (D.py (PyData.bool false)).pure = true ∧ nodF ls = false ∧ U = T := fun h => ⟨T, .self, rfl, by rw [e]; exact nodF_bad h, rfl⟩
              cases x with
              | none => simp [init, isB]; exact bad rfl
              | bool b => simp [init, isB]; exact bad rfl
              | int b => simp [init, isB]; exact bad rfl
              | str b => simp [init, isB]; exact bad rfl
              | list b => simp [init, isB]; exact bad rfl
              | dict b => simp [init, isiD, tyN, isB]; exact bad rfl
              | tuple gs =>
                by_cases hg : gs.length = 2
                · obtain ⟨a, b, rfl⟩ := two hg
                  have j0 : ∀ T, itemD (.py (.tuple [a, b])) (.py (.int 0)) T = .ok (.py a) T := fun T => itemD_tupleI (by decide) rfl
                  have j1 : ∀ T, itemD (.py (.tuple [a, b])) (.py (.int 1)) T = .ok (.py b) T := fun T => itemD_tupleI (by decide) rfl
                  have hab : FitX (.tuple [a, b]) (k - 1) w := by
                    obtain ⟨j, rfl, hp, hb⟩ := hls.items
                    have hm : PyData.tuple [a, b] ∈ ls := by rw [e]; simp
                    have := bulk_mem hm
                    exact (hp.mem hm).fit (by omega)
                  have sa : Short 10000 a := fun x hx => Nat.le_trans ((hab.item (by simp)).short x hx) (by omega)
                  have il := is_letter_any sa
                  have iw := is_wide_any b
                  cases hL : isL a with
                  | none =>
                    simp [init, isB, j0, j1, il, iw, hL]
                    exact bad (by simp [letF, hL])
                  | some c =>
                    by_cases hw2 : isFT 10 99 b = true
                    · simp [init, isB, j0, j1, il, iw, hL, hw2]
                      exact ⟨_, letsF_snoc (c := c) hcs (by simp [letF, hw2, hL])⟩
                    · simp [init, isB, j0, j1, il, iw, hL, hw2]
                      exact bad (by simp [letF, hw2])
                · have : ¬ ((gs.length : Int) = 2) := by omega
                  simp [init, isB, this]
                  exact bad (not_two hg)
            · rintro σ T ⟨hσ, rfl, cs, hcs⟩
              obtain ⟨v1, rfl⟩ := slot_any hσ
              clear hσ
              have hlen := letsF_len hcs
              have e1 : nodF ls = decide cs.Nodup := by unfold nodF; rw [hcs]
              have hmem : ∀ (ls : List PyData) (cs : List Nat), letsF ls = some cs → ls.map (fun x => match x with | .tuple (d :: _) => d | _ => .none) = cs.map lt ∧ ∀ x ∈ ls, ∃ a b, x = .tuple [a, b] := by
                intro ls
                induction ls with
                | nil => intro cs h; cases h; exact ⟨rfl, fun x hx => (by cases hx)⟩
                | cons x xs ih =>
                  intro cs h
                  unfold letsF at h
                  split at h
                  · rename_i c ds h1 h2
                    cases h
                    obtain ⟨w, rfl, _⟩ := letF_is h1
                    obtain ⟨g1, g2⟩ := ih _ h2
                    refine ⟨by simp [g1], fun y hy => ?_⟩
                    rcases List.mem_cons.mp hy with rfl | hy
                    · exact ⟨_, _, rfl⟩
                    · exact g2 y hy
                  · cases h
              obtain ⟨m1, m2⟩ := hmem ls cs hcs
              simp [init, i1, sd]
              refine wp_pureM1 D.py (fun x => D.py (match x with | .tuple (d :: _) => d | _ => .none)) (fun x hx => ?_) ?_
              · obtain ⟨a, b, rfl⟩ := m2 x hx
                have j0 : ∀ T, itemD (.py (.tuple [a, b])) (.py (.int 0)) T = .ok (.py a) T := fun T => itemD_tupleI (by decide) rfl
                exact wp_eq (by simp [j0])
              have e2 : (ls.map fun x => D.py (match x with | .tuple (d :: _) => d | _ => .none)) = (cs.map lt).map D.py := by
                rw [← m1, List.map_map]
                rfl
              rw [e2, pysOf_map]
              have hc4 : cs.length ≤ 4000 := by omega
              simp [lenSetX_lts hc4, e1]
              refine ⟨_, .self, rfl, ?_, rfl⟩
              have := dedS_lts cs
              rw [← this]
              omega
          · simp [init, isB, isFace, i0, i1, ft, hd, hz, pysOf, -wp_forL_cons]
            by_cases h1 : 1 ≤ ls.length
            · exact .inr ⟨by omega, .inl ⟨by omega, .self, rfl⟩⟩
            · exact .inl ⟨by omega, .self, rfl⟩
      · cases e <;> (simp [init, isB, isFace, i0, i1, ft, hd]; exact ⟨.self, rfl⟩)
    · have : ¬ ((ts.length : Int) = 2) := by omega
      have e : isFace (.tuple ts) = false := by
        unfold isFace
        split
        · rename_i e
          cases e
          exact absurd rfl hl
        · rfl
      simp [init, isB, this, e]
      exact ⟨.self, rfl⟩
theorem in_own {S : Sto} (cs : List Nat) (c : Nat) : inD (.py (lt c)) (.obj S.length) (S ++ [O.lst ((cs.map lt).map D.py)]) = .ok (.py (.bool (decide (c ∈ cs)))) (S ++ [O.lst ((cs.map lt).map D.py)]) := by
  have h1 : deep (S ++ [O.lst ((cs.map lt).map D.py)]) 8 (.py (lt c)) = some (lt c) := rfl
  have h2 : deep (S ++ [O.lst ((cs.map lt).map D.py)]) 8 (.obj S.length) = some (.list (cs.map lt)) := deep_stL S (cs.map lt)
  simp only [inD, inS, h1, h2, inB_all]
  congr 3
  rw [Bool.eq_iff_iff, List.any_eq_true, decide_eq_true_eq]
  constructor
  · rintro ⟨a, ha, h⟩
    have h : isOne (lt c) a = true := h
    rw [show (c = a) from (by simpa [isOne, eq_comm] using h)]
    exact ha
  · exact fun h => ⟨c, h, by simp [isOne]⟩
theorem law_is_face_any {t : PyData} {k w : Nat} (h : FitX t k w) (hw : w ≤ 9000) (S : Sto) : F_law_is_face [.py t] S = .ok (.py (.bool (isFace t))) S := by
  have ea : (Str.ofString "a") = ⟨#[97]⟩ := by decide +kernel
  have ez : (Str.ofString "z") = ⟨#[122]⟩ := by decide +kernel
  unfold F_law_is_face b_law_is_face
  refine fn_eq (wp_fn ?_)
  cases t with
  | none => simp [init, isB, isFace]; exact ⟨.self, rfl⟩
  | bool b => simp [init, isB, isFace]; exact ⟨.self, rfl⟩
  | int b => simp [init, isB, isFace]; exact ⟨.self, rfl⟩
  | str b => simp [init, isB, isFace]; exact ⟨.self, rfl⟩
  | list b => simp [init, isB, isFace]; exact ⟨.self, rfl⟩
  | dict b => simp [init, isiD, tyN, isB, isFace]; exact ⟨.self, rfl⟩
  | tuple ts =>
    by_cases hl : ts.length = 2
    · obtain ⟨d, e, rfl⟩ := two hl
      have i0 : ∀ T, itemD (.py (.tuple [d, e])) (.py (.int 0)) T = .ok (.py d) T := fun T => itemD_tupleI (by decide) rfl
      have i1 : ∀ T, itemD (.py (.tuple [d, e])) (.py (.int 1)) T = .ok (.py e) T := fun T => itemD_tupleI (by decide) rfl
      have ft := law_from_to_any d 1 99
      have sd : ∀ ds, seqD (.py (.tuple ds)) = some ds := fun _ => rfl
      by_cases hd : isFT 1 99 d = true
      · cases e with
        | none => simp [init, isB, isFace, i0, i1, ft, hd]; exact ⟨.self, rfl⟩
        | bool b => simp [init, isB, isFace, i0, i1, ft, hd]; exact ⟨.self, rfl⟩
        | int b => simp [init, isB, isFace, i0, i1, ft, hd]; exact ⟨.self, rfl⟩
        | str b => simp [init, isB, isFace, i0, i1, ft, hd]; exact ⟨.self, rfl⟩
        | list b => simp [init, isB, isFace, i0, i1, ft, hd]; exact ⟨.self, rfl⟩
        | dict b => simp [init, isiD, tyN, isB, isFace, i0, i1, ft, hd]; exact ⟨.self, rfl⟩
        | tuple ls =>
          have hls : FitX (.tuple ls) k w := h.item (by simp)
          by_cases hz : 1 ≤ ls.length ∧ ls.length ≤ 10
          · simp [init, isB, isFace, i0, i1, ft, hd, hz, pysOf, -wp_forL_cons]
            refine .inr ⟨by omega, .inr ⟨by omega, ?_⟩⟩
            refine wp_forM D.py (fun pre σ T => wipeD σ [2] = wipeD [some (.py (.tuple [d, .tuple ls])), some (.obj S.length), none] [2] ∧ ∃ cs, letsF pre = some cs ∧ cs.Nodup ∧ T = S ++ [.lst ((cs.map lt).map D.py)]) ⟨rfl, [], rfl, List.nodup_nil, rfl⟩ ?_ ?_
            · rintro pre x post σ T e ⟨hσ, cs, hcs, nd, rfl⟩
              obtain ⟨v1, rfl⟩ := slot_any hσ
              clear hσ
              have hpl : pre.length ≤ 10 := by
                have := congrArg List.length e
                rw [List.length_append] at this
                omega
              have hcl := letsF_len hcs
              have bad : nodF ls = false → ∃ U, Cut S (S ++ [O.lst ((cs.map lt).map D.py)]) U ∧ (D.py (PyData.bool false)).pure = true ∧ nodF ls = false ∧ U = S := fun h => ⟨S, Cut.app, rfl, h, rfl⟩
              have bad' : nodF ls = false → ∃ U, Cut S (S ++ [O.lst (List.map (D.py ∘ lt) cs)]) U ∧ (D.py (PyData.bool false)).pure = true ∧ nodF ls = false ∧ U = S := fun h => by simpa using bad h
              have bd : letF x = none → nodF ls = false := fun h => by rw [e]; exact nodF_bad h
              cases x with
              | none => simp [init, isB]; exact bad' (bd rfl)
              | bool b => simp [init, isB]; exact bad' (bd rfl)
              | int b => simp [init, isB]; exact bad' (bd rfl)
              | str b => simp [init, isB]; exact bad' (bd rfl)
              | list b => simp [init, isB]; exact bad' (bd rfl)
              | dict b => simp [init, isiD, tyN, isB]; exact bad' (bd rfl)
              | tuple gs =>
                by_cases hg : gs.length = 2
                · obtain ⟨a, b, rfl⟩ := two hg
                  have j0 : ∀ T, itemD (.py (.tuple [a, b])) (.py (.int 0)) T = .ok (.py a) T := fun T => itemD_tupleI (by decide) rfl
                  have j1 : ∀ T, itemD (.py (.tuple [a, b])) (.py (.int 1)) T = .ok (.py b) T := fun T => itemD_tupleI (by decide) rfl
                  have hab : FitX (.tuple [a, b]) (k - 1) w := by
                    obtain ⟨j, rfl, hp, hb⟩ := hls.items
                    have hm : PyData.tuple [a, b] ∈ ls := by rw [e]; simp
                    have := bulk_mem hm
                    exact (hp.mem hm).fit (by omega)
                  have sa : Short 10000 a := fun x hx => Nat.le_trans ((hab.item (by simp)).short x hx) (by omega)
                  have iw := law_from_to_any b 10 99
                  cases a with
                  | none => simp [init, isB, j0, j1]; exact bad' (bd (by simp [letF, isL]))
                  | bool q => simp [init, isB, j0, j1]; exact bad' (bd (by simp [letF, isL]))
                  | int q => simp [init, isB, j0, j1]; exact bad' (bd (by simp [letF, isL]))
                  | list q => simp [init, isB, j0, j1]; exact bad' (bd (by simp [letF, isL]))
                  | tuple q => simp [init, isB, j0, j1]; exact bad' (bd (by simp [letF, isL]))
                  | dict q => simp [init, isiD, tyN, isB, j0, j1]; exact bad' (bd (by simp [letF, isL]))
                  | str y =>
                    obtain ⟨⟨l⟩⟩ := y
                    have hl := sa _ rfl
                    simp [Str.length] at hl
                    have le := len_str hl
                    match l, le, j0, bd, sa, e with
                    | [], le, j0, bd, sa, e => simp [init, isB, j0, j1, le]; exact bad' (bd (by simp [letF, isL]))
                    | p :: q :: r, le, j0, bd, sa, e =>
                      have : ¬ ((r.length : Int) + 1 + 1 = 1) := by omega
                      simp [init, isB, j0, j1, le, this]
                      exact bad' (bd (by simp [letF, isL]))
                    | [c], le, j0, bd, sa, e =>
                      have l1 : ∀ T, leS (.py (.str (Str.ofString "a"))) (.py (.str ⟨⟨[c]⟩⟩)) T = .ok (.py (.bool (decide (97 ≤ c)))) T := fun T => by
                        rw [ea]
                        unfold leS
                        simp only
                        congr 3
                        rw [Bool.eq_iff_iff, Bool.not_eq_true', decide_eq_false_iff_not, decide_eq_true_eq, one_lt]
                        omega
                      have l2 : ∀ T, leS (.py (.str ⟨⟨[c]⟩⟩)) (.py (.str (Str.ofString "z"))) T = .ok (.py (.bool (decide (c ≤ 122)))) T := fun T => by
                        rw [ez]
                        unfold leS
                        simp only
                        congr 3
                        rw [Bool.eq_iff_iff, Bool.not_eq_true', decide_eq_false_iff_not, decide_eq_true_eq, one_lt]
                        omega
                      by_cases h1 : 97 ≤ c
                      · by_cases h2 : c ≤ 122
                        · have hi : isL (.str ⟨⟨[c]⟩⟩) = some c := by simp [isL, h1, h2]
                          have im := in_own (S := S) cs c
                          rw [List.map_map] at im
                          by_cases hm : c ∈ cs
                          · simp [init, isB, j0, j1, le, l1, l2, h1, h2, im, hm]
                            refine bad' ?_
                            by_cases hw2 : isFT 10 99 b = true
                            · rw [e]
                              exact nodF_twice hcs (c := c) (by simp [letF, hw2, hi]) hm
                            · exact bd (by simp [letF, hw2])
                          · by_cases hw2 : isFT 10 99 b = true
                            · have ap : ∀ x, appendD (.obj S.length) [x] (S ++ [O.lst (List.map (D.py ∘ lt) cs)]) = .ok (.py .none) (S ++ [O.lst (List.map (D.py ∘ lt) cs ++ [x])]) := fun x => by
                                rw [appendD_obj (ds := List.map (D.py ∘ lt) cs) (by simp) (by rw [List.length_map, sl_tr]; omega)]
                                simp
                              simp [init, isB, j0, j1, le, l1, l2, h1, h2, im, hm, iw, hw2, lsOk_obj, ap]
                              exact ⟨_, letsF_snoc (c := c) hcs (by simp [letF, hw2, hi]), by
                                simp [List.nodup_append, nd]
                                intro a ha e
                                exact hm (e ▸ ha), by simp⟩
                            · simp [init, isB, j0, j1, le, l1, l2, h1, h2, im, hm, iw, hw2]
                              exact bad' (bd (by simp [letF, hw2]))
                        · simp [init, isB, j0, j1, le, l1, l2, h1, h2]
                          exact bad' (bd (by simp [letF, isL, h2]))
                      · simp [init, isB, j0, j1, le, l1, l2, h1]
                        exact bad' (bd (by simp [letF, isL, h1]))
                · have : ¬ ((gs.length : Int) = 2) := by omega
                  simp [init, isB, this]
                  exact bad' (bd (not_two hg))
            · rintro σ T ⟨hσ, cs, hcs, nd, rfl⟩
              obtain ⟨v1, rfl⟩ := slot_any hσ
              clear hσ
              have e1 : nodF ls = true := by unfold nodF; rw [hcs]; simp [nd]
              simp [e1]
              exact ⟨Cut.app, rfl⟩
          · simp [init, isB, isFace, i0, i1, ft, hd, hz, pysOf, -wp_forL_cons]
            by_cases h1 : 1 ≤ ls.length
            · exact .inr ⟨by omega, .inl ⟨by omega, .self, rfl⟩⟩
            · exact .inl ⟨by omega, .self, rfl⟩
      · cases e <;> (simp [init, isB, isFace, i0, i1, ft, hd]; exact ⟨.self, rfl⟩)
    · have : ¬ ((ts.length : Int) = 2) := by omega
      have e : isFace (.tuple ts) = false := by
        unfold isFace
        split
        · rename_i e
          cases e
          exact absurd rfl hl
        · rfl
      simp [init, isB, this, e]
      exact ⟨.self, rfl⟩
end DV

set_option maxHeartbeats 4000000
namespace DV
open PySem
/-! A letter made like another one; a gap turned and turned back. -/
/-! ### classes by marks -/
/-! ### lists of gaps by what they say -/
/-! ### a letter like another one -/
/-- the letter that stands for one -/
def stnd (c o x : Nat) : Nat := if x = c then o else x
/-! ### what it says is a list of the face -/
end DV
namespace DV
open PySem
/-! ### one gap is given anew -/
/-! ### signs that begin elsewhere -/
/-! ### a face is one -/
theorem face_is {f : Face} {lo hi : Int} (g : f.Good lo hi) (h1 : 1 ≤ lo) (h10 : hi ≤ 10) : isFace f.py = true := by
  have hl := g.lo
  have hh := g.hi
  have key : ∀ ls : List (Nat × Int), (∀ p ∈ ls, 97 ≤ p.1 ∧ p.1 ≤ 122 ∧ 10 ≤ p.2 ∧ p.2 ≤ 99) → letsF (ls.map encL) = some (ls.map (·.1)) := by
    intro ls
    induction ls with
    | nil => intro _; rfl
    | cons p ls ih =>
      intro h
      have hp := h p (by simp)
      have e : letF (encL p) = some p.1 := by
        show (if isFT 10 99 (.int p.2) = true then isL (lt p.1) else none) = _
        rw [if_pos (by simp [isFT]; omega)]
        simp [isL]
        omega
      rw [List.map_cons, List.map_cons]
      unfold letsF
      rw [e, ih fun q hq => h q (List.mem_cons_of_mem _ hq)]
  show (isFT 1 99 (.int f.w) && (decide (1 ≤ (f.ls.map encL).length ∧ (f.ls.map encL).length ≤ 10) && nodF (f.ls.map encL))) = true
  have e1 : isFT 1 99 (.int f.w) = true := by
    have := g.w0
    have := g.w1
    simp [isFT]
    omega
  have e2 : nodF (f.ls.map encL) = true := by
    unfold nodF
    rw [key f.ls g.ok]
    exact decide_eq_true g.nd
  have e3 : 1 ≤ (f.ls.map encL).length ∧ (f.ls.map encL).length ≤ 10 := by
    rw [List.length_map]
    omega
  rw [e1, e2, decide_eq_true e3]
  rfl
end DV

set_option maxHeartbeats 4000000
namespace DV
open PySem
/-! Any text, split; any word, parted. -/
theorem spl_facts (s : List Nat) : ∀ (l : List Nat) (k : Nat) (acc : List Nat), TL.spl s k acc l ≠ [] ∧ ((TL.spl s k acc l).map List.length).sum ≤ acc.length + l.length ∧ (TL.spl s k acc l).length ≤ l.length + 1 ∧ ∀ p ∈ TL.spl s k acc l, ∀ c ∈ p, c ∈ acc ∨ c ∈ l
  | [], k, acc => by
    rw [TL.spl_nil]
    exact ⟨by simp, by simp, by simp, fun p hp c hc => by
      have : p = acc := by simpa using hp
      subst this
      exact .inl hc⟩
  | a :: l, 0, acc => by
    cases h : TL.pre s (a :: l) with
    | true =>
      rw [TL.spl_hit h]
      obtain ⟨h1, h2, h3, h4⟩ := spl_facts s l (s.length - 1) []
      refine ⟨by simp, by simp at h2 ⊢; omega, by simp; omega, fun p hp c hc => ?_⟩
      rcases List.mem_cons.mp hp with rfl | hp
      · exact .inl hc
      · rcases h4 p hp c hc with h | h
        · cases h
        · exact .inr (List.mem_cons_of_mem _ h)
    | false =>
      rw [TL.spl_miss h]
      obtain ⟨h1, h2, h3, h4⟩ := spl_facts s l 0 (acc ++ [a])
      refine ⟨h1, by simp at h2 ⊢; omega, by simp; omega, fun p hp c hc => ?_⟩
      rcases h4 p hp c hc with h | h
      · rw [List.mem_append, List.mem_singleton] at h
        rcases h with h | rfl
        · exact .inl h
        · exact .inr (by simp)
      · exact .inr (List.mem_cons_of_mem _ h)
  | a :: l, k + 1, acc => by
    show _ ∧ _
    have e : TL.spl s (k + 1) acc (a :: l) = TL.spl s k acc l := rfl
    rw [e]
    obtain ⟨h1, h2, h3, h4⟩ := spl_facts s l k acc
    refine ⟨h1, by simp at h2 ⊢; omega, by simp; omega, fun p hp c hc => ?_⟩
    rcases h4 p hp c hc with h | h
    · exact .inl h
    · exact .inr (List.mem_cons_of_mem _ h)
theorem sum_mem {l : List Nat} {n : Nat} (h : n ∈ l) : n ≤ l.sum := by
  induction l with
  | nil => cases h
  | cons a l ih =>
    rcases List.mem_cons.mp h with rfl | h
    · simp
    · have := ih h
      simp
      omega
/-- a text cut at a mark between blanks -/
def cutM (m : Nat) (l : List Nat) : List (List Nat) := TL.spl [32, m, 32] 0 [] l
theorem cutM_len {m : Nat} {l p : List Nat} (h : p ∈ cutM m l) : p.length ≤ l.length := by
  have := (spl_facts [32, m, 32] l 0 []).2.1
  have h2 := sum_mem (List.mem_map.mpr ⟨p, h, rfl⟩ : p.length ∈ (cutM m l).map List.length)
  simp at this
  unfold cutM at h2
  omega
theorem split_any4 {m : Nat} (hm : m < 256) {x : Str} (hx : x = st [32, m, 32]) {l : List Nat} (hl : l.length ≤ 100000) (S : Sto) : splitD (.py (tx l)) [.py (.str x)] S = .ok (((cutM m l).map tx).map D.py) S := by
  subst hx
  have e : Txt.split (st l) (st [32, m, 32]) = (cutM m l).map st := by
    refine TL.map_tl_inj ?_
    rw [TL.split_spl _ _ (by simp [TL.tl]) (TL.kind_ok (by simp [hm])), List.map_map]
    have : (TL.tl ∘ st) = id := by funext w; rfl
    rw [this, List.map_id]
    rfl
  have f := (spl_facts [32, m, 32] l 0 []).2.2.1
  have ll : (st l).length = l.length := by simp [Str.length]
  show (if _ ∧ _ ∧ _ then _ else _) = _
  rw [if_pos ⟨rfl, by rw [sl_big']; show l.length + 2 ≤ _; omega, by show (Txt.split (st l) (st [32, m, 32])).length ≤ _; rw [e, List.length_map, sl_big']; show (TL.spl [32, m, 32] 0 [] l).length ≤ _; omega⟩]
  show R.ok ((Txt.split (st l) (st [32, m, 32])).map fun x => D.py (.str x)) S = _
  rw [e, List.map_map, List.map_map]
  rfl
/-! ### a word parted at the first blank -/
def hdB (w : List Nat) : List Nat := w.takeWhile fun c => c != 32
def tlB (w : List Nat) : List Nat := (w.dropWhile fun c => c != 32).drop 1
theorem par_blank : ∀ (w acc : List Nat), TL.par [32] acc w = if 32 ∈ w then some (acc ++ hdB w, tlB w) else none
  | [], acc => rfl
  | c :: r, acc => by
    unfold TL.par
    by_cases h : c = 32
    · subst h
      rw [if_pos (by simp [TL.pre]), if_pos (by simp)]
      simp [hdB, tlB]
    · have hp : TL.pre [32] (c :: r) = false := by simp [TL.pre, h]
      rw [if_neg (by rw [hp]; exact Bool.false_ne_true), par_blank r (acc ++ [c])]
      have h' : ¬ (32 = c) := fun e => h e.symm
      by_cases h2 : 32 ∈ r
      · rw [if_pos h2, if_pos (List.mem_cons_of_mem _ h2)]
        have e1 : hdB (c :: r) = c :: hdB r := by unfold hdB; rw [List.takeWhile_cons, if_pos (by simpa using h)]
        have e2 : tlB (c :: r) = tlB r := by unfold tlB; rw [List.dropWhile_cons, if_pos (by simpa using h)]
        rw [e1, e2]
        simp
      · rw [if_neg h2, if_neg (by simp [h', h2])]
theorem no_blank {w : List Nat} (h : 32 ∉ w) : hdB w = w ∧ tlB w = [] := by
  induction w with
  | nil => exact ⟨rfl, rfl⟩
  | cons c r ih =>
    have hc : c ≠ 32 := fun e => h (by simp [e])
    obtain ⟨i1, i2⟩ := ih fun q => h (List.mem_cons_of_mem _ q)
    constructor
    · unfold hdB
      rw [List.takeWhile_cons, if_pos (by simpa using hc)]
      exact congrArg (c :: ·) i1
    · unfold tlB
      rw [List.dropWhile_cons, if_pos (by simpa using hc)]
      exact i2
theorem part_any {x : Str} (hx : x = st [32]) {w : List Nat} (hl : w.length ≤ 100000) (S : Sto) : ∃ y, partitionD (.py (tx w)) [.py (.str x)] S = .ok (.py (.tuple [tx (hdB w), .str y, tx (tlB w)])) S := by
  subst hx
  have e := TL.partition_par (st w) (st [32]) (by simp [TL.tl])
  have e2 : TL.par (TL.tl (st [32])) [] (TL.tl (st w)) = if 32 ∈ w then some ([] ++ hdB w, tlB w) else none := par_blank w []
  rw [e2] at e
  have ll : (st w).length ≤ sizeLine := by rw [sl_big']; show w.length ≤ _; omega
  by_cases h : 32 ∈ w
  · rw [if_pos h] at e
    refine ⟨st [32], ?_⟩
    show (if _ ∧ _ then _ else _) = _
    rw [if_pos ⟨rfl, ll⟩]
    show R.ok (D.py (.tuple [.str (Txt.partition (st w) (st [32])).1, .str (Txt.partition (st w) (st [32])).2.1, .str (Txt.partition (st w) (st [32])).2.2])) S = _
    rw [e]
    rfl
  · rw [if_neg h] at e
    obtain ⟨h1, h2⟩ := no_blank h
    refine ⟨Str.empty, ?_⟩
    show (if _ ∧ _ then _ else _) = _
    rw [if_pos ⟨rfl, ll⟩]
    show R.ok (D.py (.tuple [.str (Txt.partition (st w) (st [32])).1, .str (Txt.partition (st w) (st [32])).2.1, .str (Txt.partition (st w) (st [32])).2.2])) S = _
    rw [e, h1, h2]
    rfl
theorem hd_tl_len (w : List Nat) : (hdB w).length ≤ w.length ∧ (tlB w).length ≤ w.length := by
  constructor
  · exact (List.takeWhile_sublist _).length_le
  · unfold tlB
    rw [List.length_drop]
    have := (List.dropWhile_sublist (fun c => c != 32) (l := w)).length_le
    omega
end DV

set_option maxHeartbeats 4000000
namespace DV
open PySem
/-! The text of a face; the face that a text writes. -/
theorem hundred {p : Int → Prop} (h : ∀ k ∈ List.range 101, p (k : Int)) {i : Int} (hi : 0 ≤ i ∧ i ≤ 100) : p i := by
  have := h i.toNat (List.mem_range.mpr (by omega))
  rwa [show ((i.toNat : Nat) : Int) = i by omega] at this
theorem num100 {i : Int} (h : 0 ≤ i ∧ i ≤ 100) : (numS i).length ≤ 3 ∧ (∀ c ∈ numS i, 48 ≤ c ∧ c ≤ 57) ∧ numP (numS i) = .int i ∧ numL (numS i) = .int i :=
  have a1 : (numS i).length ≤ 3 := hundred (p := fun i => (numS i).length ≤ 3) (by decide +kernel) h
  have a2 : ∀ c ∈ numS i, 48 ≤ c ∧ c ≤ 57 := hundred (p := fun i => ∀ c ∈ numS i, 48 ≤ c ∧ c ≤ 57) (by decide +kernel) h
  have a3 : okW 18 (numS i) ∧ okW 20 (numS i) ∧ valW (numS i) = i := hundred (p := fun i => okW 18 (numS i) ∧ okW 20 (numS i) ∧ valW (numS i) = i) (by decide +kernel) h
  have a4 : ¬ ((figS (numS i)).headD 0 = 48 ∧ numS i ≠ [48]) := hundred (p := fun i => ¬ ((figS (numS i)).headD 0 = 48 ∧ numS i ≠ [48])) (by decide +kernel) h
  ⟨a1, a2, by unfold numP; rw [if_pos a3.2.1, if_pos (by rw [a3.2.2]), a3.2.2], by unfold numL; rw [if_pos a3.1, if_neg a4, a3.2.2]⟩
def wordF (p : Nat × Int) : List Nat := [p.1, 32] ++ numS p.2
def faceT (f : Face) : List Nat := jS [32, 59, 32] (numS f.w :: f.ls.map wordF)
theorem wordF_len {p : Nat × Int} (h : 0 ≤ p.2 ∧ p.2 ≤ 100) : (wordF p).length ≤ 5 := by
  have := (num100 h).1
  simp [wordF]
  omega
theorem face_text_eq {f : Face} (hw : 0 ≤ f.w ∧ f.w ≤ 100) (hl : f.ls.length ≤ 20) (h : ∀ p ∈ f.ls, 0 ≤ p.2 ∧ p.2 ≤ 100) (S : Sto) : F_face_text [.py f.py] S = .ok (.py (tx (faceT f))) S := by
  have i0 : ∀ T, itemD (.py f.py) (.py (.int 0)) T = .ok (.py (.int f.w)) T := fun T => itemD_tupleI (by decide) rfl
  have i1 : ∀ T, itemD (.py f.py) (.py (.int 1)) T = .ok (.py (.tuple (f.ls.map encL))) T := fun T => itemD_tupleI (by decide) rfl
  have sw := fun T => numS_any (n := f.w) (by omega) T
  unfold F_face_text b_face_text
  refine fn_eq (wp_fn ?_)
  simp [init, i0, i1, sw, pysOf, -List.map_map]
  rw [List.map_map]
  refine wp_pureM (D.py ∘ encL) (fun _ => true) (fun p => D.py (tx (wordF p))) (fun p hp => ?_) ?_
  · have b := h p hp
    have sn := fun T => numS_any (n := p.2) (by omega) T
    have a1 := fun T => add_tx (a := [p.1]) (b := [32]) (by simp) T
    have a2 := fun T => add_tx (a := [p.1] ++ [32]) (b := numS p.2) (by have := (num100 b).1; simp; omega) T
    have lt1 : lt p.1 = tx [p.1] := rfl
    rw [blank_sx]
    simp only [List.cons_append, List.nil_append] at a1 a2
    simp [encL, lt1, sn]
    rw [show (PyData.str (st [32])) = tx [32] from rfl]
    simp only [a1, wp_ok]
    simp only [a2, wp_ok]
    simp [wordF]
  rw [List.filter_eq_self.mpr fun _ _ => rfl]
  have e1 : (f.ls.map fun p => D.py (tx (wordF p))) = ((f.ls.map wordF).map tx).map D.py := by rw [List.map_map, List.map_map]; rfl
  rw [e1, pysOf_map]
  have ad : ∀ T, addD (.py (.list [tx (numS f.w)])) (.py (.list ((f.ls.map wordF).map tx))) T = .ok (.py (.list ((numS f.w :: f.ls.map wordF).map tx))) T := fun T => by
    show (if _ then _ else _) = _
    rw [if_pos (by rw [sl_big']; simp; omega)]
    rfl
  have jn := fun T => join_list (sep := [32, 59, 32]) (x := Str.ofString " ; ") (ws := numS f.w :: f.ls.map wordF) (k := 5) (n := 21) semi_st (fun w hw' => by
    rcases List.mem_cons.mp hw' with rfl | hw'
    · have := (num100 hw).1; omega
    · obtain ⟨p, hp, rfl⟩ := List.mem_map.mp hw'
      exact wordF_len (h p hp)) (by simp; omega) (by decide) T
  simp only [ad, wp_ok, jn]
  first | exact ⟨S, .self, rfl, rfl, rfl⟩ | exact ⟨.self, rfl⟩ | exact .self | exact ⟨S, .self, rfl, rfl⟩
theorem law_face_text_eq {f : Face} (hw : 0 ≤ f.w ∧ f.w ≤ 100) (hl : f.ls.length ≤ 20) (h : ∀ p ∈ f.ls, 0 ≤ p.2 ∧ p.2 ≤ 100) (S : Sto) : F_law_face_text [.py f.py] S = .ok (.py (tx (faceT f))) S := face_text_eq hw hl h S
/-- a thing that is a face is one -/
theorem isFace_py {d : PyData} (h : isFace d = true) : ∃ f : Face, f.Good 1 10 ∧ d = f.py := by
  unfold isFace at h
  split at h
  · rename_i d ls
    simp only [Bool.and_eq_true, decide_eq_true_eq] at h
    obtain ⟨h1, h2, h3⟩ := h
    cases d with
    | int w =>
      have hw : 1 ≤ w ∧ w ≤ 99 := by simpa [isFT] using h1
      unfold nodF at h3
      split at h3
      · rename_i cs hcs
        have key : ∀ (ls : List PyData) (cs : List Nat), letsF ls = some cs → ∃ ps : List (Nat × Int), ls = ps.map encL ∧ ps.map (·.1) = cs ∧ ∀ p ∈ ps, 97 ≤ p.1 ∧ p.1 ≤ 122 ∧ 10 ≤ p.2 ∧ p.2 ≤ 99 := by
          intro ls
          induction ls with
          | nil =>
            intro cs h
            cases h
            exact ⟨[], rfl, rfl, by simp⟩
          | cons x xs ih =>
            intro cs h
            unfold letsF at h
            split at h
            · rename_i c cs' hx hxs
              cases h
              obtain ⟨ps, e1, e2, e3⟩ := ih cs' hxs
              obtain ⟨w, rfl, hw, hc, hb⟩ := letF_is hx
              cases w with
              | int v =>
                have hv : 10 ≤ v ∧ v ≤ 99 := by simpa [isFT] using hw
                refine ⟨(c, v) :: ps, by rw [e1]; rfl, by simp [e2], fun p hp => ?_⟩
                rcases List.mem_cons.mp hp with rfl | hp
                · exact ⟨hb.1, hb.2, hv⟩
                · exact e3 p hp
              | _ => simp [isFT] at hw
            · cases h
        obtain ⟨ps, e1, e2, e3⟩ := key ls cs hcs
        have h3 : cs.Nodup := by simpa using h3
        refine ⟨⟨w, ps⟩, ⟨hw.1, hw.2, ?_, ?_, by rw [e2]; exact h3, e3⟩, by rw [e1]⟩
        · rw [e1, List.length_map] at h2; show (1 : Int) ≤ (ps.length : Int); omega
        · rw [e1, List.length_map] at h2; show (ps.length : Int) ≤ 10; omega
      · cases h3
    | _ => simp [isFT] at h1
  · cases h
end DV

set_option maxHeartbeats 4000000
namespace DV
open PySem
/-! What is read from any text. -/
def foundP (l : List Nat) : PyData := .tuple [numP ((cutM 59 l).headD []), .tuple (((cutM 59 l).drop 1).map fun w => .tuple [tx (hdB w), numP (tlB w)])]
def foundL (l : List Nat) : PyData := .tuple [numL ((cutM 59 l).headD []), .tuple (((cutM 59 l).drop 1).map fun w => .tuple [tx (w.take 1), numL (w.drop 2)])]
theorem cut_face {f : Face} (g : f.Good 1 10) : cutM 59 (faceT f) = numS f.w :: f.ls.map wordF := by
  refine spl_mark (by decide) (by simp) fun p hp hm => ?_
  rcases List.mem_cons.mp hp with rfl | hp
  · have := (num100 (i := f.w) ⟨by have := g.w0; omega, by have := g.w1; omega⟩).2.1 59 hm
    omega
  · obtain ⟨q, hq, rfl⟩ := List.mem_map.mp hp
    have o := g.ok q hq
    have : 59 = q.1 ∨ 59 = 32 ∨ 59 ∈ numS q.2 := by simpa [wordF] using hm
    rcases this with e | e | e
    · omega
    · cases e
    · have := (num100 (i := q.2) (by omega)).2.1 59 e
      omega
theorem word_parts {p : Nat × Int} (h : p.1 ≠ 32) : hdB (wordF p) = [p.1] ∧ tlB (wordF p) = numS p.2 := by
  constructor
  · simp [hdB, wordF, List.takeWhile_cons, h]
  · simp [tlB, wordF, List.dropWhile_cons, h]
theorem found_face {f : Face} (g : f.Good 1 10) : foundP (faceT f) = f.py ∧ foundL (faceT f) = f.py := by
  have w := num100 (i := f.w) ⟨by have := g.w0; omega, by have := g.w1; omega⟩
  unfold foundP foundL
  rw [cut_face g]
  simp only [List.headD_cons, List.drop_succ_cons, List.drop_zero, List.map_map]
  rw [w.2.2.1, w.2.2.2]
  have m1 : (f.ls.map ((fun w => PyData.tuple [tx (hdB w), numP (tlB w)]) ∘ wordF)) = f.ls.map encL := List.map_congr_left fun p hp => by
    have o := g.ok p hp
    obtain ⟨e1, e2⟩ := word_parts (p := p) (by omega)
    show PyData.tuple [tx (hdB (wordF p)), numP (tlB (wordF p))] = encL p
    rw [e1, e2, (num100 (i := p.2) (by omega)).2.2.1]
  have m2 : (f.ls.map ((fun w => PyData.tuple [tx (w.take 1), numL (w.drop 2)]) ∘ wordF)) = f.ls.map encL := List.map_congr_left fun p hp => by
    have o := g.ok p hp
    show PyData.tuple [tx ((wordF p).take 1), numL ((wordF p).drop 2)] = encL p
    have e1 : (wordF p).take 1 = [p.1] := rfl
    have e2 : (wordF p).drop 2 = numS p.2 := rfl
    rw [e1, e2, (num100 (i := p.2) (by omega)).2.2.2]
  rw [m1, m2]
  exact ⟨rfl, rfl⟩
theorem faceT_of {f : Face} (g : f.Good 1 10) (S : Sto) : F_face_text [.py f.py] S = .ok (.py (tx (faceT f))) S :=
  face_text_eq ⟨by have := g.w0; omega, by have := g.w1; omega⟩ (by have := g.hi; omega) (fun p hp => by have := g.ok p hp; omega) S
theorem numP_fit (w : List Nat) : FitX (numP w) 0 0 := by
  unfold numP
  split
  · rename_i h
    have b := (valW_some (Nat.le_refl _) h).2
    split
    · exact fit_int (by omega)
    · exact Fit.none.x
  · exact Fit.none.x
theorem numL_fit (w : List Nat) : FitX (numL w) 0 0 := by
  unfold numL
  split
  · rename_i h
    have b := (valW_some (by decide) h).2
    split
    · exact Fit.none.x
    · exact fit_int (by omega)
  · exact Fit.none.x
theorem fitX_sum {α : Type} {F : α → PyData} {b : α → Nat} {k : Nat} : ∀ {xs : List α}, (∀ x ∈ xs, FitX (F x) k (b x)) → FitXL (xs.map F) k ((xs.map fun x => b x + 1).sum)
  | [], _ => FitXL.nil
  | x :: xs, h => by
    have := FitXL.cons (h x (by simp)) (fitX_sum (xs := xs) fun y hy => h y (List.mem_cons_of_mem _ hy))
    simpa using this
theorem found_fit {A : List Nat → List Nat} {N : List Nat → PyData} {l : List Nat} (hA : ∀ w, (A w).length ≤ w.length ∧ ∀ c ∈ A w, c ∈ w) (hN : ∀ w, FitX (N w) 0 0) (hc : ∀ c ∈ l, c < 1114112) (hl : l.length ≤ 1000) :
    FitX (.tuple [N ((cutM 59 l).headD []), .tuple (((cutM 59 l).drop 1).map fun w => .tuple [tx (A w), N (tlB w)])]) 3 9000 ∧ FitX (.tuple [N ((cutM 59 l).headD []), .tuple (((cutM 59 l).drop 1).map fun w => .tuple [tx (A w), N (w.drop 2)])]) 3 9000 := by
  obtain ⟨f1, f2, f3, f4⟩ := spl_facts [32, 59, 32] l 0 []
  have item : ∀ w ∈ (cutM 59 l).drop 1, ∀ v, FitX (.tuple [tx (A w), N v]) 1 (w.length + 2) := fun w hw v => by
    have ht : FitX (tx (A w)) 0 w.length := ((Fit.str (x := st (A w)) (n := w.length) (fun c hc' => by
      have h1 : c ∈ A w := by simpa using hc'
      rcases f4 w (List.mem_of_mem_drop hw) c ((hA w).2 c h1) with h | h
      · cases h
      · exact hc c h) (by simpa using (hA w).1))).x
    exact (FitX.tuple (.cons ht (.cons (hN v) (FitXL.nil (w := 0))))).mono (by decide) (by omega)
  have sm : (((cutM 59 l).drop 1).map fun w => w.length + 2 + 1).sum ≤ 4 * 1001 := by
    have e : ∀ ws : List (List Nat), (ws.map fun w => w.length + 2 + 1).sum = (ws.map List.length).sum + 3 * ws.length := by
      intro ws
      induction ws with
      | nil => rfl
      | cons a r ih => simp [ih]; omega
    rw [e]
    have d : (((cutM 59 l).drop 1).map List.length).sum ≤ ((cutM 59 l).map List.length).sum := by
      cases cutM 59 l with
      | nil => simp
      | cons a r => simp
    have d2 : ((cutM 59 l).drop 1).length ≤ (cutM 59 l).length - 1 := by simp
    unfold cutM at *
    simp at f2
    omega
  constructor
  · refine (FitX.tuple (.cons ((hN _).mono (Nat.zero_le 2) (Nat.zero_le 0)) (.cons ((FitX.tuple (fitX_sum (b := fun w => w.length + 2) fun w hw => item w hw (tlB w))).mono (k' := 2) (w' := 4004) (by decide) sm) (FitXL.nil (w := 0))))).mono (by decide) (by decide)
  · refine (FitX.tuple (.cons ((hN _).mono (Nat.zero_le 2) (Nat.zero_le 0)) (.cons ((FitX.tuple (fitX_sum (b := fun w => w.length + 2) fun w hw => item w hw (w.drop 2))).mono (k' := 2) (w' := 4004) (by decide) sm) (FitXL.nil (w := 0))))).mono (by decide) (by decide)
theorem foundP_fit {l : List Nat} (hc : ∀ c ∈ l, c < 1114112) (hl : l.length ≤ 1000) : FitX (foundP l) 3 9000 :=
  (found_fit (A := hdB) (N := numP) (fun w => ⟨(hd_tl_len w).1, fun c h => (List.takeWhile_sublist _).subset h⟩) numP_fit hc hl).1
theorem foundL_fit {l : List Nat} (hc : ∀ c ∈ l, c < 1114112) (hl : l.length ≤ 1000) : FitX (foundL l) 3 9000 :=
  (found_fit (A := fun w => w.take 1) (N := numL) (fun w => ⟨by simp; omega, fun c h => List.mem_of_mem_take h⟩) numL_fit hc hl).2
end DV

set_option maxHeartbeats 4000000
namespace DV
open PySem
open Classical in
/-- the text of what is a face -/
noncomputable def txF (d : PyData) : List Nat := if h : ∃ f : Face, f.Good 1 10 ∧ d = f.py then faceT h.choose else []
theorem txF_py {f : Face} (g : f.Good 1 10) : txF f.py = faceT f := by
  have h : ∃ f' : Face, f'.Good 1 10 ∧ f.py = f'.py := ⟨f, g, rfl⟩
  unfold txF
  rw [dif_pos h]
  obtain ⟨g', e⟩ := h.choose_spec
  have e1 := faceT_of g []
  have e2 := faceT_of g' []
  rw [← e, e1] at e2
  have : tx (faceT f) = tx (faceT h.choose) := by injection e2 with e3; injection e3
  simpa using this.symm
open Classical in
noncomputable def resF (d : PyData) (l : List Nat) : Option PyData := if isFace d = true ∧ txF d = l then some d else none
theorem resF_face {f : Face} (g : f.Good 1 10) : resF f.py (faceT f) = some f.py := by
  unfold resF
  rw [if_pos ⟨face_is g (by decide) (by decide), txF_py g⟩]
/-- both ways of reading come to the same -/
theorem res_same (l : List Nat) : resF (foundP l) l = resF (foundL l) l := by
  by_cases h : ∃ f : Face, f.Good 1 10 ∧ l = faceT f
  · obtain ⟨f, g, rfl⟩ := h
    rw [(found_face g).1, (found_face g).2]
  · have no : ∀ d, resF d l = none := fun d => by
      unfold resF
      rw [if_neg]
      rintro ⟨h1, h2⟩
      obtain ⟨f, g, rfl⟩ := isFace_py h1
      rw [txF_py g] at h2
      exact h ⟨f, g, h2.symm⟩
    rw [no, no]
section
variable {l : List Nat} (hc : ∀ c ∈ l, c < 1114112) (hl : l.length ≤ 1000)
include hc hl
theorem face_by_any (S : Sto) : F_face_by [.py (tx l)] S = .ok (.py ((resF (foundP l) l).getD .none)) S := by
  have sp := fun T => split_any4 (m := 59) (by decide) (x := Str.ofString " ; ") semi_st (l := l) (by omega) T
  have sl : ∀ T, sliceAV (.py (.list ((cutM 59 l).map tx))) (some 1) none T = .ok (.py (.list (((cutM 59 l).drop 1).map tx))) T := fun T => by
    have := cut_from ((cutM 59 l).map tx) 1
    simp only [sliceAV]
    rw [show (1 : Int) = ((1 : Nat) : Int) from rfl, this, List.map_drop]
  have lenP : ∀ w ∈ cutM 59 l, w.length ≤ 1000 := fun w hw => Nat.le_trans (cutM_len hw) hl
  have fct := (spl_facts [32, 59, 32] l 0 []).2.2.1
  have ne : cutM 59 l ≠ [] := (spl_facts [32, 59, 32] l 0 []).1
  have i0 : ∀ T, itemD (.py (.list ((cutM 59 l).map tx))) (.py (.int 0)) T = .ok (.py (tx ((cutM 59 l).headD []))) T := fun T => by
    refine itemD_listI (by decide) ?_
    cases h : cutM 59 l with
    | nil => exact absurd h ne
    | cons a r => rfl
  have hd : ((cutM 59 l).headD []).length ≤ 1000 := by
    cases h : cutM 59 l with
    | nil => exact absurd h ne
    | cons a r => exact lenP a (by rw [h]; simp)
  have n0 := fun T => number_in_any (w := (cutM 59 l).headD []) (by omega) T
  have isf := fun T => is_face_any (foundP_fit hc hl) (Nat.le_refl _) T
  obtain ⟨d, hdd⟩ : ∃ d, d = foundP l := ⟨_, rfl⟩
  have fe : PyData.tuple [numP ((cutM 59 l).headD []), .tuple (((cutM 59 l).drop 1).map fun w => .tuple [tx (hdB w), numP (tlB w)])] = d := hdd.symm
  rw [← hdd] at isf ⊢
  obtain ⟨ws, hws⟩ : ∃ ws, ws = (cutM 59 l).drop 1 := ⟨_, rfl⟩
  rw [← hws] at sl fe
  have hmem : ∀ w ∈ ws, w ∈ cutM 59 l := fun w hw => List.mem_of_mem_drop (by rw [← hws]; exact hw)
  have hlen : ws.length ≤ 1001 := by
    rw [hws, List.length_drop]
    unfold cutM
    omega
  obtain ⟨W0, hW0⟩ : ∃ W0, W0 = (cutM 59 l).headD [] := ⟨_, rfl⟩
  rw [← hW0] at i0 n0 fe
  unfold F_face_by b_face_by
  refine fn_eq (wp_fn ?_)
  simp [init, sp, sl, -List.map_map, -wp_forL_cons]
  rw [stL_nil, List.map_map]
  refine wp_forM (D.py ∘ tx) (fun pre σ T => wipeD σ [3, 4, 5, 6] = wipeD [some (.py (tx l)), some (.py (.list ((cutM 59 l).map tx))), some (.obj S.length), none, none, none, none, none] [3, 4, 5, 6] ∧ T = stL S (pre.map fun w => .tuple [tx (hdB w), numP (tlB w)])) ⟨rfl, rfl⟩ ?_ ?_
  · rintro pre w post σ T e ⟨hσ, rfl⟩
    obtain ⟨_, _, _, _, rfl⟩ := slot4 hσ
    clear hσ
    have hw : w ∈ cutM 59 l := hmem w (by rw [e]; simp)
    have lw := lenP w hw
    have lp : pre.length ≤ 1001 := by
      have h1 := congrArg List.length e
      simp at h1
      omega
    obtain ⟨y, pa⟩ : ∃ y, ∀ T, partitionD (.py (tx w)) [.py (.str (Str.ofString " "))] T = .ok (.py (.tuple [tx (hdB w), .str y, tx (tlB w)])) T := by
      obtain ⟨y, h⟩ := part_any blank_sx (w := w) (by omega) []
      refine ⟨y, fun T => ?_⟩
      obtain ⟨y', h'⟩ := part_any blank_sx (w := w) (by omega) T
      have : y' = y := by
        unfold partitionD at h h'
        simp only at h h'
        split at h
        · rw [if_pos (by assumption)] at h'
          injection h with h; injection h with h; injection h with h
          injection h' with h'; injection h' with h'; injection h' with h'
          have q1 := congrArg (fun l => l[1]?) h
          have q2 := congrArg (fun l => l[1]?) h'
          simp at q1 q2
          rw [← q1, ← q2]
        · cases h
      rw [← this]
      exact h'
    have nt := fun T => number_in_any (w := tlB w) (by have := (hd_tl_len w).2; omega) T
    have ap := stL_app (S := S) (ds := pre.map fun w => .tuple [tx (hdB w), numP (tlB w)]) (d := .tuple [tx (hdB w), numP (tlB w)]) (by rw [List.length_map, sl_big']; omega)
    simp [pa, nt, pysOf]
    refine wp_of ap ?_
    simp
  · rintro σ T ⟨hσ, rfl⟩
    obtain ⟨_, _, _, _, rfl⟩ := slot4 hσ
    clear hσ
    simp [i0, n0, pysOf, fe, isf]
    by_cases hF : isFace d = true
    · refine .inr ⟨hF, ?_⟩
      obtain ⟨f, g, ef⟩ := isFace_py hF
      have ft := fun T => faceT_of g T
      have nx : ∀ T, neD (.py (tx (faceT f))) (.py (tx l)) T = .ok (.py (.bool (!decide (faceT f = l)))) T := fun T => by
        show R.ok (D.py (.bool (!decide (st (faceT f) = st l)))) T = _
        simp only [st_eq]
      rw [ef] at hF ⊢
      simp only [ft, wp_ok, nx]
      by_cases e : faceT f = l
      · have er : resF f.py l = some f.py := by rw [← e]; exact resF_face g
        refine .inl ⟨by simp [e], ?_⟩
        rw [er]
        exact ⟨S, .stL, rfl, rfl, rfl⟩
      · have er : resF f.py l = none := by
          unfold resF
          rw [if_neg]
          rintro ⟨_, h2⟩
          rw [txF_py g] at h2
          exact e h2
        refine .inr ⟨by simp [e], ?_⟩
        rw [er]
        exact ⟨S, .stL, rfl, rfl, rfl⟩
    · have er : resF d l = none := by
        unfold resF
        rw [if_neg fun h => hF h.1]
      refine .inl ⟨by simpa using hF, ?_⟩
      rw [er]
      exact ⟨S, .stL, rfl, rfl, rfl⟩
theorem face_read_any (S : Sto) : F_face_read [.py (tx l)] S = match resF (foundP l) l with | some d => .ok (.py d) S | none => .ex "NoText" S := by
  have fb := fun T => face_by_any hc hl T
  unfold F_face_read b_face_read
  cases h : resF (foundP l) l with
  | none =>
    rw [h] at fb
    refine wp_exq (wp_fn ?_)
    simp [init, isB, fb]
    exact .self
  | some d =>
    rw [h] at fb
    have hd : ∃ f : Face, d = f.py := by
      unfold resF at h
      split at h
      · rename_i hh
        cases h
        obtain ⟨f, _, e⟩ := isFace_py hh.1
        exact ⟨f, e⟩
      · cases h
    obtain ⟨f, rfl⟩ := hd
    refine fn_eq (wp_fn ?_)
    simp [init, isB, fb]
    first | rfl | exact .self | exact ⟨rfl, .self, rfl⟩ | exact ⟨.self, rfl⟩
end
end DV

set_option maxHeartbeats 4000000
namespace DV
open PySem
section
variable {l : List Nat} (hc : ∀ c ∈ l, c < 1114112) (hl : l.length ≤ 1000)
include hc hl
theorem law_due2_any (S : Sto) : F_law_due_v2 [.py (tx l)] S = .ok (.py (.str (match resF (foundL l) l with | some d => d.shown | none => Str.ofString "! text"))) S := by
  have sp := fun T => split_any4 (m := 59) (by decide) (x := Str.ofString " ; ") semi_st (l := l) (by omega) T
  have sl : ∀ T, sliceAV (.py (.list ((cutM 59 l).map tx))) (some 1) none T = .ok (.py (.list (((cutM 59 l).drop 1).map tx))) T := fun T => by
    have := cut_from ((cutM 59 l).map tx) 1
    simp only [sliceAV]
    rw [show (1 : Int) = ((1 : Nat) : Int) from rfl, this, List.map_drop]
  have lenP : ∀ w ∈ cutM 59 l, w.length ≤ 1000 := fun w hw => Nat.le_trans (cutM_len hw) hl
  have fct := (spl_facts [32, 59, 32] l 0 []).2.2.1
  have ne : cutM 59 l ≠ [] := (spl_facts [32, 59, 32] l 0 []).1
  have i0 : ∀ T, itemD (.py (.list ((cutM 59 l).map tx))) (.py (.int 0)) T = .ok (.py (tx ((cutM 59 l).headD []))) T := fun T => by
    refine itemD_listI (by decide) ?_
    cases h : cutM 59 l with
    | nil => exact absurd h ne
    | cons a r => rfl
  have hd : ((cutM 59 l).headD []).length ≤ 1000 := by
    cases h : cutM 59 l with
    | nil => exact absurd h ne
    | cons a r => exact lenP a (by rw [h]; simp)
  have n0 := fun T => law_number_any (w := (cutM 59 l).headD []) (by omega) T
  have isf := fun T => law_is_face_any (foundL_fit hc hl) (Nat.le_refl _) T
  obtain ⟨d, hdd⟩ : ∃ d, d = foundL l := ⟨_, rfl⟩
  have fe : PyData.tuple [numL ((cutM 59 l).headD []), .tuple (((cutM 59 l).drop 1).map fun w => .tuple [tx (w.take 1), numL (w.drop 2)])] = d := hdd.symm
  rw [← hdd] at isf ⊢
  obtain ⟨ws, hws⟩ : ∃ ws, ws = (cutM 59 l).drop 1 := ⟨_, rfl⟩
  rw [← hws] at sl fe
  have hmem : ∀ w ∈ ws, w ∈ cutM 59 l := fun w hw => List.mem_of_mem_drop (by rw [← hws]; exact hw)
  obtain ⟨W0, hW0⟩ : ∃ W0, W0 = (cutM 59 l).headD [] := ⟨_, rfl⟩
  rw [← hW0] at i0 n0 fe
  unfold F_law_due_v2 b_law_due_v2
  refine fn_eq (wp_fn ?_)
  simp [init, isB, sp, sl, -List.map_map]
  rw [List.map_map]
  refine wp_pureM1 (D.py ∘ tx) (fun w => D.py (.tuple [tx (w.take 1), numL (w.drop 2)])) (fun w hw => wp_eq ?_) ?_
  · have lw := lenP w (hmem w hw)
    have s1 := fun T => sl_to (w := w) 1 (by omega) T
    have s2 := fun T => sl_tx_from (w := w) (n := 2) (by omega) T
    have nl := fun T => law_number_any (w := w.drop 2) (by rw [List.length_drop]; omega) T
    simp at s1 s2
    simp [s1, s2, nl, pysOf]
  have e1 : (ws.map fun w => D.py (.tuple [tx (w.take 1), numL (w.drop 2)])) = (ws.map fun w => .tuple [tx (w.take 1), numL (w.drop 2)]).map D.py := by rw [List.map_map]; rfl
  rw [e1, pysOf_map]
  have tl : ∀ (ds : List PyData) T, tupleD [.py (.list ds)] T = .ok (.py (.tuple ds)) T := fun ds T => by simp only [tupleD, seqOf, pysOf_map]
  simp [i0, n0, tl, pysOf, fe, isf]
  by_cases hF : isFace d = true
  · refine .inr ⟨hF, ?_⟩
    obtain ⟨f, g, ef⟩ := isFace_py hF
    have ft : ∀ T, F_law_face_text [.py f.py] T = .ok (.py (tx (faceT f))) T := fun T => faceT_of g T
    have nx : ∀ T, neD (.py (tx (faceT f))) (.py (tx l)) T = .ok (.py (.bool (!decide (faceT f = l)))) T := fun T => by
      show R.ok (D.py (.bool (!decide (st (faceT f) = st l)))) T = _
      simp only [st_eq]
    have rp := fun T => (face_fit g (by have := g.hi; omega)).repr (by decide) (by decide) T
    rw [ef] at hF ⊢
    simp only [ft, wp_ok, nx]
    by_cases e : faceT f = l
    · have er : resF f.py l = some f.py := by rw [← e]; exact resF_face g
      refine .inl ⟨by simp [e], ?_⟩
      rw [er]
      simp only [rp, wp_ok]
      first | exact ⟨S, .self, rfl, rfl, rfl⟩ | exact ⟨S, .self, rfl, trivial, rfl⟩ | exact ⟨S, .self, trivial, trivial, rfl⟩
    · have er : resF f.py l = none := by
        unfold resF
        rw [if_neg]
        rintro ⟨_, h2⟩
        rw [txF_py g] at h2
        exact e h2
      refine .inr ⟨by simp [e], ?_⟩
      rw [er]
      first | exact ⟨S, .self, rfl, rfl, rfl⟩ | exact ⟨.self, rfl⟩ | exact .self
  · have er : resF d l = none := by
      unfold resF
      rw [if_neg fun h => hF h.1]
    refine .inl ⟨by simpa using hF, ?_⟩
    rw [er]
    first | exact ⟨S, .self, rfl, rfl, rfl⟩ | exact ⟨.self, rfl⟩ | exact .self
end
/-- of what is no text -/
theorem face_read_odd {p : PyData} (h : isStr p = false) (S : Sto) : F_face_read [.py p] S = .ex "NoText" S := by
  unfold F_face_read b_face_read
  refine wp_exq (wp_fn ?_)
  cases p with
  | str x => cases h
  | _ => simp [init, isB, isiD, tyN]; exact .self
theorem law_due2_odd {p : PyData} (h : isStr p = false) (S : Sto) : F_law_due_v2 [.py p] S = .ok (.py (.str (Str.ofString "! text"))) S := by
  unfold F_law_due_v2 b_law_due_v2
  refine fn_eq (wp_fn ?_)
  cases p with
  | str x => cases h
  | _ => simp [init, isB, isiD, tyN]; first | exact .self | exact ⟨.self, rfl⟩
end DV

set_option maxHeartbeats 4000000
namespace DV
open PySem
/-- a text made of signs that are low -/
structure Bent (l m : List Nat) : Prop where
  len : m.length ≤ 2 * l.length + 10
  low : ∀ c ∈ m, c ∈ l ∨ c ≤ 122
def sgs : List Nat := (Str.ofString " ;/,@-0123456789abcdefghijklmnopqrstuvwxyzA+._\t\n").cps.toList
theorem sgs_st : Str.ofString " ;/,@-0123456789abcdefghijklmnopqrstuvwxyzA+._\t\n" = st sgs := by
  show _ = (⟨(Str.ofString " ;/,@-0123456789abcdefghijklmnopqrstuvwxyzA+._\t\n").cps.toList.toArray⟩ : Str)
  rw [Array.toArray_toList]
theorem sgs_low : (∀ c ∈ sgs, c ≤ 122) ∧ 0 < sgs.length ∧ sgs.length ≤ 100 := by decide +kernel
theorem add_lst2 {xs ys : List PyData} (h : xs.length + ys.length ≤ sizeLine) (S : Sto) : addD (.py (.list xs)) (.py (.list ys)) S = .ok (.py (.list (xs ++ ys))) S := if_pos h
theorem law_bent_ok {S : Sto} {n : Nat} {l : List Nat} (hB : BoxAt S n) (hl : l.length ≤ 900) :
    (F_law_bent [.obj n, .py (tx l)] S).wp (fun d S' => ∃ m, d = .py (tx m) ∧ Bent l m ∧ Ch n S S') noE := by
  have hn := hB.lt
  have tk : ∀ {T : Sto} (m : Int), Ch n S T → 0 < m → m < 1073741824 → (F_law_take [.obj n, .py (.int m)] T).wp (fun d S2 => ∃ r, d = .py (PyData.int r) ∧ (0 ≤ r ∧ r < m) ∧ Ch n T S2) noE := fun m c a b =>
    (take_ok c.box a b).to fun d S2 ⟨r, e, r0, r1, c2, _⟩ => ⟨r, e, ⟨r0, r1⟩, c2⟩
  obtain ⟨s1, s2, s3⟩ := sgs_low
  have lsg : ∀ T, lenD [.py (.str (st sgs))] T = .ok (.py (.int (sgs.length : Nat))) T := fun T => by
    simp only [lenD]
    rw [if_pos (by rw [sl_big']; show sgs.length ≤ _; omega)]
    rfl
  have ll : ∀ T, lenD [.py (tx l)] T = .ok (.py (.int (l.length : Nat))) T := fun T => by
    simp only [lenD]
    rw [if_pos (by rw [sl_big']; show l.length ≤ _; omega)]
    rfl
  unfold F_law_bent b_law_bent
  refine wp_fn ?_
  rw [sgs_st]
  simp [init, lsg, -List.size_toArray]
  refine (tk sgs.length (.refl hB) (by omega) (by omega)).to ?_
  rintro _ S1 ⟨r, rfl, hr, c1⟩
  have hr' : r.toNat < sgs.length := by omega
  obtain ⟨c, hc, ic⟩ : ∃ c, c ≤ 122 ∧ ∀ T, itemD (.py (tx sgs)) (.py (.int r)) T = .ok (.py (lt c)) T := by
    obtain ⟨k, rfl⟩ := Int.eq_ofNat_of_zero_le hr.1
    have hk : k < sgs.length := by omega
    exact ⟨sgs[k], s1 _ (List.getElem_mem hk), fun T => item_tx (k := k) (by omega) (List.getElem?_eq_getElem hk) T⟩
  simp [ic, ll]
  refine (tk (l.length + 1) c1 (by omega) (by omega)).to ?_
  rintro _ S2 ⟨a, rfl, ha, c2⟩
  have c12 := c1.trans c2
  obtain ⟨a, rfl⟩ := Int.eq_ofNat_of_zero_le ha.1
  have p1 : ∀ T, sliceV (.py (tx l)) none (some (a : Int)) T = .ok (.py (tx (l.take a))) T := fun T => sl_to a (by omega) T
  have p2 : ∀ T, sliceV (.py (tx l)) (some (a : Int)) (some ((a : Int) + 1)) T = .ok (.py (tx ((l.drop a).take 1))) T := fun T => by
    have := sl_mid (w := l) a (a + 1) (by omega) T
    rw [show a + 1 - a = 1 by omega] at this
    exact_mod_cast this
  have p3 : ∀ T, sliceV (.py (tx l)) (some ((a : Int) + 1)) (some ((a : Int) + 2)) T = .ok (.py (tx ((l.drop (a + 1)).take 1))) T := fun T => by
    have := sl_mid (w := l) (a + 1) (a + 2) (by omega) T
    rw [show a + 2 - (a + 1) = 1 by omega] at this
    exact_mod_cast this
  have p4 : ∀ T, sliceV (.py (tx l)) (some ((a : Int) + 1)) none T = .ok (.py (tx (l.drop (a + 1)))) T := fun T => by
    have := sl_tx_from (w := l) (n := a + 1) (by omega) T
    exact_mod_cast this
  have p5 : ∀ T, sliceV (.py (tx l)) (some ((a : Int) + 2)) none T = .ok (.py (tx (l.drop (a + 2)))) T := fun T => by
    have := sl_tx_from (w := l) (n := a + 2) (by omega) T
    exact_mod_cast this
  obtain ⟨A, hA⟩ : ∃ A, A = l.take a := ⟨_, rfl⟩
  obtain ⟨B, hB1⟩ : ∃ B, B = (l.drop a).take 1 := ⟨_, rfl⟩
  obtain ⟨C, hC⟩ : ∃ C, C = (l.drop (a + 1)).take 1 := ⟨_, rfl⟩
  obtain ⟨E, hE⟩ : ∃ E, E = l.drop (a + 1) := ⟨_, rfl⟩
  obtain ⟨F, hF⟩ : ∃ F, F = l.drop (a + 2) := ⟨_, rfl⟩
  rw [← hA] at p1
  rw [← hB1] at p2
  rw [← hC] at p3
  rw [← hE] at p4
  rw [← hF] at p5
  have bA : A.length ≤ l.length ∧ ∀ c ∈ A, c ∈ l := by rw [hA]; exact ⟨by simp; omega, fun c h => List.mem_of_mem_take h⟩
  have bB : B.length ≤ 1 ∧ ∀ c ∈ B, c ∈ l := by rw [hB1]; exact ⟨by simp; omega, fun c h => List.mem_of_mem_drop (List.mem_of_mem_take h)⟩
  have bC : C.length ≤ 1 ∧ ∀ c ∈ C, c ∈ l := by rw [hC]; exact ⟨by simp; omega, fun c h => List.mem_of_mem_drop (List.mem_of_mem_take h)⟩
  have bE : E.length ≤ l.length ∧ ∀ c ∈ E, c ∈ l := by rw [hE]; exact ⟨by simp, fun c h => List.mem_of_mem_drop h⟩
  have bF : F.length ≤ l.length ∧ ∀ c ∈ F, c ∈ l := by rw [hF]; exact ⟨by simp, fun c h => List.mem_of_mem_drop h⟩
  have ad : ∀ (u v : List Nat) T, u.length + v.length ≤ 2000 → addD (.py (tx u)) (.py (tx v)) T = .ok (.py (tx (u ++ v))) T := fun u v T h => add_tx h T
  have lc : lt c = tx [c] := rfl
  have q1 := fun T => ad A [c] T (by simp; omega)
  have q2 := fun T => ad (A ++ [c]) B T (by simp; omega)
  have q3 := fun T => ad (A ++ [c] ++ B) E T (by simp; omega)
  have q4 := fun T => ad A E T (by omega)
  have q5 := fun T => ad (A ++ [c]) E T (by simp; omega)
  have q6 := fun T => ad A B T (by omega)
  have q7 := fun T => ad (A ++ B) B T (by simp; omega)
  have q8 := fun T => ad (A ++ B ++ B) E T (by simp; omega)
  have q9 := fun T => ad A C T (by omega)
  have q10 := fun T => ad (A ++ C) B T (by simp; omega)
  have q11 := fun T => ad (A ++ C ++ B) F T (by simp; omega)
  have q12 := fun T => ad B E T (by omega)
  have al : ∀ T, addD (.py (.list [tx (A ++ [c] ++ B ++ E), tx (A ++ E), tx (A ++ [c] ++ E), tx (A ++ B ++ B ++ E)])) (.py (.list [tx (A ++ C ++ B ++ F), tx A, tx (B ++ E)])) T = .ok (.py (.list [tx (A ++ [c] ++ B ++ E), tx (A ++ E), tx (A ++ [c] ++ E), tx (A ++ B ++ B ++ E), tx (A ++ C ++ B ++ F), tx A, tx (B ++ E)])) T := fun T => by
    exact add_lst2 (by rw [sl_big']; simp) T
  simp [p1, p2, p3, p4, p5, lc, q1, q2, q3, q4, q5, q6, q7, q8, q9, q10, q11, q12, al, pysOf, -List.append_assoc, -List.cons_append, -List.nil_append]
  refine (tk 7 c12 (by decide) (by decide)).to ?_
  rintro _ S3 ⟨r7, rfl, hr7, c3⟩
  obtain ⟨Ms, hMs⟩ : ∃ Ms : List (List Nat), Ms = [A ++ [c] ++ B ++ E, A ++ E, A ++ [c] ++ E, A ++ B ++ B ++ E, A ++ C ++ B ++ F, A, B ++ E] := ⟨_, rfl⟩
  have hl7 : Ms.length = 7 := by rw [hMs]; rfl
  have hb : ∀ m ∈ Ms, Bent l m := fun m hm => by
    rw [hMs] at hm
    simp only [List.mem_cons, List.not_mem_nil, or_false] at hm
    rcases hm with rfl | rfl | rfl | rfl | rfl | rfl | rfl
    all_goals
      refine ⟨by (try simp only [List.length_append, List.length_cons, List.length_nil]); omega, fun x hx => ?_⟩
      try simp only [List.mem_append, List.mem_cons, List.not_mem_nil, or_false] at hx
    · rcases hx with ((hx | rfl) | hx) | hx
      · exact .inl (bA.2 x hx)
      · exact .inr hc
      · exact .inl (bB.2 x hx)
      · exact .inl (bE.2 x hx)
    · rcases hx with hx | hx
      · exact .inl (bA.2 x hx)
      · exact .inl (bE.2 x hx)
    · rcases hx with (hx | rfl) | hx
      · exact .inl (bA.2 x hx)
      · exact .inr hc
      · exact .inl (bE.2 x hx)
    · rcases hx with ((hx | hx) | hx) | hx
      · exact .inl (bA.2 x hx)
      · exact .inl (bB.2 x hx)
      · exact .inl (bB.2 x hx)
      · exact .inl (bE.2 x hx)
    · rcases hx with ((hx | hx) | hx) | hx
      · exact .inl (bA.2 x hx)
      · exact .inl (bC.2 x hx)
      · exact .inl (bB.2 x hx)
      · exact .inl (bF.2 x hx)
    · exact .inl (bA.2 x hx)
    · rcases hx with hx | hx
      · exact .inl (bB.2 x hx)
      · exact .inl (bE.2 x hx)
  have eM : [tx (A ++ [c] ++ B ++ E), tx (A ++ E), tx (A ++ [c] ++ E), tx (A ++ B ++ B ++ E), tx (A ++ C ++ B ++ F), tx A, tx (B ++ E)] = Ms.map tx := by rw [hMs]; rfl
  rw [eM]
  have h7 : r7.toNat < Ms.length := by omega
  have it : itemD (.py (.list (Ms.map tx))) (.py (.int r7)) S3 = .ok (.py (tx Ms[r7.toNat])) S3 := itemD_listI hr7.1 (by simp [h7])
  rw [it]
  simp only [wp_ok]
  obtain ⟨U, k1, k2, _⟩ := (c12.trans c3).cut hn
  exact ⟨U, k1, rfl, _, rfl, hb _ (List.getElem_mem h7), k2⟩
end DV

set_option maxHeartbeats 4000000
namespace DV
open PySem
/-! Any text cut at its blanks; blanks made double. -/
def spl : List Nat → List (List Nat)
  | [] => [[]]
  | c :: l => if c = 32 then [] :: spl l else match spl l with
    | w :: r => (c :: w) :: r
    | [] => [[c]]
theorem spl_ne (l : List Nat) : spl l ≠ [] := by
  cases l with
  | nil => simp [spl]
  | cons c l =>
    unfold spl
    split
    · simp
    · split <;> simp
theorem spl_mem : ∀ {l : List Nat}, ∀ w ∈ spl l, 32 ∉ w ∧ ∀ c ∈ w, c ∈ l
  | [], w, h => by
    simp [spl] at h
    subst h
    simp
  | c :: l, w, h => by
    have ih := fun v hv => spl_mem (l := l) v hv
    unfold spl at h
    split at h
    · rcases List.mem_cons.mp h with rfl | h
      · simp
      · obtain ⟨h1, h2⟩ := ih w h
        exact ⟨h1, fun x hx => List.mem_cons_of_mem _ (h2 x hx)⟩
    · rename_i hc
      split at h
      · rename_i v r e
        rcases List.mem_cons.mp h with rfl | h
        · obtain ⟨h1, h2⟩ := ih v (by rw [e]; simp)
          refine ⟨fun z => ?_, fun x hx => ?_⟩
          · rcases List.mem_cons.mp z with z | z
            · exact hc z.symm
            · exact h1 z
          · rcases List.mem_cons.mp hx with rfl | hx
            · simp
            · exact List.mem_cons_of_mem _ (h2 x hx)
        · obtain ⟨h1, h2⟩ := ih w (by rw [e]; simp [h])
          exact ⟨h1, fun x hx => List.mem_cons_of_mem _ (h2 x hx)⟩
      · simp at h
        subst h
        refine ⟨by simp; exact fun z => hc z.symm, by simp⟩
theorem jn_cons (c : Nat) (w : List Nat) (r : List (List Nat)) : jn ((c :: w) :: r) = c :: jn (w :: r) := by
  cases r <;> simp [jn]
theorem jn_spl : ∀ l : List Nat, jn (spl l) = l
  | [] => rfl
  | c :: l => by
    have ih := jn_spl l
    unfold spl
    split
    · rename_i hc
      subst hc
      cases e : spl l with
      | nil => exact absurd e (spl_ne l)
      | cons v r =>
        rw [e] at ih
        show [] ++ 32 :: jn (v :: r) = _
        rw [ih]
        rfl
    · split
      · rename_i v r e
        rw [e] at ih
        rw [jn_cons, ih]
      · rename_i e
        exact absurd e (spl_ne l)
theorem jn_few : ∀ {ws : List (List Nat)}, ws ≠ [] → (jn ws).length + 1 = (ws.map fun w => w.length + 1).sum
  | [], h => absurd rfl h
  | [w], _ => by simp [jn]
  | w :: v :: r, _ => by
    have ih := jn_few (ws := v :: r) (by simp)
    simp only [jn, List.length_append, List.length_cons, List.map_cons, List.sum_cons] at ih ⊢
    omega
theorem spl_few (l : List Nat) : (spl l).length ≤ l.length + 1 ∧ ∀ w ∈ spl l, w.length ≤ l.length := by
  have h := jn_few (spl_ne l)
  rw [jn_spl] at h
  have key : ∀ ws : List (List Nat), ws.length ≤ (ws.map fun w => w.length + 1).sum ∧ ∀ w ∈ ws, w.length + 1 ≤ (ws.map fun w => w.length + 1).sum := by
    intro ws
    induction ws with
    | nil => simp
    | cons v r ih =>
      simp only [List.map_cons, List.sum_cons, List.length_cons]
      refine ⟨by omega, fun w hw => ?_⟩
      rcases List.mem_cons.mp hw with rfl | hw
      · omega
      · have := ih.2 w hw
        omega
  obtain ⟨k1, k2⟩ := key (spl l)
  exact ⟨by omega, fun w hw => by have := k2 w hw; omega⟩
end DV

set_option maxHeartbeats 4000000
namespace DV
open PySem
/-! The least of some sums, none where there is none. -/
def bestS (b : Option Int) (s : Option Int) : Option Int := match s with
  | none => b
  | some c => match b with
    | none => some c
    | some v => if c < v then some c else some v
def bestL (xs : List (Option Int)) : Option Int := xs.foldl bestS none
theorem bestL_snoc (xs : List (Option Int)) (x : Option Int) : bestL (xs ++ [x]) = bestS (bestL xs) x := by
  unfold bestL
  rw [List.foldl_append]
  rfl
theorem bestL_spec : ∀ xs : List (Option Int), match bestL xs with
    | none => ∀ x ∈ xs, x = none
    | some v => some v ∈ xs ∧ ∀ c, some c ∈ xs → v ≤ c := by
  refine snoc_ind (by simp [bestL]) fun xs x ih => ?_
  rw [bestL_snoc]
  cases hb : bestL xs with
  | none =>
    rw [hb] at ih
    cases x with
    | none =>
      simp only [bestS]
      intro d hd
      rcases List.mem_append.mp hd with hd | hd
      · exact ih d hd
      · simpa using hd
    | some c =>
      simp only [bestS]
      refine ⟨by simp, fun d hd => ?_⟩
      rcases List.mem_append.mp hd with hd | hd
      · cases ih _ hd
      · rw [List.mem_singleton] at hd
        cases hd
        omega
  | some v =>
    rw [hb] at ih
    cases x with
    | none =>
      simp only [bestS]
      refine ⟨List.mem_append_left _ ih.1, fun d hd => ?_⟩
      rcases List.mem_append.mp hd with hd | hd
      · exact ih.2 d hd
      · simp at hd
    | some c =>
      simp only [bestS]
      by_cases h : c < v
      · rw [if_pos h]
        refine ⟨by simp, fun d hd => ?_⟩
        rcases List.mem_append.mp hd with hd | hd
        · have := ih.2 d hd
          omega
        · rw [List.mem_singleton] at hd
          cases hd
          omega
      · rw [if_neg h]
        refine ⟨List.mem_append_left _ ih.1, fun d hd => ?_⟩
        rcases List.mem_append.mp hd with hd | hd
        · exact ih.2 d hd
        · rw [List.mem_singleton] at hd
          cases hd
          omega
/-- the least costs from each of the last k words on, the first ahead -/
def prices (f : Face) (P : List Pair) (n : Int) (ws : List (List Nat)) : Nat → List Int
  | 0 => [0]
  | k + 1 => ((bestL ((List.range (k + 1)).map fun i => (cost f P n ws (ws.length - (k + 1)) (ws.length - k + i)).map (· + (prices f P n ws k).getD i 0))).getD 0) :: prices f P n ws k
theorem cost_one {f : Face} {P : List Pair} {n : Int} {ws : List (List Nat)} {a : Nat} (ha : a < ws.length) (h : wd f P ws[a] ≤ n) : cost f P n ws a (a + 1) ≠ none := by
  have e : lnW ws a (a + 1) = [ws[a]] := by
    unfold lnW
    rw [List.drop_eq_getElem_cons ha, show a + 1 - a = 1 by omega]
    rfl
  unfold cost
  have e1 : jn [ws[a]] = ws[a] := rfl
  have h0 : ¬ (n - wd f P ws[a] < 0) := by omega
  rw [e, e1, if_neg h0]
  by_cases h2 : a + 1 = ws.length
  · rw [if_pos h2]
    simp
  · rw [if_neg h2]
    simp
theorem price_ok {f : Face} {P : List Pair} {n : Int} {ws : List (List Nat)} (hw : ∀ w ∈ ws, wd f P w ≤ n) {k : Nat} (hk : k < ws.length) :
    ∃ v, bestL ((List.range (k + 1)).map fun i => (cost f P n ws (ws.length - (k + 1)) (ws.length - k + i)).map (· + (prices f P n ws k).getD i 0)) = some v := by
  have ha : ws.length - (k + 1) < ws.length := by omega
  have c1 := cost_one (f := f) (P := P) (n := n) ha (hw _ (List.getElem_mem ha))
  have sp := bestL_spec ((List.range (k + 1)).map fun i => (cost f P n ws (ws.length - (k + 1)) (ws.length - k + i)).map (· + (prices f P n ws k).getD i 0))
  split at sp
  · have e : ws.length - (k + 1) + 1 = ws.length - k + 0 := by omega
    rw [e] at c1
    have := sp _ (List.mem_map.mpr ⟨0, by simp, rfl⟩)
    rw [Option.map_eq_none_iff] at this
    exact absurd this c1
  · exact ⟨_, by assumption⟩
@[simp ↓] theorem wp_rrng (a b : Ex) {σ : En} {S : Sto} {P : List D → Sto → Prop} {E : Str → Sto → Prop} : (rrngI a b σ S).wp P E = (a σ S).wp (fun x S1 => (b σ S1).wp (fun y S2 => ∃ i j, x = .py (.int i) ∧ y = .py (.int j) ∧ (-(2 ^ 62) ≤ i ∧ j - i ≤ 16777216 ∧ i < 2 ^ 62 ∧ -(2 ^ 62) ≤ j ∧ j < 2 ^ 62) ∧ P (rngV i (j - i).toNat).reverse S2) E) E := by
  unfold rrngI
  rw [wp_bind]
  congr 1
  funext x S1
  rw [wp_bind]
  congr 1
  funext y S2
  split
  · rw [wp_iteR]
    split
    · rename_i h
      exact propext ⟨fun p => ⟨_, _, rfl, rfl, h, p⟩, fun ⟨i, j, e1, e2, _, p⟩ => by cases e1; cases e2; exact p⟩
    · rename_i h
      exact propext ⟨fun p => p.elim, fun ⟨i, j, e1, e2, h', p⟩ => by cases e1; cases e2; exact h h'⟩
  · rename_i hn
    exact propext ⟨fun h => h.elim, fun ⟨i, j, e1, e2, _, _⟩ => (hn i j e1 e2).elim⟩
@[simp ↓] theorem wp_rng2 (a b : Ex) {σ : En} {S : Sto} {P : List D → Sto → Prop} {E : Str → Sto → Prop} : (rng2I a b σ S).wp P E = (a σ S).wp (fun x S1 => (b σ S1).wp (fun y S2 => ∃ i j, x = .py (.int i) ∧ y = .py (.int j) ∧ (-(2 ^ 62) ≤ i ∧ j - i ≤ 16777216 ∧ i < 2 ^ 62 ∧ -(2 ^ 62) ≤ j ∧ j < 2 ^ 62) ∧ P (rngV i (j - i).toNat) S2) E) E := by
  unfold rng2I
  rw [wp_bind]
  congr 1
  funext x S1
  rw [wp_bind]
  congr 1
  funext y S2
  split
  · rw [wp_iteR]
    split
    · rename_i h
      exact propext ⟨fun p => ⟨_, _, rfl, rfl, h, p⟩, fun ⟨i, j, e1, e2, _, p⟩ => by cases e1; cases e2; exact p⟩
    · rename_i h
      exact propext ⟨fun p => p.elim, fun ⟨i, j, e1, e2, h', p⟩ => by cases e1; cases e2; exact h h'⟩
  · rename_i hn
    exact propext ⟨fun h => h.elim, fun ⟨i, j, e1, e2, _, _⟩ => (hn i j e1 e2).elim⟩
end DV

set_option maxHeartbeats 4000000
namespace DV
open PySem
end DV

set_option maxHeartbeats 4000000
namespace DV
open PySem
/-! The even lines. -/
/-- the price of the last k words -/
def price (f : Face) (P : List Pair) (n : Int) (ws : List (List Nat)) (k : Nat) : Int := (prices f P n ws k).getD 0 0
theorem prices_get (f : Face) (P : List Pair) (n : Int) (ws : List (List Nat)) : ∀ k j, j ≤ k → (prices f P n ws k)[j]? = some (price f P n ws (k - j))
  | 0, j, h => by
    have : j = 0 := by omega
    subst this
    rfl
  | k + 1, 0, h => rfl
  | k + 1, j + 1, h => by
    rw [prices, List.getElem?_cons_succ, prices_get f P n ws k j (by omega)]
    congr 2
    omega
theorem prs {f : Face} {P : List Pair} {n : Int} {ws : List (List Nat)} (hw : ∀ w ∈ ws, wd f P w ≤ n) : Prs (cost f P n ws) ws.length (price f P n ws) := by
  have gd : ∀ k i, i ≤ k → (prices f P n ws k).getD i 0 = price f P n ws (k - i) := fun k i h => by
    rw [List.getD_eq_getElem?_getD, prices_get f P n ws k i h]
    rfl
  have pe : ∀ k v, bestL ((List.range (k + 1)).map fun i => (cost f P n ws (ws.length - (k + 1)) (ws.length - k + i)).map (· + (prices f P n ws k).getD i 0)) = some v → price f P n ws (k + 1) = v := fun k v h => by
    unfold price
    rw [prices, h]
    rfl
  refine ⟨rfl, fun k hk => ?_, fun k i c hk hi hc => ?_⟩
  · obtain ⟨v, pv⟩ := price_ok (P := P) hw hk
    have sp := bestL_spec ((List.range (k + 1)).map fun i => (cost f P n ws (ws.length - (k + 1)) (ws.length - k + i)).map (· + (prices f P n ws k).getD i 0))
    rw [pv] at sp
    obtain ⟨i, hi, e⟩ := List.mem_map.mp sp.1
    rw [Option.map_eq_some_iff] at e
    obtain ⟨c, h1, h2⟩ := e
    have hi : i ≤ k := by simp at hi; omega
    refine ⟨i, c, hi, h1, ?_⟩
    rw [pe k v pv, ← h2, gd k i hi]
  · obtain ⟨v, pv⟩ := price_ok (P := P) hw hk
    have sp := bestL_spec ((List.range (k + 1)).map fun i => (cost f P n ws (ws.length - (k + 1)) (ws.length - k + i)).map (· + (prices f P n ws k).getD i 0))
    rw [pv] at sp
    rw [pe k v pv, ← gd k i hi]
    exact sp.2 _ (List.mem_map.mpr ⟨i, by simp; omega, by rw [hc]; rfl⟩)
/-- the lines of a row of words, from one number on -/
def linesAt (ws : List (List Nat)) : Nat → List Nat → List (List (List Nat))
  | _, [] => []
  | a, m :: r => lnW ws a (a + m) :: linesAt ws (a + m) r
abbrev gRow (f : Face) (P : List Pair) (n : Int) (ws : List (List Nat)) (k : Nat) : List Nat := greedy (cost f P n ws) ws.length (price f P n ws) k
abbrev encN (ls : List (List (List Nat))) : List PyData := ls.map fun l => .str (st (jn l))
end DV

set_option maxHeartbeats 4000000
namespace DV
open PySem
/-! All breakings gone through: the least one. -/
theorem rowOk.le {k : Nat} {r : List Nat} (h : rowOk k r) : r.length ≤ k := by
  have : ∀ (r : List Nat), (∀ m ∈ r, 1 ≤ m) → r.length ≤ r.sum := by
    intro r
    induction r with
    | nil => simp
    | cons x xs ih =>
      intro q
      have h1 := q x (List.mem_cons_self ..)
      have h2 := ih fun m hm => q m (List.mem_cons_of_mem _ hm)
      rw [List.length_cons, List.sum_cons]
      omega
  have := this r h.1
  rw [h.2] at this
  exact this
/-- what the law keeps of a row -/
def encB (c : Int) (row : List Nat) (ls : List (List (List Nat))) : PyData := .tuple [.int c, .list (row.map fun (m : Nat) => .int (-(m : Int))), .list (encN ls)]
theorem neg_lex : ∀ {a b : List Nat}, ahead a b →
    PyData.eqvAll (a.map fun (m : Nat) => .int (-(m : Int))) (b.map fun (m : Nat) => .int (-(m : Int))) = false ∧ PyData.eqvAll (b.map fun (m : Nat) => .int (-(m : Int))) (a.map fun (m : Nat) => .int (-(m : Int))) = false ∧
    PySem.W.dataLt (.list (a.map fun (m : Nat) => .int (-(m : Int)))) (.list (b.map fun (m : Nat) => .int (-(m : Int)))) = true ∧ PySem.W.dataLt (.list (b.map fun (m : Nat) => .int (-(m : Int)))) (.list (a.map fun (m : Nat) => .int (-(m : Int)))) = false
  | x :: xs, y :: ys, h => by
    rw [PySem.W.dataLt_list, PySem.W.dataLt_list]
    simp only [List.map_cons]
    by_cases hxy : x = y
    · subst hxy
      have ha : ahead xs ys := by
        rcases h with h | ⟨_, h⟩
        · omega
        · exact h
      obtain ⟨i1, i2, i3, i4⟩ := neg_lex ha
      have e : PyData.eqv (.int (-(x : Int))) (.int (-(x : Int))) = true := by simp [PyData.eqv]
      rw [PySem.W.dataLt_all_yes rfl e, PySem.W.dataLt_all_yes rfl e, PySem.W.eqv_all_cons, PySem.W.eqv_all_cons, e, i1, i2]
      rw [PySem.W.dataLt_list] at i3 i4
      exact ⟨rfl, rfl, i3, i4⟩
    · have hl : y < x := by
        rcases h with h | ⟨h, _⟩
        · exact h
        · exact absurd h hxy
      have e1 : PyData.eqv (.int (-(x : Int))) (.int (-(y : Int))) = false := by simp [PyData.eqv]; omega
      have e2 : PyData.eqv (.int (-(y : Int))) (.int (-(x : Int))) = false := by simp [PyData.eqv]; omega
      rw [PySem.W.dataLt_all_no rfl e1, PySem.W.dataLt_all_no rfl e2, PySem.W.eqv_all_cons, PySem.W.eqv_all_cons, e1, e2, PySem.W.dataLt_int, PySem.W.dataLt_int]
      refine ⟨rfl, rfl, ?_, ?_⟩
      · simp; omega
      · simp; omega
theorem alike_ints : ∀ (a b : List Nat), PySem.W.alikeAll (a.map fun (m : Nat) => .int (-(m : Int))) (b.map fun (m : Nat) => .int (-(m : Int))) = true
  | [], _ => by simp [PySem.W.alikeAll]
  | x :: xs, [] => by simp [PySem.W.alikeAll]
  | x :: xs, y :: ys => by
    rw [List.map_cons, List.map_cons, PySem.W.alikeAll, alike_ints xs ys]
    rfl
/-- cheaper, or as cheap with more words ahead -/
theorem encB_lt {c d : Int} {a b : List Nat} {l m : List (List (List Nat))} (h : c < d ∨ (c = d ∧ ahead a b)) : PySem.W.dataLt (encB c a l) (encB d b m) = true ∧ PySem.W.dataLt (encB d b m) (encB c a l) = false := by
  unfold encB
  rw [PySem.W.dataLt_tuple, PySem.W.dataLt_tuple]
  by_cases hc : c = d
  · subst hc
    have ha : ahead a b := by
      rcases h with h | ⟨_, h⟩
      · omega
      · exact h
    obtain ⟨i1, i2, i3, i4⟩ := neg_lex ha
    have e : PyData.eqv (.int c) (.int c) = true := by simp [PyData.eqv]
    rw [PySem.W.dataLt_all_yes rfl e, PySem.W.dataLt_all_yes rfl e]
    rw [PySem.W.dataLt_all_no (by simpa [PySem.W.alike] using alike_ints a b) (by simpa [PyData.eqv] using i1), PySem.W.dataLt_all_no (by simpa [PySem.W.alike] using alike_ints b a) (by simpa [PyData.eqv] using i2)]
    exact ⟨i3, i4⟩
  · have hl : c < d := by
      rcases h with h | ⟨h, _⟩
      · exact h
      · exact absurd h hc
    have e1 : PyData.eqv (.int c) (.int d) = false := by simp [PyData.eqv]; omega
    have e2 : PyData.eqv (.int d) (.int c) = false := by simp [PyData.eqv]; omega
    rw [PySem.W.dataLt_all_no rfl e1, PySem.W.dataLt_all_no rfl e2, PySem.W.dataLt_int, PySem.W.dataLt_int]
    refine ⟨?_, ?_⟩
    · simp; omega
    · simp; omega
section
variable (f : Face) (P : List Pair) (n : Int) (ws : List (List Nat))
abbrev rowV (r : List Nat) : Option Int := rowC (cost f P n ws) ws.length ws.length r
abbrev encV (r : List Nat) : PyData := encB ((rowV f P n ws r).getD 0) r (linesAt ws 0 r)
def nextB (st : Option (List Nat)) (r : List Nat) : Option (List Nat) := if rowV f P n ws r = none then st else match st with
  | none => some r
  | some b => if PySem.W.dataLt (encV f P n ws r) (encV f P n ws b) = true then some r else some b
end
section
variable {f : Face} {P : List Pair} {n : Int} {ws : List (List Nat)}
theorem encV_lt (hw : ∀ w ∈ ws, wd f P w ≤ n) {b : List Nat} (hb : rowV f P n ws b ≠ none) (ne : b ≠ gRow f P n ws ws.length) :
    PySem.W.dataLt (encV f P n ws (gRow f P n ws ws.length)) (encV f P n ws b) = true ∧ PySem.W.dataLt (encV f P n ws b) (encV f P n ws (gRow f P n ws ws.length)) = false := by
  have pp := prs (P := P) hw
  obtain ⟨v, hv⟩ := Option.ne_none_iff_exists'.mp hb
  obtain ⟨l1, l2⟩ := greedy_least pp _ (Nat.le_refl _) b v hv
  have gc := greedy_cost pp _ (Nat.le_refl ws.length)
  unfold encV
  rw [hv, show rowV f P n ws (gRow f P n ws ws.length) = _ from gc]
  refine encB_lt ?_
  simp only [Option.getD_some]
  by_cases hq : v = price f P n ws ws.length
  · rcases l2 hq with q | q
    · exact absurd q ne
    · exact .inr ⟨hq.symm, q⟩
  · exact .inl (by omega)
/-- the best so far: once the greedy row has been seen it stays -/
structure BInv (f : Face) (P : List Pair) (n : Int) (ws : List (List Nat)) (pre : List (List Nat)) (st : Option (List Nat)) : Prop where
  seen : gRow f P n ws ws.length ∈ pre → st = some (gRow f P n ws ws.length)
  fit : ∀ b, st = some b → rowV f P n ws b ≠ none
theorem BInv.next (hw : ∀ w ∈ ws, wd f P w ≤ n) {pre : List (List Nat)} {st : Option (List Nat)} (h : BInv f P n ws pre st) (r : List Nat) : BInv f P n ws (pre ++ [r]) (nextB f P n ws st r) := by
  have pp := prs (P := P) hw
  have gc : rowV f P n ws (gRow f P n ws ws.length) = some _ := greedy_cost pp _ (Nat.le_refl ws.length)
  by_cases hr : rowV f P n ws r = none
  · have ng : r ≠ gRow f P n ws ws.length := fun e => by rw [e, gc] at hr; cases hr
    unfold nextB
    rw [if_pos hr]
    refine ⟨fun m => ?_, h.fit⟩
    rcases List.mem_append.mp m with m | m
    · exact h.seen m
    · rw [List.mem_singleton] at m
      exact absurd m.symm ng
  · unfold nextB
    rw [if_neg hr]
    cases st with
    | none =>
      refine ⟨fun m => ?_, fun b e => by cases e; exact hr⟩
      rcases List.mem_append.mp m with m | m
      · have := h.seen m
        cases this
      · rw [List.mem_singleton] at m
        rw [m]
    | some b =>
      have hb := h.fit b rfl
      by_cases ng : r = gRow f P n ws ws.length
      · by_cases nb : b = gRow f P n ws ws.length
        · rw [ng, nb]
          simp only [ite_self]
          exact ⟨fun _ => rfl, fun b e => by cases e; rw [gc]; simp⟩
        · rw [ng]
          simp only
          rw [if_pos (encV_lt hw hb nb).1]
          exact ⟨fun _ => rfl, fun b e => by cases e; rw [gc]; simp⟩
      · refine ⟨fun m => ?_, fun c e => ?_⟩
        · rcases List.mem_append.mp m with m | m
          · have e := h.seen m
            cases e
            simp only
            rw [(encV_lt hw hr ng).2]
            rfl
          · rw [List.mem_singleton] at m
            exact absurd m.symm ng
        · simp only at e
          split at e
          · cases e
            exact hr
          · cases e
            exact hb
end
end DV

set_option maxHeartbeats 4000000
namespace DV
open PySem
/-! Lines that take words as long as they fit are the fewest. -/
section
variable {f : Face} {P : List Pair} {n : Int}
def GW (f : Face) (ws : List (List Nat)) : Prop := ∀ w ∈ ws, w ≠ [] ∧ ∀ c ∈ w, c ∈ f.lets
theorem GW.app {a b : List (List Nat)} (h : GW f (a ++ b)) : GW f a ∧ GW f b := ⟨fun w hw => h w (List.mem_append_left _ hw), fun w hw => h w (List.mem_append_right _ hw)⟩
/-- groups of all the words, each fits -/
structure Grp (f : Face) (P : List Pair) (n : Int) (ws : List (List Nat)) (gs : List (List (List Nat))) : Prop where
  fl : gs.flatten = ws
  ne : ∀ g ∈ gs, g ≠ []
  fit : ∀ g ∈ gs, wd f P (jn g) ≤ n
end
end DV

set_option maxHeartbeats 4000000
namespace DV
open PySem
/-! Lines that are widened; what lines cost. -/
/-- the blanks of m + 1 words, so much room over -/
def blanks (w room : Int) (m : Nat) : List Int := (List.range m).map fun i : Nat => w + room / (m : Int) + (if (i : Int) < room % (m : Int) then 1 else 0)
end DV

set_option maxHeartbeats 4000000
namespace DV
open PySem
/-! A line that is widened: of any text and any number. -/
section
variable {f : Face} {P : List Pair} {l : List Nat}
theorem has122 (b : ∀ c ∈ f.lets, 97 ≤ c ∧ c ≤ 122) {c : Nat} (h : f.has c) : c ≤ 122 := by
  rcases h with h | h
  · omega
  · exact (b c h).2
end
end DV

set_option maxHeartbeats 4000000
namespace DV
open PySem
/-! Faces in which one sign stands for another: all widths are the same. -/
structure Hom (f f' : Face) (P P' : List Pair) (φ : Nat → Nat) : Prop where
  sw : ∀ c, f'.has c → sw f' c = sw f (φ c)
  bt : ∀ a b, f'.has a → f'.has b → bt P' a b = bt P (φ a) (φ b)
  b32 : φ 32 = 32
  lets : ∀ c ∈ f'.lets, φ c ∈ f.lets
  w : f'.w = f.w
section
variable {f f' : Face} {P P' : List Pair} {φ : Nat → Nat}
theorem Hom.has (h : Hom f f' P P' φ) {c : Nat} (hc : f'.has c) : f.has (φ c) := by
  rcases hc with rfl | hc
  · rw [h.b32]; exact .inl rfl
  · exact .inr (h.lets c hc)
theorem Hom.wd (h : Hom f f' P P' φ) {l : List Nat} (hl : ∀ c ∈ l, f'.has c) : wd f' P' l = wd f P (l.map φ) := by
  unfold DV.wd
  have e1 : l.map (DV.sw f') = (l.map φ).map (DV.sw f) := by
    rw [List.map_map]
    exact List.map_congr_left fun c hc => h.sw c (hl c hc)
  have e2 : ((l.zip (l.drop 1)).map fun p => DV.bt P' p.1 p.2) = ((l.map φ).zip ((l.map φ).drop 1)).map fun p => DV.bt P p.1 p.2 := by
    rw [← List.map_drop, List.zip_map, List.map_map]
    refine List.map_congr_left fun p hp => ?_
    obtain ⟨h1, h2⟩ := List.of_mem_zip hp
    exact h.bt _ _ (hl _ h1) (hl _ (List.mem_of_mem_drop h2))
  rw [e1, e2]
/-! ### words and lines -/
abbrev mm (φ : Nat → Nat) (ws : List (List Nat)) : List (List Nat) := ws.map (List.map φ)
theorem jn_mm (hb : φ 32 = 32) : ∀ ws : List (List Nat), (jn ws).map φ = jn (mm φ ws)
  | [] => rfl
  | [w] => rfl
  | w :: v :: r => by
    show (w ++ 32 :: jn (v :: r)).map φ = w.map φ ++ 32 :: jn (mm φ (v :: r))
    rw [← jn_mm hb (v :: r), List.map_append, List.map_cons, hb]
def AllH (f : Face) (ws : List (List Nat)) : Prop := ∀ w ∈ ws, ∀ c ∈ w, f.has c
theorem AllH.of (h : ∀ w ∈ ws, ∀ c ∈ w, c ∈ f.lets) : AllH f ws := fun w hw c hc => .inr (h w hw c hc)
theorem jn_hasH : ∀ {ws : List (List Nat)}, AllH f ws → ∀ c ∈ jn ws, f.has c
  | [], _, c, hc => by cases hc
  | [w], h, c, hc => h w (by simp) c hc
  | w :: v :: r, h, c, hc => by
    have hc : c ∈ w ++ 32 :: jn (v :: r) := hc
    rw [List.mem_append, List.mem_cons] at hc
    rcases hc with hc | rfl | hc
    · exact h w (by simp) c hc
    · exact .inl rfl
    · exact jn_hasH (fun w hw => h w (List.mem_cons_of_mem _ hw)) c hc
theorem lnW_mm (ws : List (List Nat)) (a b : Nat) : mm φ (lnW ws a b) = lnW (mm φ ws) a b := by
  unfold lnW mm
  rw [List.map_take, List.map_drop]
theorem lnW_all {ws : List (List Nat)} (h : AllH f ws) (a b : Nat) : AllH f (lnW ws a b) := fun w hw => h w (List.mem_of_mem_drop (List.mem_of_mem_take hw))
theorem Hom.cost (h : Hom f f' P P' φ) (n : Int) {ws : List (List Nat)} (hw : AllH f' ws) : cost f' P' n ws = cost f P n (mm φ ws) := by
  funext a b
  unfold DV.cost
  rw [h.wd (jn_hasH (lnW_all hw a b)), jn_mm h.b32, lnW_mm, List.length_map]
theorem Hom.prices (h : Hom f f' P P' φ) (n : Int) {ws : List (List Nat)} (hw : AllH f' ws) : ∀ k, prices f' P' n ws k = prices f P n (mm φ ws) k
  | 0 => rfl
  | k + 1 => by
    rw [DV.prices, DV.prices, h.prices n hw k, h.cost n hw, List.length_map]
theorem Hom.gRow (h : Hom f f' P P' φ) (n : Int) {ws : List (List Nat)} (hw : AllH f' ws) (k : Nat) : gRow f' P' n ws k = gRow f P n (mm φ ws) k := by
  have e : price f' P' n ws = price f P n (mm φ ws) := by
    funext j
    unfold price
    rw [h.prices n hw]
  unfold DV.gRow
  rw [h.cost n hw, e, List.length_map]
end
end DV

set_option maxHeartbeats 4000000
namespace DV
open PySem
/-! The gaps of two classes. -/
structure Sml (G : List (List Nat)) : Prop where
  few : G.length ≤ 10
  row : ∀ g ∈ G, g.length ≤ 10
  ne : ∀ g ∈ G, g ≠ []
  lts : ∀ g ∈ G, ∀ c ∈ g, c ≤ 122
end DV

set_option maxHeartbeats 4000000
namespace DV
open PySem
/-! All partings, as rows of class numbers. -/
abbrev e1 (r : List Int) : PyData := .int (r.headD 0)
end DV

set_option maxHeartbeats 4000000
namespace DV
open PySem
/-- one more than the greatest -/
def top : List Nat → Nat
  | [] => 0
  | x :: r => max (x + 1) (top r)
def longer (most : Nat) (r : List Nat) : List (List Nat) := (List.range (min (top r + 1) most)).map fun i => r ++ [i]
def parts (most : Nat) : Nat → List (List Nat)
  | 0 => [[]]
  | n + 1 => (parts most n).flatMap (longer most)
def iN (r : List Nat) : List Int := r.map fun (i : Nat) => (i : Int)
end DV

set_option maxHeartbeats 4000000
namespace DV
open PySem
/-! The fewest letters that part all left classes. -/
def mkR (L : List Nat) (P : List Pair) (r : List Nat) (l : Nat) : List Int := r.map fun i => gapIn P l (L.getD i 0)
def sepB (f : Face) (P : List Pair) (r : List Nat) : Bool := decide ((dedT (f.lets.map (mkR f.lets P r))).length = (firsts (leftM f P)).length)
end DV

set_option maxHeartbeats 4000000
namespace DV
open PySem
/-! Which letters part all; the fewest. -/
theorem len_sub {α : Type} [DecidableEq α] {A B : List α} (h : A.Nodup) (hs : ∀ a ∈ A, a ∈ B) : A.length ≤ B.length := h.length_le_of_subset hs
theorem sep_iff {M0 : List (List Int)} {proj : List Int → List Int} : (dedT (M0.map proj)).length = (firsts M0).length ↔ ∀ a ∈ M0, ∀ b ∈ M0, proj a = proj b → a = b := by
  have nd := firsts_nodup M0
  constructor
  · intro h a ha b hb hab
    by_cases e : a = b
    · exact e
    · exfalso
      have hb' : b ∈ firsts M0 := mem_firsts.mpr hb
      have h1 : (dedT (M0.map proj)).length ≤ (((firsts M0).erase b).map proj).length := by
        refine (nodup_dedT _).length_le_of_subset fun v hv => ?_
        obtain ⟨x, hx, rfl⟩ := List.mem_map.mp ((mem_dedT _ _).mp hv)
        by_cases q : x = b
        · rw [q, ← hab]
          exact List.mem_map.mpr ⟨a, (List.mem_erase_of_ne e).mpr (mem_firsts.mpr ha), rfl⟩
        · exact List.mem_map.mpr ⟨x, (List.mem_erase_of_ne q).mpr (mem_firsts.mpr hx), rfl⟩
      rw [List.length_map, List.length_erase_of_mem hb'] at h1
      have := List.length_pos_of_mem hb'
      omega
  · intro h
    have h2 : ((firsts M0).map proj).length = (dedT (M0.map proj)).length := len_dedT
      (List.pairwise_map.mpr (List.Pairwise.imp_of_mem (fun {a b} ha hb hab q => hab (h a (mem_firsts.mp ha) b (mem_firsts.mp hb) q)) nd))
      (fun v hv => by
        obtain ⟨x, hx, rfl⟩ := List.mem_map.mp hv
        exact List.mem_map.mpr ⟨x, mem_firsts.mp hx, rfl⟩)
      (fun v hv => by
        obtain ⟨x, hx, rfl⟩ := List.mem_map.mp hv
        exact List.mem_map.mpr ⟨x, mem_firsts.mpr hx, rfl⟩)
    rw [← h2, List.length_map]
def fullR (L : List Nat) (P : List Pair) (l : Nat) : List Int := L.map fun c => gapIn P l c
theorem full_getD {L : List Nat} {P : List Pair} {l i : Nat} (hi : i < L.length) : (fullR L P l).getD i 0 = gapIn P l (L.getD i 0) := by
  simp [fullR, List.getD_eq_getElem?_getD, hi]
theorem full_eq {L : List Nat} {P : List Pair} {a b : Nat} : fullR L P a = fullR L P b ↔ ∀ c ∈ L, gapIn P a c = gapIn P b c := List.map_inj_left
theorem sepB_iff {f : Face} {P : List Pair} {r : List Nat} (hr : ∀ i ∈ r, i < f.lets.length) : sepB f P r = true ↔ ∀ a ∈ f.lets, ∀ b ∈ f.lets, (∀ i ∈ r, gapIn P a (f.lets.getD i 0) = gapIn P b (f.lets.getD i 0)) → ∀ c ∈ f.lets, gapIn P a c = gapIn P b c := by
  have e1 : f.lets.map (mkR f.lets P r) = (f.lets.map (fullR f.lets P)).map fun row => r.map fun i => row.getD i 0 := by
    rw [List.map_map]
    refine List.map_congr_left fun l _ => List.map_congr_left fun i hi => (full_getD (hr i hi)).symm
  have e2 : leftM f P = f.lets.map (fullR f.lets P) := rfl
  have pj : ∀ a b, (r.map fun i => (fullR f.lets P a).getD i 0) = (r.map fun i => (fullR f.lets P b).getD i 0) ↔ ∀ i ∈ r, gapIn P a (f.lets.getD i 0) = gapIn P b (f.lets.getD i 0) := fun a b => by
    rw [List.map_inj_left]
    constructor
    · intro h i hi
      have := h i hi
      rwa [full_getD (hr i hi), full_getD (hr i hi)] at this
    · intro h i hi
      rw [full_getD (hr i hi), full_getD (hr i hi)]
      exact h i hi
  unfold sepB
  rw [decide_eq_true_iff, e1, e2, sep_iff]
  constructor
  · intro h a ha b hb hab
    exact full_eq.mp (h _ (List.mem_map.mpr ⟨a, ha, rfl⟩) _ (List.mem_map.mpr ⟨b, hb, rfl⟩) ((pj a b).mpr hab))
  · intro h x hx y hy hxy
    obtain ⟨a, ha, rfl⟩ := List.mem_map.mp hx
    obtain ⟨b, hb, rfl⟩ := List.mem_map.mp hy
    exact full_eq.mpr (h a ha b hb ((pj a b).mp hxy))
/-- the letters that part all -/
structure Prt (f : Face) (P : List Pair) (r : List Nat) : Prop where
  rise : r.Pairwise (· < ·)
  lt : ∀ x ∈ r, x < f.lets.length
  sep : sepB f P r = true
  min : ∀ q, q.Pairwise (· < ·) → (∀ x ∈ q, x < f.lets.length) → sepB f P q = true → r.length ≤ q.length
/-- so many columns part so many rows -/
theorem exists_sep (n : Nat) : ∀ D : List (List Int), D.Nodup → (∀ d ∈ D, d.length = n) → ∃ R : List Nat, R.length + 1 ≤ max 1 D.length ∧ (∀ i ∈ R, i < n) ∧ ∀ a ∈ D, ∀ b ∈ D, (∀ i ∈ R, a.getD i 0 = b.getD i 0) → a = b
  | [], _, _ => ⟨[], by simp, by simp, by simp⟩
  | d :: D, hn, hl => by
    obtain ⟨n1, n2⟩ := List.nodup_cons.mp hn
    obtain ⟨R, r1, r2, r3⟩ := exists_sep n D n2 fun x hx => hl x (List.mem_cons_of_mem _ hx)
    by_cases h : ∃ e ∈ D, ∀ i ∈ R, d.getD i 0 = e.getD i 0
    · obtain ⟨e, he, hR⟩ := h
      have hde : d ≠ e := fun q => n1 (q ▸ he)
      have l1 := hl d (by simp)
      have l2 := hl e (by simp [he])
      obtain ⟨i, hi, hne⟩ : ∃ i, i < n ∧ d.getD i 0 ≠ e.getD i 0 := by
        refine Classical.byContradiction fun hc => hde (List.ext_getElem (by omega) fun i h1 h2 => ?_)
        have : d.getD i 0 = e.getD i 0 := Classical.byContradiction fun q => hc ⟨i, by omega, q⟩
        simpa [List.getD_eq_getElem?_getD, h1, h2] using this
      have hp := List.length_pos_of_mem he
      refine ⟨i :: R, ?_, fun x hx => ?_, fun a ha b hb hab => ?_⟩
      · simp only [List.length_cons]
        omega
      · rcases List.mem_cons.mp hx with rfl | hx
        · exact hi
        · exact r2 x hx
      · have hi' := hab i (by simp)
        have hR' : ∀ x ∈ R, a.getD x 0 = b.getD x 0 := fun x hx => hab x (by simp [hx])
        rcases List.mem_cons.mp ha with rfl | ha' <;> rcases List.mem_cons.mp hb with rfl | hb'
        · rfl
        · have : e = b := r3 e he b hb' fun x hx => by rw [← hR x hx, hR' x hx]
          rw [← this] at hi'
          exact absurd hi' hne
        · have : e = a := r3 e he a ha' fun x hx => by rw [← hR x hx, hR' x hx]
          rw [← this] at hi'
          exact absurd hi'.symm hne
        · exact r3 a ha' b hb' hR'
    · refine ⟨R, ?_, r2, fun a ha b hb hab => ?_⟩
      · simp only [List.length_cons]
        omega
      · rcases List.mem_cons.mp ha with rfl | ha' <;> rcases List.mem_cons.mp hb with rfl | hb'
        · rfl
        · exact absurd ⟨b, hb', hab⟩ h
        · exact absurd ⟨a, ha', fun i hi => (hab i hi).symm⟩ h
        · exact r3 a ha' b hb' hab
def riseOf (n : Nat) (R : List Nat) : List Nat := (List.range n).filter fun i => decide (i ∈ R)
theorem mem_rise {n : Nat} {R : List Nat} {i : Nat} : i ∈ riseOf n R ↔ i < n ∧ i ∈ R := by
  unfold riseOf
  rw [List.mem_filter, List.mem_range, decide_eq_true_iff]
theorem rise_pw (n : Nat) (R : List Nat) : (riseOf n R).Pairwise (· < ·) := List.Pairwise.sublist List.filter_sublist List.pairwise_lt_range
theorem rise_le (n : Nat) (R : List Nat) : (riseOf n R).length ≤ R.length := len_sub ((rise_pw n R).imp fun h => Nat.ne_of_lt h) fun i hi => (mem_rise.mp hi).2
/-- fewer than the left classes -/
theorem Prt.left {f : Face} {P : List Pair} {r : List Nat} (h : Prt f P r) : r.length + 1 ≤ max 1 (firsts (leftM f P)).length := by
  obtain ⟨R, r1, r2, r3⟩ := exists_sep f.lets.length (firsts (leftM f P)) (firsts_nodup _) fun d hd => by
    obtain ⟨a, ha, rfl⟩ := List.mem_map.mp (mem_firsts.mp hd)
    simp
  have s : sepB f P (riseOf f.lets.length R) = true := (sepB_iff fun i hi => (mem_rise.mp hi).1).mpr fun a ha b hb hab => by
    have q : ∀ c ∈ f.lets, fullR f.lets P c ∈ firsts (leftM f P) := fun c hc => mem_firsts.mpr (List.mem_map.mpr ⟨c, hc, rfl⟩)
    refine full_eq.mp (r3 _ (q a ha) _ (q b hb) fun i hi => ?_)
    rw [full_getD (r2 i hi), full_getD (r2 i hi)]
    exact hab i (mem_rise.mpr ⟨r2 i hi, hi⟩)
  have := h.min _ (rise_pw _ _) (fun x hx => (mem_rise.mp hx).1) s
  have := rise_le f.lets.length R
  omega
end DV

set_option maxHeartbeats 4000000
namespace DV
open PySem
/-! The value that most have, of several the least. -/
abbrev cntZ (vs : List Int) (v : Int) : Int := ((vs.count v : Nat) : Int)
structure IsMost (vs : List Int) (m : Int) : Prop where
  mem : m ∈ vs
  best : ∀ v ∈ vs, cntZ vs v < cntZ vs m ∨ (cntZ vs v = cntZ vs m ∧ m ≤ v)
end DV

set_option maxHeartbeats 4000000
namespace DV
open PySem
/-! Tables with single exceptions. -/
end DV

set_option maxHeartbeats 4000000
namespace DV
open PySem
/-! with_singles: the exceptions in order. -/
def leP (L : List Nat) (p q : Pair) : Prop := (plc L p.1 : Int) < plc L q.1 ∨ ((plc L p.1 : Int) = plc L q.1 ∧ (plc L p.2.1 : Int) ≤ plc L q.2.1)
instance (L : List Nat) (p q : Pair) : Decidable (leP L p q) := by unfold leP; infer_instance
end DV

set_option maxHeartbeats 4000000
namespace DV
open PySem
/-! All sets of places, the fewest ahead, in order. -/
def ltR (p q : List Nat) : Prop := p.length < q.length ∨ (p.length = q.length ∧ iN p < iN q)
instance (p q : List Nat) : Decidable (ltR p q) := by unfold ltR; infer_instance
def leR (p q : List Nat) : Prop := p.length < q.length ∨ (p.length = q.length ∧ iN p ≤ iN q)
instance (p q : List Nat) : Decidable (leR p q) := by unfold leR; infer_instance
end DV

set_option maxHeartbeats 4000000
namespace DV
open PySem
/-! The parters and the paper of a face in which one letter is like another one. -/
section
variable {f : Face} {P : List Pair} {c o : Nat} {w : Int}
/-! ### the paper of left classes -/
/-! ### a gap of the new letter turned -/
end
end DV

set_option maxHeartbeats 4000000
namespace DV
open PySem
/-! The law's things, where the face stands in another slot; parts of what fits. -/
theorem FitXL.app {a b : List PyData} {k v w : Nat} (ha : FitXL a k v) (hb : FitXL b k w) : FitXL (a ++ b) k (v + w) := by
  have p : Part (a ++ b) k := Part.app.mpr ⟨⟨ha.sh, ha.dp, ha.ls⟩, ⟨hb.sh, hb.dp, hb.ls⟩⟩
  have h1 := ha.bk
  have h2 := hb.bk
  exact ⟨p.sh, p.dp, p.ls, by rw [bulk_app]; omega⟩
theorem FitXL.mono {d : List PyData} {k k' w w' : Nat} (h : FitXL d k w) (hk : k ≤ k') (hw : w ≤ w') : FitXL d k' w' := ⟨h.sh, Nat.le_trans h.dp hk, h.ls, Nat.le_trans h.bk hw⟩
end DV

set_option maxHeartbeats 4000000
namespace DV
open PySem
/-! Whole numbers of odd and of spoilt things are not too great. -/
end DV

set_option maxHeartbeats 4000000
namespace DV
open PySem
/-! Prices that show: any thing asked. -/
end DV

set_option maxHeartbeats 4000000
namespace DV
open PySem
/-! Breakings as wholes: the even lines, the filled ones, prices that show. -/
section
variable {f : Face} {P : List Pair} {ws : List (List Nat)} {n : Int}
end
/-! the blanks -/
end DV

set_option maxHeartbeats 4000000
namespace DV
open PySem
/-! Lines of many words, spread: the law's own asking. -/
end DV

set_option maxHeartbeats 4000000
namespace DV
open PySem
/-! What is a table, is one of ours. -/
end DV

set_option maxHeartbeats 4000000
namespace DV
open PySem
/-! Tables asked in six ways, of any thing. -/
/-- shown, and not as a word of a refusal -/
structure Plain (p : PyData) : Prop where
  len : p.shown.length ≤ sizeLine
  rep : ∀ S, reprD [.py p] S = .ok (.py (.str p.shown)) S
  head : p.shown.cps.toList.head? ≠ some 33
section
variable {f : Face} {P : List Pair} {x l r : PyData} {k w : Nat}
end
end DV

set_option maxHeartbeats 4000000
namespace DV
open PySem
/-! The law's table of least costs, from the last word on. -/
section
variable (t : Nat → Int) (R : Nat → List Int)
end
section
variable (C : Nat → Nat → Option Int) (L : Nat) (pr : Nat → Int)
variable {C L pr}
end
@[simp ↓] theorem wp_dwn (e : Ex) {σ : En} {S : Sto} {P : List D → Sto → Prop} {E : Str → Sto → Prop} : (dwnI e σ S).wp P E = (e σ S).wp (fun d S1 => ∃ j, d = .py (.int j) ∧ (-1 ≤ j ∧ j < 16777216) ∧ P (rngV 0 (j + 1).toNat).reverse S1) E := by
  unfold dwnI
  rw [wp_bind]
  congr 1
  funext d S1
  split
  · rename_i j
    rw [wp_iteR]
    split
    · rename_i h
      exact propext ⟨fun q => ⟨j, rfl, h, q⟩, fun ⟨i, e, _, q⟩ => by cases e; exact q⟩
    · rename_i h
      exact propext ⟨fun q => q.elim, fun ⟨i, e, z, q⟩ => by cases e; exact (h z).elim⟩
  · rename_i hn
    exact propext ⟨fun h => h.elim, fun ⟨z, e, _⟩ => (hn z e).elim⟩
section
variable (f : Face) (P : List Pair) (n : Int) (ws : List (List Nat))
end

end DV

set_option maxHeartbeats 4000000
namespace DV
open PySem
/-! Prices of the last words. -/
end DV

set_option maxHeartbeats 4000000
namespace DV
open PySem
/-! ### the law's own loop, where two defs make lambdas -/
end DV

set_option maxHeartbeats 4000000
namespace DV
open PySem
/-! Breaking, asked in five ways, of any text and any number. -/
structure Cutb (l : List Nat) : Prop where
  len : l.length ≤ 119
  short : ∀ w ∈ spl l, w.length ≤ 100
theorem Cutb.of {l : List Nat} (h : l.length ≤ 100) : Cutb l := ⟨by omega, fun w hw => Nat.le_trans ((spl_few l).2 w hw) h⟩
section
variable {f : Face} {P : List Pair} {l : List Nat} {x y : PyData}
theorem Cutb.small (c : Cutb l) (b : ∀ c ∈ f.lets, 97 ≤ c ∧ c ≤ 122) (h : ∀ c ∈ l, f.has c) : (∀ w ∈ spl l, (∀ c ∈ w, c ≤ 122) ∧ w.length ≤ 2000) ∧ (spl l).length ≤ 200 :=
  ⟨fun w hw => ⟨fun x hx => has122 b (h x ((spl_mem w hw).2 x hx)), by have := c.short w hw; omega⟩, by have := (spl_few l).1; have := c.len; omega⟩
/-! ### in five ways -/
end
end DV
namespace DV
open PySem
/-! ### blanks made double -/
end DV

set_option maxHeartbeats 4000000
namespace DV
open PySem
/-! A text with one letter in another one's stead; its lines. -/
/-! ### words drawn -/
/-! ### the text with the new letter -/
structure Swp (c o : Nat) (l m : List Nat) : Prop where
  map : m.map (stnd c o) = l
  mem : ∀ x ∈ m, x = c ∨ x ∈ l
/-! ### lines alike -/
end DV

set_option maxHeartbeats 4000000
namespace DV
open PySem
/-- the lines of a text, even ones and filled ones -/
structure Lks (f : Face) (P : List Pair) (n : Int) (ws : List (List Nat)) (E F : List (List Nat)) : Prop where
  ev : ∀ S, F_evened [.py f.py, .py (encP P), .py (tx (jn ws)), .py (.int n)] S = .ok (.py (.tuple (sts E))) S
  fi : ∀ S, F_filled [.py f.py, .py (encP P), .py (tx (jn ws)), .py (.int n)] S = .ok (.py (.tuple (sts F))) S
  je : jn E = jn ws
  jf : jn F = jn ws
  le : (∀ l ∈ E, l.length ≤ 10000) ∧ E.length ≤ 100
  lf : (∀ l ∈ F, l.length ≤ 10000) ∧ F.length ≤ 100
end DV

set_option maxHeartbeats 4000000
namespace DV
open PySem PySem.Spec PyProof.Rows L2
/-! a text in a text. -/
end DV

set_option maxHeartbeats 4000000
namespace DV
open PySem
theorem take2_zip {m : List Nat} {i a b : Nat} : (m.drop i).take 2 = [a, b] ↔ (m.zip (m.drop 1))[i]? = some (a, b) := by
  rw [List.getElem?_zip_eq_some, List.getElem?_drop]
  constructor
  · intro h
    have h0 := congrArg (fun l => l[0]?) h
    have h1 := congrArg (fun l => l[1]?) h
    simp [List.getElem?_take, List.getElem?_drop] at h0 h1
    exact ⟨h0, by rw [Nat.add_comm]; exact h1⟩
  · rintro ⟨h0, h1⟩
    obtain ⟨l0, e0⟩ := List.getElem?_eq_some_iff.mp h0
    obtain ⟨l1, e1⟩ := List.getElem?_eq_some_iff.mp h1
    rw [List.drop_eq_getElem_cons l0, List.drop_eq_getElem_cons (by omega : i + 1 < m.length)]
    simp only [List.take_succ_cons, List.take_zero]
    have e2 : m[i + 1] = b := by
      have : m[1 + i]'l1 = m[i + 1]'(by omega) := by congr 1; omega
      rw [← this, e1]
    rw [e0, e2]
theorem two_in (m : List Nat) (a b : Nat) : (!(Builtin.Str.occurrences (st m) (st [a, b]) 0 (st m).length 1).isEmpty) = decide ((a, b) ∈ m.zip (m.drop 1)) := by
  rw [Bool.eq_iff_iff, StrLaws.found_iff, decide_eq_true_iff, List.mem_iff_getElem?]
  have sub : ∀ i, Builtin.Str.subAt (st m) (st [a, b]) i = true ↔ (m.drop i).take 2 = [a, b] := fun i => by
    unfold Builtin.Str.subAt
    rw [beq_iff_eq]
    have e : (st m).cps.extract i (i + (st [a, b]).length) = ((m.drop i).take 2).toArray := by
      show m.toArray.extract i (i + 2) = _
      rw [List.extract_toArray]
      congr 1
      rw [List.extract_eq_take_drop]
      congr 1
      omega
    rw [e]
    constructor
    · intro h
      simpa using h
    · intro h
      rw [h]
  constructor
  · rintro ⟨i, _, h⟩
    exact ⟨i, take2_zip.mp ((sub i).mp h)⟩
  · rintro ⟨i, h⟩
    refine ⟨i, ?_, (sub i).mpr (take2_zip.mpr h)⟩
    rw [List.getElem?_zip_eq_some, List.getElem?_drop] at h
    have := (List.getElem?_eq_some_iff.mp h.2).1
    show i + 2 ≤ m.length
    omega
end DV

set_option maxHeartbeats 4000000
namespace DV
open PySem
/-! The pieces of the things that are handed in. -/
theorem replS_mem (y z : List Nat) : ∀ (l : List Nat) (s : Nat), ∀ c ∈ StrLaws.replS y z s l, c ∈ l ∨ c ∈ z
  | [], s, c, h => by cases s <;> simp [StrLaws.replS] at h
  | a :: r, 0, c, h => by
    rw [StrLaws.replS] at h
    split at h
    · rcases List.mem_append.mp h with h | h
      · exact .inr h
      · rcases replS_mem y z r _ c h with h | h
        · exact .inl (List.mem_cons_of_mem _ h)
        · exact .inr h
    · rcases List.mem_cons.mp h with rfl | h
      · exact .inl (by simp)
      · rcases replS_mem y z r 0 c h with h | h
        · exact .inl (List.mem_cons_of_mem _ h)
        · exact .inr h
  | a :: r, s + 1, c, h => by
    rw [StrLaws.replS] at h
    rcases replS_mem y z r s c h with h | h
    · exact .inl (List.mem_cons_of_mem _ h)
    · exact .inr h
theorem replT_tx {l : List Nat} {y z : Str} (hy : 1 ≤ y.length) : ∃ m, Txt.replace (st l) y z = st m ∧ m.length ≤ l.length + (l.length + 1) * z.length ∧ ∀ c ∈ m, c ∈ l ∨ c ∈ z.cps.toList := by
  have e := StrLaws.replace_list (x := st l) (z := z) hy
  refine ⟨(Txt.replace (st l) y z).cps.toList, ?_, ?_, fun c hc => ?_⟩
  · show _ = (⟨(Txt.replace (st l) y z).cps.toList.toArray⟩ : Str)
    rw [Array.toArray_toList]
  · have := TK.replace_len (st l) y z
    have h1 : (Txt.replace (st l) y z).cps.toList.length = (Txt.replace (st l) y z).length := Array.length_toList
    rw [h1]
    exact this
  · rw [e] at hc
    exact replS_mem _ _ _ _ c hc
theorem upper_tx {l : List Nat} (h : ∀ c ∈ l, c < 128) : Txt.upper (st l) = st (l.map PyProof.Rows.up1) := by
  rw [PyProof.Rows.upper_ascii (x := st l) (fun c hc => h c (by simpa using hc))]
  show (⟨l.toArray.map _⟩ : Str) = _
  simp
theorem up1_low (c : Nat) : PyProof.Rows.up1 c ≤ c := by unfold PyProof.Rows.up1; split <;> omega
/-- the signs of a face's text -/
theorem faceT_low {f : Face} (g : f.Good 1 10) : (∀ c ∈ faceT f, c ≤ 122) ∧ (faceT f).length ≤ 100 := by
  constructor
  · intro c hc
    rcases js_mem hc with q | ⟨w, hw, q⟩
    · simp at q; omega
    · rcases List.mem_cons.mp hw with rfl | hw
      · have := (num100 (i := f.w) ⟨by have := g.w0; omega, by have := g.w1; omega⟩).2.1 c q; omega
      · obtain ⟨p, hp, rfl⟩ := List.mem_map.mp hw
        have o := g.ok p hp
        have : c = p.1 ∨ c = 32 ∨ c ∈ numS p.2 := by simpa [wordF] using q
        rcases this with e | e | e
        · omega
        · omega
        · have := (num100 (i := p.2) (by omega)).2.1 c e; omega
  · have := js_le (sep := [32, 59, 32]) (ws := numS f.w :: f.ls.map wordF) (k := 5) (n := 11) (fun w hw' => by
      rcases List.mem_cons.mp hw' with rfl | hw'
      · have := (num100 (i := f.w) ⟨by have := g.w0; omega, by have := g.w1; omega⟩).1; omega
      · obtain ⟨p, hp, rfl⟩ := List.mem_map.mp hw'
        have o := g.ok p hp
        exact wordF_len (by omega)) (by have := g.hi; simp; omega)
    exact Nat.le_trans this (by simp)
theorem faceT_mark {f : Face} (g : f.Good 1 10) : ∃ i rest, Builtin.Str.occurrences (st (faceT f)) (st [32, 59]) 0 (st (faceT f)).length 1 = i :: rest := by
  obtain ⟨p, ps, hp⟩ : ∃ p ps, f.ls = p :: ps := by
    cases h : f.ls with
    | nil => have := g.lo; rw [h] at this; simp at this
    | cons a r => exact ⟨a, r, rfl⟩
  have e : ∃ r, faceT f = numS f.w ++ 32 :: 59 :: r := by
    unfold faceT
    rw [hp, List.map_cons]
    exact ⟨_, rfl⟩
  obtain ⟨r, er⟩ := e
  have hz : (32, 59) ∈ (faceT f).zip ((faceT f).drop 1) := by
    refine List.mem_iff_getElem?.mpr ⟨(numS f.w).length, ?_⟩
    rw [List.getElem?_zip_eq_some, List.getElem?_drop, er]
    constructor
    · rw [List.getElem?_append_right (Nat.le_refl _), Nat.sub_self]; rfl
    · rw [List.getElem?_append_right (by omega), show 1 + (numS f.w).length - (numS f.w).length = 1 by omega]; rfl
  have t := two_in (faceT f) 32 59
  rw [decide_eq_true hz] at t
  cases h : Builtin.Str.occurrences (st (faceT f)) (st [32, 59]) 0 (st (faceT f)).length 1 with
  | nil => rw [h] at t; simp at t
  | cons i rest => exact ⟨i, rest, rfl⟩
end DV

set_option maxHeartbeats 4000000
namespace DV.k76
open PySem DV
-- slots: 0 _law_script, 1 _law_k, 2 _law_box_here, 3 _law_face_here, 4 _law_text, 5 _law_things, 6 _law_eleven, 7 _law_more, 8 _law_turn, 9 _law_thing, 10 _law_held, 11 _law_place, 12 _law_letter
structure TxOk (m : List Nat) : Prop where
  low : ∀ c ∈ m, c < 1114112
  len : m.length ≤ 1000
structure Thg (d : PyData) : Prop where
  fit : FitX d 5 4000
  is : (∃ m, d = tx m ∧ TxOk m) ∨ isStr d = false
theorem thg_tx {m : List Nat} (h : TxOk m) : Thg (tx m) :=
  ⟨((Fit.str (x := st m) (n := 1000) (fun c hc => h.low c (by simpa using hc)) (by simpa using h.len)).x).mono (by decide) (by decide), .inl ⟨m, rfl, h⟩⟩
theorem thg_odd {p : PyData} (h1 : Short 100 p) (h2 : Low p) (h3 : FitX p 5 200) : Thg p := by
  refine ⟨h3.mono (by decide) (by decide), ?_⟩
  cases p with
  | str x =>
    have e1 := h2 x rfl
    have e2 := h1 x rfl
    refine .inl ⟨x.cps.toList, by show PyData.str x = .str ⟨x.cps.toList.toArray⟩; rw [Array.toArray_toList], fun c hc => by have := e1 c hc; omega, ?_⟩
    have : x.cps.toList.length = x.length := Array.length_toList
    omega
  | _ => exact .inr rfl
def el : List Nat := [107, 106, 105, 104, 103, 102, 101, 100, 99, 98, 97]
theorem el_st : Str.ofString "kjihgfedcba" = st el := by decide +kernel
def ele : List (Nat × Int) := el.zipIdx.map fun p => (p.1, 20 + (p.2 : Int))
theorem true_law (T : Nat) (ns : List Int) (h : ns.length ≤ 63) : ∃ S', F_law T [.py (.list (ns.map .int))] [.tab T "law.<locals>.<lambda>"] = .ok (.py (.bool true)) S' := by
  refine law_allT (n := 10) (c := 4) (by decide) (by decide) ?_
  intro k ys S n hB h0 n0 hy hk
  obtain ⟨y3, r3, rfl, h3⟩ := explode hy
  obtain ⟨y4, r4, rfl, h4⟩ := explode h3
  obtain ⟨y5, r5, rfl, h5⟩ := explode h4
  obtain ⟨y6, r6, rfl, h6⟩ := explode h5
  obtain ⟨y7, r7, rfl, h7⟩ := explode h6
  obtain ⟨y8, r8, rfl, h8⟩ := explode h7
  obtain ⟨y9, r9, rfl, h9⟩ := explode h8
  obtain ⟨y10, r10, rfl, h10⟩ := explode h9
  obtain ⟨y11, r11, rfl, h11⟩ := explode h10
  obtain ⟨y12, r12, rfl, h12⟩ := explode h11
  obtain rfl := nil_of h12
  have hn := hB.lt
  clear h3 h4 h5 h6 h7 h8 h9 h10 h11 h12 hy
  have tk : ∀ {T : Sto} (m : Int), Ch n S T → 0 < m → m < 1073741824 → (F_law_take [.obj n, .py (.int m)] T).wp (fun d S2 => ∃ r, d = .py (PyData.int r) ∧ (0 ≤ r ∧ r < m) ∧ Ch n T S2) noE := fun m c a b =>
    (take_ok c.box a b).to fun d S2 ⟨r, e, r0, r1, c2, _⟩ => ⟨r, e, ⟨r0, r1⟩, c2⟩
  simp

  refine (face_ok (n := n) (lo := 1) (hi := 10) hB (by decide) (by decide) (by decide)).to ?_
  rintro _ S1 ⟨f, rfl, gf, c1, _⟩
  have lo := gf.lo
  have hi := gf.hi
  have b122 : ∀ c ∈ f.lets, 97 ≤ c ∧ c ≤ 122 := fun c hc => gf.mem hc
  have b2 : ∀ c ∈ f.lets, c ≤ 122 := fun c hc => (b122 c hc).2
  have h200 : f.ls.length ≤ 200 := by omega
  have ft := fun T => faceT_of gf T
  have lft : ∀ T, F_law_face_text [.py f.py] T = .ok (.py (tx (faceT f))) T := fun T => faceT_of gf T
  obtain ⟨low, len⟩ := faceT_low gf
  have low' : ∀ c ∈ faceT f, c < 1114112 := fun c hc => by have := low c hc; omega
  have fr := fun T => face_read_any low' (by omega : (faceT f).length ≤ 1000) T
  rw [(found_face gf).1, resF_face gf] at fr
  simp only at fr
  have rT : ∀ {l : List Nat}, (∀ c ∈ l, c < 1114112) → l.length ≤ 1000 → ∀ T, reprD [.py (tx l)] T = .ok (.py (.str (tx l).shown)) T := fun {l} h1 h2 T =>
    (Fit.str (x := st l) (n := 1000) (fun c hc => h1 c (by simpa using hc)) (by simpa using h2)).repr (by decide) (by decide) T
  have rt := fun T => rT low' (by omega) T
  have rf := fun T => (face_fit gf h200).repr (by decide) (by decide) T
  have neS : ∀ (x : Str) T, neD (.py (.str x)) (.py (.str x)) T = .ok (.py (.bool false)) T := fun x T => by
    show DV.R.ok (D.py (.bool (!decide (x = x)))) T = _
    simp
  have i0 : ∀ T, itemD (.py f.py) (.py (.int 0)) T = .ok (.py (.int f.w)) T := fun T => itemD_tupleI (by decide) rfl
  have i1 : ∀ T, itemD (.py f.py) (.py (.int 1)) T = .ok (.py (.tuple (f.ls.map encL))) T := fun T => itemD_tupleI (by decide) rfl
  obtain ⟨l, hl⟩ : ∃ l, l = faceT f := ⟨_, rfl⟩
  have mk := faceT_mark gf
  rw [← hl] at ft lft fr rt mk low low' len
  simp [lft, q_law_0, ft, rt, fr, rf, neS, -wp_forL_cons]
  have z0 : Str.ofString "0" = st [48] := by decide +kernel
  have zs : Str.ofString " ;" = st [32, 59] := by decide +kernel
  have add : ∀ (u v : List Nat) T, u.length + v.length ≤ 2000 → addD (.py (tx u)) (.py (tx v)) T = .ok (.py (tx (u ++ v))) T := fun u v T h => add_tx h T
  have a1 : ∀ T, addD (.py (tx l)) (.py (.str (st [32]))) T = .ok (.py (tx (l ++ [32]))) T := fun T => add l [32] T (by simp; omega)
  have a2 : ∀ T, addD (.py (.str (st [32]))) (.py (tx l)) T = .ok (.py (tx ([32] ++ l))) T := fun T => add [32] l T (by simp; omega)
  have a3 : ∀ T, addD (.py (tx l)) (.py (.str (st [32, 59, 32]))) T = .ok (.py (tx (l ++ [32, 59, 32]))) T := fun T => add l [32, 59, 32] T (by simp; omega)
  have a4 : ∀ T, addD (.py (.str (st [48]))) (.py (tx l)) T = .ok (.py (tx ([48] ++ l))) T := fun T => add [48] l T (by simp; omega)
  have a5 : ∀ T, addD (.py (.str (st [45]))) (.py (tx l)) T = .ok (.py (tx ([45] ++ l))) T := fun T => add [45] l T (by simp; omega)
  have rp : ∀ (z : Str), z.length ≤ 5 → (∀ c ∈ z.cps.toList, c ≤ 122) → ∃ m, TxOk m ∧ ∀ T, replD (st [32, 59, 32]) z (.py (tx l)) T = .ok (.py (tx m)) T := fun z hz hz2 => by
    obtain ⟨m, e, hm, hcm⟩ := replT_tx (l := l) (y := st [32, 59, 32]) (z := z) (by decide)
    have hb : (l.length + 1) * z.length ≤ 101 * 5 := Nat.mul_le_mul (by omega) hz
    refine ⟨m, ⟨fun c hc => ?_, by omega⟩, fun T => ?_⟩
    · rcases hcm c hc with h | h
      · exact low' c h
      · have := hz2 c h; omega
    · show (if _ then R.ok (D.py (.str (Txt.replace (st l) (st [32, 59, 32]) z))) T else _) = _
      rw [if_pos (by show l.length + (l.length + 1) * z.length ≤ _; omega), e]
  obtain ⟨m1, k1, r1⟩ := rp (Str.ofString ";") (by decide +kernel) (by decide +kernel)
  obtain ⟨m2, k2, r2⟩ := rp (Str.ofString " ;  ") (by decide +kernel) (by decide +kernel)
  obtain ⟨i, rest, ho⟩ := mk
  have sx : ∀ T, sindexD (.py (tx l)) [.py (.str (st [32, 59]))] T = .ok (.py (.int (i : Nat))) T := fun T => by
    show (match Builtin.Str.occurrences (st l) (st [32, 59]) 0 (st l).length 1 with | i :: _ => _ | [] => _) = _
    rw [ho]
  have sli : ∀ T, sliceV (.py (tx l)) (some (i : Int)) none T = .ok (.py (tx (l.drop i))) T := fun T => sl_tx_from (w := l) (n := i) (by omega) T
  have a6 : ∀ T, addD (.py (tx l)) (.py (tx (l.drop i))) T = .ok (.py (tx (l ++ l.drop i))) T := fun T => add l (l.drop i) T (by rw [List.length_drop]; omega)
  have up : ∀ T, upperD (.py (tx l)) [] T = .ok (.py (tx (l.map PyProof.Rows.up1))) T := fun T => by
    have e := upper_tx (l := l) fun c hc => by have := low c hc; omega
    show (if _ then R.ok (D.py (.str (Txt.upper (st l)))) T else _) = _
    rw [if_pos (by show l.length ≤ _; omega), e]
  have ls : ∀ T, listD [.py (tx l)] T = .ok ((l.map lt).map D.py) T := fun T => by
    rw [listD_str (by rw [sl_big']; show l.length ≤ _; omega), List.map_map]
    rfl
  obtain ⟨ll, hll⟩ : ∃ ll, ll = l.map lt := ⟨_, rfl⟩
  rw [← hll] at ls
  rw [blank_sx, semi_st, z0, dash_st, zs, el_st]
  simp [a1, a2, a3, a4, a5, r1, r2, sx, sli, a6, up, ls, pysOf, -List.map_drop, -List.cons_append, -List.nil_append, -wp_forL_cons]
  refine ⟨_, lstOf_last, by rw [sl_big']; simp, _, pw_tx (l := el) (by decide) _, ?_⟩
  obtain ⟨ds0, hds⟩ : ∃ ds, ds = [tx l, tx (l ++ [32]), tx (32 :: l), tx (l ++ [32, 59, 32]), tx (48 :: l), tx (45 :: l), tx m1, tx (l ++ List.drop i l), tx m2, tx (List.map PyProof.Rows.up1 l), .list ll] := ⟨_, rfl⟩
  have tok : TxOk l := ⟨low', by omega⟩
  have tc : ∀ (u : List Nat), (∀ c ∈ u, c < 1114112) → u.length ≤ 1000 → TxOk u := fun u h1 h2 => ⟨h1, h2⟩
  have hT0 : ∀ d ∈ ds0, Thg d := fun d hd => by
    rw [hds] at hd
    simp only [List.mem_cons, List.not_mem_nil, or_false] at hd
    rcases hd with rfl | rfl | rfl | rfl | rfl | rfl | rfl | rfl | rfl | rfl | rfl
    · exact thg_tx tok
    · refine thg_tx (tc _ (fun c hc => ?_) (by simp; omega))
      rcases List.mem_append.mp hc with h | h
      · exact low' c h
      · simp at h; omega
    · refine thg_tx (tc _ (fun c hc => ?_) (by simp; omega))
      rcases List.mem_cons.mp hc with h | h
      · omega
      · exact low' c h
    · refine thg_tx (tc _ (fun c hc => ?_) (by simp; omega))
      rcases List.mem_append.mp hc with h | h
      · exact low' c h
      · simp at h; omega
    · refine thg_tx (tc _ (fun c hc => ?_) (by simp; omega))
      rcases List.mem_cons.mp hc with h | h
      · omega
      · exact low' c h
    · refine thg_tx (tc _ (fun c hc => ?_) (by simp; omega))
      rcases List.mem_cons.mp hc with h | h
      · omega
      · exact low' c h
    · exact thg_tx k1
    · refine thg_tx (tc _ (fun c hc => ?_) (by simp; omega))
      rcases List.mem_append.mp hc with h | h
      · exact low' c h
      · exact low' c (List.mem_of_mem_drop h)
    · exact thg_tx k2
    · refine thg_tx (tc _ (fun c hc => ?_) (by simp; omega))
      obtain ⟨x, hx, rfl⟩ := List.mem_map.mp hc
      have := up1_low x
      have := low x hx
      omega
    · refine ⟨((Fit.listN (k := 0) (w := 1) (m := 100) (fun d hd => ?_) (by rw [hll]; simpa using len)).x).mono (by decide) (by decide), .inr rfl⟩
      rw [hll] at hd
      obtain ⟨c, hc, rfl⟩ := List.mem_map.mp hd
      exact Fit.lt (low' c hc)
  have ld : ds0.length = 11 := by rw [hds]; rfl
  have c1' : Ch n S S1 := c1
  have eS : ∀ xs : List D, xs = [D.py (tx l), D.py (tx (l ++ [32])), D.py (tx (32 :: l)), D.py (tx (l ++ [32, 59, 32])), D.py (tx (48 :: l)), D.py (tx (45 :: l)), D.py (tx m1)] → xs ++ [D.py (tx (l ++ List.drop i l)), D.py (tx m2), D.py (tx (List.map PyProof.Rows.up1 l)), D.py (PyData.list ll)] = ds0.map D.py := fun xs e => by rw [e, hds]; rfl
  rw [eS _ rfl]
  obtain ⟨Z, hZ⟩ : ∃ Z, Z = [D.py (tx l), D.py (tx (l ++ [32])), D.py (tx (32 :: l)), D.py (tx (l ++ [32, 59, 32])), D.py (tx (48 :: l)), D.py (tx (45 :: l)), D.py (tx m1)] := ⟨_, rfl⟩
  rw [← hZ]
  have cA : Ch n S (S1 ++ [O.lst Z, O.lst (ds0.map D.py)]) := c1.trans (Ch.app c1.box)
  have hA : (S1 ++ [O.lst Z, O.lst (ds0.map D.py)])[S1.length + 1]? = some (.lst (ds0.map D.py)) := by simp
  have hlen := c1.le
  generalize S1 ++ [O.lst Z, O.lst (ds0.map D.py)] = SA at *
  obtain ⟨m0, hm0⟩ : ∃ m0, m0 = S1.length + 1 := ⟨_, rfl⟩
  rw [← hm0] at hA ⊢
  have hmS : S.length ≤ m0 := by omega
  have ez : ((el.map lt).zipIdx.map fun p => D.py (.tuple [.int (p.2 : Nat), p.1])) = el.zipIdx.map fun p => D.py (.tuple [.int (p.2 : Nat), lt p.1]) := rfl
  rw [ez]
  refine wp_pureM (fun p : Nat × Nat => D.py (.tuple [.int (p.2 : Nat), lt p.1])) (fun _ => true) (fun p => D.py (encL (p.1, 20 + (p.2 : Int)))) (fun p hp => by simp [encL, pysOf]) ?_
  rw [List.filter_eq_self.mpr fun _ _ => rfl]
  have ee : (el.zipIdx.map fun p => D.py (encL (p.1, 20 + (p.2 : Int)))) = (ele.map encL).map D.py := rfl
  rw [ee, pysOf_map]
  simp only
  have za : Str.ofString "a" = st [97] := by decide +kernel
  have zb : Str.ofString "b" = st [98] := by decide +kernel
  have at4 : ∀ T, addD (.py (.tuple (f.ls.map encL))) (.py (.tuple [.tuple [.str (st [97]), .int 9], .tuple [.str (st [98]), .int 100]])) T = .ok (.py (.tuple ((f.ls ++ [(97, 9), (98, 100)]).map encL))) T := fun T => by
    have := add_tup (a := f.ls.map encL) (b := [.tuple [.str (st [97]), .int 9], .tuple [.str (st [98]), .int 100]]) (by simp; omega) T
    rw [this, List.map_append]
    rfl
  obtain ⟨Fs, hFs⟩ : ∃ Fs : List Face, Fs = [⟨100, f.ls⟩, ⟨0, f.ls⟩, ⟨f.w, f.ls ++ [(97, 9), (98, 100)]⟩, ⟨20, ele⟩] := ⟨_, rfl⟩
  have gF : ∀ g ∈ Fs, ∃ m, TxOk m ∧ ∀ T, F_law_face_text [.py g.py] T = .ok (.py (tx m)) T := fun g hg => by
    have key : ∀ g : Face, (0 ≤ g.w ∧ g.w ≤ 100) → g.ls.length ≤ 20 → (∀ p ∈ g.ls, (0 ≤ p.2 ∧ p.2 ≤ 100) ∧ p.1 ≤ 122) → ∃ m, TxOk m ∧ ∀ T, F_law_face_text [.py g.py] T = .ok (.py (tx m)) T := fun g h1 h2 h3 => by
      refine ⟨faceT g, ⟨fun c hc => ?_, ?_⟩, fun T => law_face_text_eq h1 h2 (fun p hp => (h3 p hp).1) T⟩
      · rcases js_mem hc with q | ⟨w, hw, q⟩
        · simp at q; omega
        · rcases List.mem_cons.mp hw with rfl | hw
          · have := (num100 h1).2.1 c q; omega
          · obtain ⟨p, hp, rfl⟩ := List.mem_map.mp hw
            have o := h3 p hp
            have : c = p.1 ∨ c = 32 ∨ c ∈ numS p.2 := by simpa [wordF] using q
            rcases this with e | e | e
            · omega
            · omega
            · have := (num100 o.1).2.1 c e; omega
      · have := js_le (sep := [32, 59, 32]) (ws := numS g.w :: g.ls.map wordF) (k := 5) (n := 21) (fun w hw' => by
          rcases List.mem_cons.mp hw' with rfl | hw'
          · have := (num100 h1).1; omega
          · obtain ⟨p, hp, rfl⟩ := List.mem_map.mp hw'
            exact wordF_len (h3 p hp).1) (by simp; omega)
        exact Nat.le_trans this (by simp)
    have fo : ∀ p ∈ f.ls, (0 ≤ p.2 ∧ p.2 ≤ 100) ∧ p.1 ≤ 122 := fun p hp => by have := gf.ok p hp; omega
    rw [hFs] at hg
    simp only [List.mem_cons, List.not_mem_nil, or_false] at hg
    rcases hg with rfl | rfl | rfl | rfl
    · exact key _ (by show (0 : Int) ≤ 100 ∧ (100 : Int) ≤ 100; omega) (by show f.ls.length ≤ 20; omega) fo
    · exact key _ (by show (0 : Int) ≤ 0 ∧ (0 : Int) ≤ 100; omega) (by show f.ls.length ≤ 20; omega) fo
    · refine key _ ⟨by have := gf.w0; show 0 ≤ f.w; omega, by have := gf.w1; show f.w ≤ 100; omega⟩ (by show (f.ls ++ [(97, 9), (98, 100)]).length ≤ 20; simp; omega) fun p hp => ?_
      rcases List.mem_append.mp hp with h | h
      · exact fo p h
      · simp only [List.mem_cons, List.not_mem_nil, or_false] at h
        rcases h with rfl | rfl <;> decide
    · refine key _ (by decide) (by decide) ?_
      decide
  simp only [q_law_1, za, zb]
  simp [i0, i1, at4, pysOf, -wp_forL_cons, -List.map_append]
  have eF : [D.py (PyData.tuple [PyData.int 100, PyData.tuple (List.map encL f.ls)]), D.py (PyData.tuple [PyData.int 0, PyData.tuple (List.map encL f.ls)]), D.py (PyData.tuple [PyData.int f.w, PyData.tuple (List.map encL (f.ls ++ [(97, 9), (98, 100)]))]), D.py (PyData.tuple [PyData.int 20, PyData.tuple (List.map encL ele)])] = Fs.map fun g => D.py g.py := by rw [hFs]; rfl
  rw [eF]
  have lF : Fs.length = 4 := by rw [hFs]; rfl
  have put : ∀ {T' : Sto} {ds : List PyData} {d : PyData} {cnt : Nat}, Ch n S T' → T'[m0]? = some (.lst (ds.map D.py)) → (∀ x ∈ ds, Thg x) → ds.length ≤ cnt → cnt ≤ 1000 → Thg d → ∃ U, appendD (.obj m0) [.py d] T' = .ok (.py .none) U ∧ Ch n S U ∧ ∃ es : List PyData, U[m0]? = some (.lst (es.map D.py)) ∧ (∀ x ∈ es, Thg x) ∧ es.length ≤ cnt + 1 := fun {T' ds d cnt} c ht hd hl hc hd' => by
    have ap := appendD_obj (d := .py d) ht (by rw [List.length_map, sl_big']; omega)
    refine ⟨_, ap, c.own hmS hn, ds ++ [d], ?_, fun x hx => ?_, by simp; omega⟩
    · rw [List.getElem?_set_self (List.getElem?_eq_some_iff.mp ht).1]
      simp
    · rcases List.mem_append.mp hx with h | h
      · exact hd x h
      · have : x = d := by simpa using h
        rw [this]
        exact hd'
  refine wp_forM (fun g : Face => D.py g.py) (fun (pre : List Face) σ T' => wipeD σ [7] = wipeD [some (D.py (PyData.list (List.map PyData.int ns))), some (D.py (PyData.int ↑k)), some (D.obj n), some (D.py f.py), some (D.py (tx l)), some (D.obj m0), some (D.py (PyData.tuple (List.map encL ele))), y7, y8, y9, y10, y11, y12] [7] ∧ Ch n S T' ∧
      ∃ ds : List PyData, T'[m0]? = some (.lst (ds.map D.py)) ∧ (∀ x ∈ ds, Thg x) ∧ ds.length ≤ 11 + pre.length) ⟨rfl, cA, ds0, hA, hT0, by omega⟩ ?_ ?_
  · rintro pre g post σ T1 e ⟨hσ, cT, ds, tT, hd, hl'⟩
    obtain ⟨_, rfl⟩ := slot_any hσ
    clear hσ
    obtain ⟨m, hm, em⟩ := gF g (by rw [e]; simp)
    have lp : pre.length ≤ 4 := by
      have := congrArg List.length e
      simp at this
      omega
    obtain ⟨U, eU, cU, es, h1, h2, h3⟩ := put cT tT hd hl' (by omega) (thg_tx hm)
    simp [em, lsOk_obj tT, eU]
    exact ⟨cU, es, h1, h2, by omega⟩
  rintro σ T1 ⟨hσ, cT1, ds1, tT1, hd1, hl1⟩
  obtain ⟨v7, rfl⟩ := slot_any hσ
  clear hσ
  rw [lF] at hl1
  simp [q_law_2, -wp_forL_cons]
  refine wp_forL (fun pre σ T' => wipeD σ [8] = wipeD [some (D.py (PyData.list (List.map PyData.int ns))), some (D.py (PyData.int ↑k)), some (D.obj n), some (D.py f.py), some (D.py (tx l)), some (D.obj m0), some (D.py (PyData.tuple (List.map encL ele))), v7, y8, y9, y10, y11, y12] [8] ∧ Ch n S T' ∧
      ∃ ds : List PyData, T'[m0]? = some (.lst (ds.map D.py)) ∧ (∀ x ∈ ds, Thg x) ∧ ds.length ≤ 15 + pre.length) ⟨rfl, cT1, ds1, tT1, hd1, by simpa using hl1⟩ ?_ ?_
  · rintro pre g post σ T2 e ⟨hσ, cT, ds, tT, hd, hl'⟩
    obtain ⟨_, rfl⟩ := slot_any hσ
    clear hσ
    have lp : pre.length ≤ 16 := by
      have := congrArg List.length e
      simp [rngV] at this
      omega
    simp [lsOk_obj tT]
    refine (law_bent_ok (n := n) (l := l) cT.box (by omega)).to ?_
    rintro _ T3 ⟨m, rfl, bm, c3⟩
    have tT3 := c3.at_ tT (by omega)
    have hm : TxOk m := ⟨fun c hc => by
      rcases bm.low c hc with h | h
      · exact low' c h
      · omega, by have := bm.len; omega⟩
    obtain ⟨U, eU, cU, es, h1, h2, h3⟩ := put (cT.trans c3) tT3 hd hl' (by omega) (thg_tx hm)
    simp [eU]
    exact ⟨cU, es, h1, h2, by omega⟩
  rintro σ T2 ⟨hσ, cT2, ds2, tT2, hd2, hl2⟩
  obtain ⟨v8, rfl⟩ := slot_any hσ
  clear hσ
  have hl2 : ds2.length ≤ 31 := by simpa [rngV] using hl2
  refine fix_own (m := m0) (ds := ds2) rfl tT2 ?_
  have cU : Ch n S (T2.set m0 .gone) := cT2.own hmS hn
  generalize T2.set m0 .gone = U at *
  simp [q_law_4, -wp_forL_cons]
  refine (law_odd_ok (n := n) cU.box b2 (by omega) h200).to ?_
  rintro _ S5 ⟨p, rfl, p1, p2, p3, c5⟩
  refine (law_odd_ok (n := n) c5.box b2 (by omega) h200).to ?_
  rintro _ S6 ⟨q, rfl, q1, q2, q3, c6⟩
  have cV := (cU.trans c5).trans c6
  have adl : ∀ T, addD (.py (.list ds2)) (.py (.list [p, q])) T = .ok (.py (.list (ds2 ++ [p, q]))) T := fun T => add_lst2 (by rw [sl_big']; simp; omega) T
  simp [pysOf, adl, -List.map_append, -wp_forL_cons]
  have h06 := cV.at_ h0 (Ne.symm n0)
  have wl : words_.lookup (Str.ofString "NoText") = some (Str.ofString "! text") := by decide +kernel
  have hall : ∀ x ∈ ds2 ++ [p, q], Thg x := fun x hx => by
    rcases List.mem_append.mp hx with h | h
    · exact hd2 x h
    · simp only [List.mem_cons, List.not_mem_nil, or_false] at h
      rcases h with rfl | rfl
      · exact thg_odd p1 p2 p3
      · exact thg_odd q1 q2 q3
  refine wp_forM D.py (fun _ σ T' => wipeD σ [9, 10] = wipeD [some (D.py (PyData.list (List.map PyData.int ns))), some (D.py (PyData.int ↑k)), some (D.obj n), some (D.py f.py), some (D.py (tx l)), some (D.py (PyData.list ds2)), some (D.py (PyData.tuple (List.map encL ele))), v7, v8, y9, y10, y11, y12] [9, 10] ∧ T' = S6) ⟨rfl, rfl⟩ ?_ ?_
  · rintro pre x post σ T3 e ⟨hσ, rfl⟩
    obtain ⟨_, _, rfl⟩ := slot2 hσ
    clear hσ
    have tx' := hall x (by rw [e]; simp)
    have rx := tx'.fit.repr (by decide) (by decide)
    rcases tx'.is with ⟨m, rfl, hm⟩ | ho
    · have fm := fun T => face_read_any hm.low hm.len T
      have du := fun T => law_due2_any hm.low hm.len T
      rw [← res_same m] at du
      cases hr : resF (foundP m) m with
      | none =>
        rw [hr] at fm du
        simp [rx, q_law_3, wp_said h06, fm, du, wl, neS]
      | some d =>
        rw [hr] at fm du
        have hd : ∃ g : Face, g.Good 1 10 ∧ d = g.py := by
          unfold resF at hr
          split at hr
          · rename_i hh
            cases hr
            obtain ⟨g, gg, eg⟩ := isFace_py hh.1
            exact ⟨g, gg, eg⟩
          · cases hr
        obtain ⟨g, gg, rfl⟩ := hd
        have rg := fun T => (face_fit gg (by have := gg.hi; omega)).repr (by decide) (by decide) T
        simp [rx, q_law_3, wp_said h06, fm, du, rg, neS]
    · have fo := fun T => face_read_odd ho T
      have du := fun T => law_due2_odd ho T
      simp [rx, q_law_3, wp_said h06, fo, du, wl, neS]
  · rintro σ T3 ⟨hσ, rfl⟩
    obtain ⟨_, _, rfl⟩ := slot2 hσ
    exact ⟨.mk rfl, cV⟩
end DV.k76

open PySem PySem.W PyProof.Rows
set_option maxHeartbeats 0 in
theorem PySem.Challenge.cw_stampgaps_k76_faces_written_and_read_holds : PySem.Challenge.rw_stampgaps_k76_faces_written_and_read.Holds := by
  w_on; o_law; k_head; (case hw => w_witness2)
  k_fill
  refine DV.walk_ofT (l := PySem.Challenge.rw_stampgaps_k76_faces_written_and_read) (n := 63) (k := 8) (x := "_law_script") (F := DV.k76.F_law) (qn := "law.<locals>.<lambda>") (cL := ?cL) rfl (by decide) rfl ⟨rfl, by decide, by decide⟩ (fun w h Y => ⟨PySem.W.km_in_of Y, PySem.W.km_tabs_of Y _ (List.mem_cons_self ..)⟩) ?ntb ?cdh ?F DV.k76.true_law
  case F =>
    intro w mg fa h KX G hmg
    refine' DV.k76.all_mk KX G hmg ?a0 ?l0 ?c0 ?k0 ?a1 ?l1 ?c1 ?k1 ?a2 ?l2 ?c2 ?k2 ?a3 ?l3 ?c3 ?k3 ?a4 ?l4 ?c4 ?k4 ?a5 ?l5 ?c5 ?k5 ?a6 ?l6 ?c6 ?k6 ?a7 ?l7 ?c7 ?k7 ?a8 ?l8 ?c8 ?k8 ?a9 ?l9 ?c9 ?k9 ?a10 ?l10 ?c10 ?k10 ?a11 ?l11 ?c11 ?k11 ?a12 ?l12 ?c12 ?k12 ?a13 ?l13 ?c13 ?k13 ?a14 ?l14 ?c14 ?k14 ?a15 ?l15 ?c15 ?k15 ?a16 ?l16 ?c16 ?k16 ?a17 ?l17 ?c17 ?k17 ?a18 ?l18 ?c18 ?k18 ?a19 ?l19 ?c19 ?k19 ?a20 ?l20 ?c20 ?k20 ?a21 ?l21 ?c21 ?k21 ?xa_NoText ?h1_NoText ?q1_NoText ?q2_NoText ?q3_NoText ?q4_NoText ?h2_NoText ?q5_NoText ?n1_NoText ?h3_NoText ?q6_NoText ?h4_NoText ?q7_NoText ?n2_NoText ?xk_NoText ?xb_NoText ?xt_NoText ?xa_NoLetter ?xa_NoGap ?xa_NoRows ?xa_NoParting ?xa_NoTable ?xa_NoOpen ?xa_NoLine ?xa_NoPiece ?xa_NoNumber ?xa_NoDeed ?xa_NoWord ?xa_Clash ?xa_Kept ?xa_TooWide ?xa_TooMany ?xa_GapError ?e0_NoText ?e1_NoText ?e2_NoText ?e3_NoText ?e4_NoText ?e5_NoText ?e6_NoText ?e7_NoText ?kt_NoText_NoLetter ?kt_NoText_NoGap ?kt_NoText_NoRows ?kt_NoText_NoParting ?kt_NoText_NoTable ?kt_NoText_NoOpen ?kt_NoText_NoLine ?kt_NoText_NoPiece ?kt_NoText_NoNumber ?kt_NoText_NoDeed ?kt_NoText_NoText ?kt_NoText_NoWord ?kt_NoText_Clash ?kt_NoText_Kept ?kt_NoText_TooWide ?kt_NoText_TooMany ?kv_NoText ?hx_NoText ?zc_LETTERS ?zc_MOST_LETTERS ?zc_FIGURES ?z_isinstance ?z_int ?z_bool ?z_str ?z_len ?z_tuple ?z_set ?z_all ?z_abs ?z_divmod ?z_list ?z_range ?z_repr ?z_min ?z_max ?z_enumerate ?z_ValueError
    (case a0 => k_is); (case l0 => k_is); (case c0 => k_is); (case k0 => k_is); (case a1 => k_is); (case l1 => k_is); (case c1 => k_is); (case k1 => k_is); (case a2 => k_is); (case l2 => k_is); (case c2 => k_is); (case k2 => k_is); (case a3 => k_is); (case l3 => k_is); (case c3 => k_is); (case k3 => k_is); (case a4 => k_is); (case l4 => k_is); (case c4 => k_is); (case k4 => k_is); (case a5 => k_is); (case l5 => k_is); (case c5 => k_is); (case k5 => k_is); (case a6 => k_is); (case l6 => k_is); (case c6 => k_is); (case k6 => k_is); (case a7 => k_is); (case l7 => k_is); (case c7 => k_is); (case k7 => k_is); (case a8 => k_is); (case l8 => k_is); (case c8 => k_is); (case k8 => k_is); (case a9 => k_is); (case l9 => k_is); (case c9 => k_is); (case k9 => k_is); (case a10 => k_is); (case l10 => k_is); (case c10 => k_is); (case k10 => k_is); (case a11 => k_is); (case l11 => k_is); (case c11 => k_is); (case k11 => k_is); (case a12 => k_is); (case l12 => k_is); (case c12 => k_is); (case k12 => k_is); (case a13 => k_is); (case l13 => k_is); (case c13 => k_is); (case k13 => k_is); (case a14 => k_is); (case l14 => k_is); (case c14 => k_is); (case k14 => k_is); (case a15 => k_is); (case l15 => k_is); (case c15 => k_is); (case k15 => k_is); (case a16 => k_is); (case l16 => k_is); (case c16 => k_is); (case k16 => k_is); (case a17 => k_is); (case l17 => k_is); (case c17 => k_is); (case k17 => k_is); (case a18 => k_is); (case l18 => k_is); (case c18 => k_is); (case k18 => k_is); (case a19 => k_is); (case l19 => k_is); (case c19 => k_is); (case k19 => k_is); (case a20 => k_is); (case l20 => k_is); (case c20 => k_is); (case k20 => k_is); (case a21 => k_is); (case l21 => k_is); (case c21 => k_is); (case k21 => k_is); (case xa_NoText => k_is); (case h1_NoText => k_is); (case q1_NoText => exact rfl); (case q2_NoText => exact rfl); (case q3_NoText => exact rfl); (case q4_NoText => exact rfl); (case h2_NoText => k_is); (case q5_NoText => exact rfl); (case n1_NoText => k_is); (case h3_NoText => k_is); (case q6_NoText => exact rfl); (case h4_NoText => k_is); (case q7_NoText => exact rfl); (case n2_NoText => k_is); (case xk_NoText => k_is); (case xb_NoText => k_is); (case xt_NoText => k_is); (case xa_NoLetter => k_is); (case xa_NoGap => k_is); (case xa_NoRows => k_is); (case xa_NoParting => k_is); (case xa_NoTable => k_is); (case xa_NoOpen => k_is); (case xa_NoLine => k_is); (case xa_NoPiece => k_is); (case xa_NoNumber => k_is); (case xa_NoDeed => k_is); (case xa_NoWord => k_is); (case xa_Clash => k_is); (case xa_Kept => k_is); (case xa_TooWide => k_is); (case xa_TooMany => k_is); (case xa_GapError => k_is); (case e0_NoText => k_is); (case e1_NoText => k_is); (case e2_NoText => k_is); (case e3_NoText => k_is); (case e4_NoText => k_is); (case e5_NoText => k_is); (case e6_NoText => k_is); (case e7_NoText => k_is); (case kt_NoText_NoLetter => kit_is); (case kt_NoText_NoGap => kit_is); (case kt_NoText_NoRows => kit_is); (case kt_NoText_NoParting => kit_is); (case kt_NoText_NoTable => kit_is); (case kt_NoText_NoOpen => kit_is); (case kt_NoText_NoLine => kit_is); (case kt_NoText_NoPiece => kit_is); (case kt_NoText_NoNumber => kit_is); (case kt_NoText_NoDeed => kit_is); (case kt_NoText_NoText => kit_is); (case kt_NoText_NoWord => kit_is); (case kt_NoText_Clash => kit_is); (case kt_NoText_Kept => kit_is); (case kt_NoText_TooWide => kit_is); (case kt_NoText_TooMany => kit_is); (case kv_NoText => kit_is); (case hx_NoText => kts_exm); (case zc_LETTERS => k_is); (case zc_MOST_LETTERS => k_is); (case zc_FIGURES => k_is); (case z_isinstance => k_is); (case z_int => k_is); (case z_bool => k_is); (case z_str => k_is); (case z_len => k_is); (case z_tuple => k_is); (case z_set => k_is); (case z_all => k_is); (case z_abs => k_is); (case z_divmod => k_is); (case z_list => k_is); (case z_range => k_is); (case z_repr => k_is); (case z_min => k_is); (case z_max => k_is); (case z_enumerate => k_is); (case z_ValueError => k_is)
  case ntb => intro w; exact rfl
  case cdh => intro w; exact rfl
