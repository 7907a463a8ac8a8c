import PyProof.Rows.All
import Wide.All
import OpenK.AllK
import Wide.FinOn
import HandS.ForMost
import HandS.ForExc
import HandS.IsInst
import HandS.Zip
import HandS.Lambda
import HandS.TupAny
import HandS.TupLe
import HandS.Deep
import HandS.RevRange
import HandS.Rev
import HandS.Conv
import HandS.NoneIn
import HandS.CallLocal
import HandS.WideBits
import HandS.Flow
import HandS.More
import KE.GoesNew
import KE.GoesMore
import HandS.Dict
import PyProof.NeKinds
import PyProof.EqKinds
import PyProof.EqAt
import HandS.TupMul
import HandS.SortInts
import HandS.ExcOwn
import HandS.ExcValue
import HandS.Style
import HandS.Sort
import KE.DataCmp
import HandS.ExcIs
import HandS.HotCalls
import PyProof.StrOps2
import PyProof.Rows.StrRev
import PyProof.SetRoads
import HandS.Strs
import HandS.TupSets
import KE.DataMinMax
import KE.KTupSum
import KE.SortKeyed
import KE.SortData
import HandS.SetFor
import KE.KDictPairs
import HandS.Text
import PySem.Challenge.RW_stampgaps_k53_which_refusal_of_kinds
set_option Elab.async false
set_option linter.all false
set_option maxRecDepth 100000
set_option maxHeartbeats 4000000
/-! Data-level meaning of the programs: values by data, lists that are changed by their number in a store. -/
namespace DV
open PySem

inductive D where
  | py (d : PyData)
  | obj (n : Nat)
  /-- the thing at an address, of which nothing is told -/
  | raw (a : Nat)
inductive O where
  | lst (ds : List D)
  | gone
  /-- the law's table of code objects stands at P, each of them bears the name q (number 0 alone) -/
  | tab (P : Nat) (q : Str)
  /-- a dict with tuple keys, one with plain keys -/
  | dt (kvs : List (List (Sum Int Str) × PyData))
  | dk (kvs : List (Sum Int Str × PyData))
  /-- an instance of a class of the module; a tuple in which there are things of the store -/
  | ins (c : Str) (fs : List (Str × D))
  | tpl (ds : List D)
abbrev Sto := List O
inductive R (α : Type) where
  | ok (a : α) (S : Sto)
  | ex (c : Str) (S : Sto)
  | no
abbrev En := List (Option D)
abbrev Ex := En → Sto → R D
abbrev Tx := En → Sto → R Bool
abbrev Ax := En → Sto → R (List D)
inductive F where
  | nx (σ : En) (S : Sto)
  | rt (d : D) (S : Sto)
  | bk (σ : En) (S : Sto)
  | ct (σ : En) (S : Sto)
  | ex (c : Str) (S : Sto)
  | no
abbrev Sx := En → Sto → F
/-- a target -/
abbrev Tg := D → En → Sto → R En

def R.bind {α β : Type} (r : R α) (k : α → Sto → R β) : R β :=
  match r with
  | .ok a S => k a S
  | .ex c S => .ex c S
  | .no => .no
def R.run {α : Type} (r : R α) (k : α → Sto → F) : F :=
  match r with
  | .ok a S => k a S
  | .ex c S => .ex c S
  | .no => .no
@[simp] theorem bind_ok {α β : Type} (a : α) (S : Sto) (k : α → Sto → R β) : (R.ok a S).bind k = k a S := rfl
@[simp] theorem bind_ex {α β : Type} (c : Str) (S : Sto) (k : α → Sto → R β) : (R.ex c S : R α).bind k = .ex c S := rfl
@[simp] theorem bind_no {α β : Type} (k : α → Sto → R β) : (R.no : R α).bind k = .no := rfl
@[simp] theorem run_ok {α : Type} (a : α) (S : Sto) (k : α → Sto → F) : (R.ok a S).run k = k a S := rfl
@[simp] theorem run_ex {α : Type} (c : Str) (S : Sto) (k : α → Sto → F) : (R.ex c S : R α).run k = .ex c S := rfl
@[simp] theorem run_no {α : Type} (k : α → Sto → F) : (R.no : R α).run k = .no := rfl

/-! ### sequences -/
def pysOf : List D → Option (List PyData)
  | [] => some []
  | d :: ds => match d, pysOf ds with
    | .py p, some ps => some (p :: ps)
    | _, _ => none
def seqOf (S : Sto) : D → Option (List D)
  | .py (.list ds) => some (ds.map .py)
  | .py (.tuple ds) => some (ds.map .py)
  | .obj n => match S[n]? with
    | some (.lst ds) => some ds
    | _ => none
  | _ => none
@[simp] theorem pysOf_nil : pysOf [] = some [] := rfl
@[simp] theorem pysOf_map (ds : List PyData) : pysOf (ds.map D.py) = some ds := by
  induction ds with
  | nil => rfl
  | cons d ds ih => simp [pysOf, ih]
@[simp] theorem pysOf_cons (p : PyData) (ds : List D) : pysOf (D.py p :: ds) = (pysOf ds).map (p :: ·) := by
  cases h : pysOf ds <;> simp [pysOf, h]

/-! ### expressions -/
def varE (i : Nat) : Ex := fun σ S => match σ[i]? with
  | some (some d) => .ok d S
  | _ => .no
def cE (d : PyData) : Ex := fun _ S => .ok (.py d) S
def nilA : Ax := fun _ S => .ok [] S
def consA (e : Ex) (r : Ax) : Ax := fun σ S => (e σ S).bind fun d S1 => (r σ S1).bind fun ds S2 => .ok (d :: ds) S2
def tupE (a : Ax) : Ex := fun σ S => (a σ S).bind fun ds S1 => match pysOf ds with
  | some ps => .ok (.py (.tuple ps)) S1
  | none => .no
/-- a new list as a value that is not changed -/
def frz (r : R (List D)) : R D := r.bind fun ds S => match pysOf ds with
  | some ps => .ok (.py (.list ps)) S
  | none => .no
/-- a new list that may be changed -/
def thw (r : R (List D)) : R D := r.bind fun ds S => .ok (.obj S.length) (S ++ [.lst ds])
def frzE (a : Ax) : Ex := fun σ S => frz (a σ S)
def thwE (a : Ax) : Ex := fun σ S => thw (a σ S)
abbrev lstM (a : Ax) : Ex := thwE a
def opE (g : D → D → Sto → R D) (a b : Ex) : Ex := fun σ S => (a σ S).bind fun x S1 => (b σ S1).bind fun y S2 => g x y S2
def op1 (g : D → Sto → R D) (a : Ex) : Ex := fun σ S => (a σ S).bind fun x S1 => g x S1
/-- a call of a function upon its arguments' values -/
def callE (g : List D → Sto → R D) (a : Ax) : Ex := fun σ S => (a σ S).bind fun ds S1 => g ds S1
def lsOk (S : Sto) : D → Bool
  | .py (.list _) => true
  | .obj n => match S[n]? with
    | some (.lst _) => true
    | _ => false
  | _ => false
/-- a list's method, a text's -/
def methL (g : D → List D → Sto → R D) (o : Ex) (a : Ax) : Ex := fun σ S => (o σ S).bind fun x S1 => if lsOk S1 x = true then (a σ S1).bind fun ds S2 => g x ds S2 else .no
def methS (g : D → List D → Sto → R D) (o : Ex) (a : Ax) : Ex := fun σ S => (o σ S).bind fun x S1 => match x with
  | .py (.str _) => (a σ S1).bind fun ds S2 => g x ds S2
  | _ => .no
def ifE (c : Tx) (a b : Ex) : Ex := fun σ S => (c σ S).bind fun k S1 => if k = true then a σ S1 else b σ S1
/-- and, or, not of truths -/
def andE (a b : Ex) : Ex := fun σ S => (a σ S).bind fun x S1 => match x with
  | .py (.bool true) => b σ S1
  | .py (.bool false) => .ok (.py (.bool false)) S1
  | _ => .no
def orE (a b : Ex) : Ex := fun σ S => (a σ S).bind fun x S1 => match x with
  | .py (.bool false) => b σ S1
  | .py (.bool true) => .ok (.py (.bool true)) S1
  | _ => .no
def notE (a : Ex) : Ex := fun σ S => (a σ S).bind fun x S1 => match x with
  | .py (.bool k) => .ok (.py (.bool (!k))) S1
  | _ => .no
/-! ### tests -/
def valT (a : Ex) : Tx := fun σ S => (a σ S).bind fun x S1 => match x with
  | .py (.bool k) => .ok k S1
  | _ => .no
def andT (a b : Tx) : Tx := fun σ S => (a σ S).bind fun k S1 => if k = true then b σ S1 else .ok false S1
def orT (a b : Tx) : Tx := fun σ S => (a σ S).bind fun k S1 => if k = true then .ok true S1 else b σ S1
def notT (a : Tx) : Tx := fun σ S => (a σ S).bind fun k S1 => .ok (!k) S1
def yesT : Tx := fun _ S => .ok true S
/-- a chain a < b < c -/
def chainE (g g' : D → D → Sto → R D) (a b c : Ex) : Ex := fun σ S => (a σ S).bind fun x S1 => (b σ S1).bind fun y S2 => (g x y S2).bind fun z S3 => match z with
  | .py (.bool true) => (c σ S3).bind fun w S4 => g' y w S4
  | .py (.bool false) => .ok (.py (.bool false)) S3
  | _ => .no

/-! ### operators by values -/
def addD : D → D → Sto → R D
  | .py (.int i), .py (.int j), S => .ok (.py (.int (i + j))) S
  | .py (.str x), .py (.str y), S => if x.length + y.length ≤ sizeLine then .ok (.py (.str (x ++ y))) S else .no
  | .py (.list xs), .py (.list ys), S => if xs.length + ys.length ≤ sizeLine then .ok (.py (.list (xs ++ ys))) S else .no
  | .py (.tuple xs), .py (.tuple ys), S => if xs.length + ys.length ≤ sizeLine then .ok (.py (.tuple (xs ++ ys))) S else .no
  | _, _, _ => .no
def subD : D → D → Sto → R D
  | .py (.int i), .py (.int j), S => .ok (.py (.int (i - j))) S
  | _, _, _ => .no
def mulD : D → D → Sto → R D
  | .py (.int i), .py (.int j), S => if (-(2 ^ 64) < i ∧ i < 2 ^ 64) ∨ (-(2 ^ 64) < j ∧ j < 2 ^ 64) then .ok (.py (.int (i * j))) S else .no
  | _, _, _ => .no
def fdivD : D → D → Sto → R D
  | .py (.int i), .py (.int j), S => if 0 < j ∧ j < 1073741824 then .ok (.py (.int (i / j))) S else .no
  | _, _, _ => .no
def modD : D → D → Sto → R D
  | .py (.int i), .py (.int j), S => if 0 < j then .ok (.py (.int (i % j))) S else .no
  | _, _, _ => .no
def powD : D → D → Sto → R D
  | .py (.int i), .py (.int j), S => if 0 ≤ j ∧ j ≤ 1000000 ∧ i.natAbs < 2 ^ 64 then .ok (.py (.int (i ^ j.toNat))) S else .no
  | _, _, _ => .no
def negD : D → Sto → R D
  | .py (.int i), S => .ok (.py (.int (-i))) S
  | _, _ => .no
/-- == of whole numbers, truths, texts and None, without any look at their texts -/
def flatD : PyData → PyData → Option Bool
  | .none, .none => some true
  | .none, .int _ => some false
  | .int _, .none => some false
  | .none, .bool _ => some false
  | .bool _, .none => some false
  | .none, .str _ => some false
  | .str _, .none => some false
  | .int i, .int j => some (decide (i = j))
  | .str x, .str y => some (decide (x = y))
  | .bool a, .bool b => some (decide (a = b))
  | .int _, .str _ => some false
  | .str _, .int _ => some false
  | .bool _, .str _ => some false
  | .str _, .bool _ => some false
  | _, _ => none
/-- a text and a dict -/
def dkTx : PyData → PyData → Bool
  | .str _, .dict _ => true
  | .dict _, .str _ => true
  | _, _ => false
/-- surely unlike, whatever stands within -/
def offB : PyData → PyData → Bool
  | .str _, .list _ => true
  | .list _, .str _ => true
  | .str _, .tuple _ => true
  | .tuple _, .str _ => true
  | .tuple ds, .tuple es => ds.isEmpty != es.isEmpty
  | .list ds, .list es => ds.length != es.length
  | d, e => dkTx d e
def eqB (d e : PyData) : Option Bool := match flatD d e with
  | some k => some k
  | none => if SeqAt.shaped d = true ∧ SeqAt.shaped e = true then some (PyData.eqv d e) else if offB d e = true then some false else none
def eqD : D → D → Sto → R D
  | .py d, .py e, S => (match eqB d e with
    | some k => .ok (.py (.bool k)) S
    | none => .no)
  | _, _, _ => .no
def neD : D → D → Sto → R D
  | .py d, .py e, S => (match eqB d e with
    | some k => .ok (.py (.bool (!k))) S
    | none => .no)
  | _, _, _ => .no
def cmpI (p : Int → Int → Bool) : D → D → Sto → R D
  | .py (.int i), .py (.int j), S => .ok (.py (.bool (p i j))) S
  | _, _, _ => .no
def isNon : PyData → Bool
  | .none => true
  | _ => false
def isND : D → D → Sto → R D
  | .py d, .py .none, S => .ok (.py (.bool (isNon d))) S
  | _, _, _ => .no
def notND : D → D → Sto → R D
  | .py d, .py .none, S => .ok (.py (.bool (!isNon d))) S
  | _, _, _ => .no
def itemD : D → D → Sto → R D
  | .py (.str x), .py (.int i), S => if x.length ≤ sizeLine then (match L2.atI x.cps.toList i with
    | some c => .ok (.py (.str ⟨#[c]⟩)) S
    | none => .no) else .no
  | x, .py (.int i), S => match seqOf S x with
    | some ds => (match L2.atI ds i with
      | some d => .ok d S
      | none => .no)
    | none => .no
  | _, _, _ => .no

/-! ### built-ins by values -/
def lenD : List D → Sto → R D
  | [.py (.str x)], S => if x.length ≤ sizeLine then .ok (.py (.int (x.length : Nat))) S else .no
  | [d], S => (match seqOf S d with
    | some ds => .ok (.py (.int (ds.length : Nat))) S
    | none => .no)
  | _, _ => .no
def max2D : List D → Sto → R D
  | [.py (.int i), .py (.int j)], S => .ok (.py (.int (if j > i then j else i))) S
  | _, _ => .no
def min2D : List D → Sto → R D
  | [.py (.int i), .py (.int j)], S => .ok (.py (.int (if j < i then j else i))) S
  | _, _ => .no
def absD : List D → Sto → R D
  | [.py (.int i)], S => .ok (.py (.int (if i < 0 then -i else i))) S
  | _, _ => .no
def divmodD : List D → Sto → R D
  | [.py (.int i), .py (.int j)], S => if 0 < j ∧ j < 1073741824 then .ok (.py (.tuple [.int (i / j), .int (i % j)])) S else .no
  | _, _ => .no
def tupleD : List D → Sto → R D
  | [d], S => (match seqOf S d with
    | some ds => (match pysOf ds with
      | some ps => .ok (.py (.tuple ps)) S
      | none => .no)
    | none => .no)
  | _, _ => .no
/-- a new list of the items -/
def listD : List D → Sto → R (List D)
  | [.py (.str x)], S => if x.length ≤ sizeLine then .ok (x.cps.toList.map fun c => D.py (.str ⟨#[c]⟩)) S else .no
  | [d], S => (match seqOf S d with
    | some ds => .ok ds S
    | none => .no)
  | _, _ => .no
/-- the data of a value, the lists of the store within it as they stand -/
def deep (S : Sto) : Nat → D → Option PyData
  | 0, _ => none
  | _ + 1, .py d => some d
  | n + 1, .obj m => match S[m]? with
    | some (.lst ds) => (ds.mapM (deep S n)).map PyData.list
    | _ => none
  | _ + 1, .raw _ => none
def reprD : List D → Sto → R D
  | [d], S => (match deep S 8 d with
    | some p => if p.showable = true ∧ p.hasDict = false ∧ p.depth ≤ 60 ∧ p.shown.length ≤ sizeLine then .ok (.py (.str p.shown)) S else .no
    | none => .no)
  | _, _ => .no
/-- a call that makes a new list -/
def callL (g : List D → Sto → R (List D)) (a : Ax) : Ax := fun σ S => (a σ S).bind fun ds S1 => g ds S1
/-! ### methods by values -/
def appendD : D → List D → Sto → R D
  | .obj n, [d], S => (match S[n]? with
    | some (.lst ds) => if ds.length < sizeLine then .ok (.py .none) (S.set n (.lst (ds ++ [d]))) else .no
    | _ => .no)
  | _, _, _ => .no
def popD : D → List D → Sto → R D
  | .obj n, [], S => (match S[n]? with
    | some (.lst ds) => (match ds[ds.length - 1]? with
      | some d => .ok d (S.set n (.lst ds.dropLast))
      | none => .no)
    | _ => .no)
  | .obj n, [.py (.int i)], S => (match S[n]? with
    | some (.lst ds) => if 0 ≤ i ∧ i < 2 ^ 62 then (match ds[i.toNat]? with
      | some d => .ok d (S.set n (.lst (ds.eraseIdx i.toNat)))
      | none => .no) else .no
    | _ => .no)
  | _, _, _ => .no
/-- xs.extend(a new list) -/
def extE (o : Ex) (a : Ax) : Ex := fun σ S => (o σ S).bind fun x S1 => match x with
  | .obj n => (match S1[n]? with
    | some (.lst _) => (a σ S1).bind fun ds S2 => (match S2[n]? with
      | some (.lst es) => if es.length + ds.length ≤ sizeLine then .ok (.py .none) (S2.set n (.lst (es ++ ds))) else .no
      | _ => .no)
    | _ => .no)
  | _ => .no

/-! ### targets -/
def nmG (i : Nat) : Tg := fun d σ S => .ok (σ.set i (some d)) S
def nilG : List D → En → Sto → R En := fun ds σ S => match ds with
  | [] => .ok σ S
  | _ => .no
def consG (g : Tg) (r : List D → En → Sto → R En) : List D → En → Sto → R En := fun ds σ S => match ds with
  | d :: ds => (g d σ S).bind fun σ1 S1 => r ds σ1 S1
  | [] => .no
/-- a tuple to several targets -/
def tupG (n : Nat) (r : List D → En → Sto → R En) : Tg := fun d σ S => match d with
  | .py (.tuple ps) => if ps.length = n then r (ps.map .py) σ S else .no
  | _ => .no
/-- o[i] = d, of a list that may be changed -/
def ixG (o i : Ex) : Tg := fun d σ S => (o σ S).bind fun x S1 => (i σ S1).bind fun k S2 => match x, k with
  | .obj n, .py (.int k) => (match S2[n]? with
    | some (.lst ds) => (match L2.ixN ds.length k with
      | some j => .ok σ (S2.set n (.lst (ds.set j d)))
      | none => .no)
    | _ => .no)
  | _, _ => .no

/-! ### what is walked -/
abbrev It := En → Sto → R (List D)
def seqI (e : Ex) : It := fun σ S => (e σ S).bind fun d S1 => match d with
  | .py (.list ds) => .ok (ds.map .py) S1
  | .py (.tuple ds) => .ok (ds.map .py) S1
  | _ => .no
def txtI (e : Ex) : It := fun σ S => (e σ S).bind fun d S1 => match d with
  | .py (.str x) => if x.length ≤ 16777216 then .ok (x.cps.toList.map fun c => D.py (.str ⟨#[c]⟩)) S1 else .no
  | _ => .no
def rngV (lo : Int) (n : Nat) : List D := (List.range n).map fun (k : Nat) => D.py (.int (lo + (k : Int)))
def rng1I (e : Ex) : It := fun σ S => (e σ S).bind fun d S1 => match d with
  | .py (.int j) => if -(2 ^ 62) ≤ j ∧ j ≤ 16777216 then .ok (rngV 0 j.toNat) S1 else .no
  | _ => .no
def rng2I (a b : Ex) : It := fun σ S => (a σ S).bind fun x S1 => (b σ S1).bind fun y S2 => match x, y with
  | .py (.int i), .py (.int j) => if -(2 ^ 62) ≤ i ∧ j - i ≤ 16777216 ∧ i < 2 ^ 62 ∧ -(2 ^ 62) ≤ j ∧ j < 2 ^ 62 then .ok (rngV i (j - i).toNat) S2 else .no
  | _, _ => .no
def pyWalk (S : Sto) : D → Option (List PyData)
  | .py (.str x) => if x.length ≤ 16777216 then some (x.cps.toList.map fun c => PyData.str ⟨#[c]⟩) else none
  | .py (.list ds) => some ds
  | .py (.tuple ds) => some ds
  | _ => none
def zipI (a b : Ex) : It := fun σ S => (a σ S).bind fun x S1 => (b σ S1).bind fun y S2 => match pyWalk S2 x, pyWalk S2 y with
  | some xs, some ys => .ok ((xs.zip ys).map fun p => D.py (.tuple [p.1, p.2])) S2
  | _, _ => .no
def zip3I (a b c : Ex) : It := fun σ S => (a σ S).bind fun x S1 => (b σ S1).bind fun y S2 => (c σ S2).bind fun z S3 => match pyWalk S3 x, pyWalk S3 y, pyWalk S3 z with
  | some xs, some ys, some zs => .ok ((xs.zip (ys.zip zs)).map fun p => D.py (.tuple [p.1, p.2.1, p.2.2])) S3
  | _, _, _ => .no
def enumI (a : Ex) : It := fun σ S => (a σ S).bind fun x S1 => match pyWalk S1 x with
  | some xs => .ok (xs.zipIdx.map fun p => D.py (.tuple [.int (p.2 : Nat), p.1])) S1
  | none => .no
def rrngI (a b : Ex) : It := fun σ S => (a σ S).bind fun x S1 => (b σ S1).bind fun y S2 => match x, y with
  | .py (.int i), .py (.int j) => if -(2 ^ 62) ≤ i ∧ j - i ≤ 16777216 ∧ i < 2 ^ 62 ∧ -(2 ^ 62) ≤ j ∧ j < 2 ^ 62 then .ok (rngV i (j - i).toNat).reverse S2 else .no
  | _, _ => .no

def rrng1I (b : Ex) : It := fun σ S => (b σ S).bind fun y S2 => match y with
  | .py (.int j) => if -(2 ^ 62) ≤ j ∧ j ≤ 16777216 then .ok (rngV 0 j.toNat).reverse S2 else .no
  | _ => .no

/-! ### comprehensions -/
def wipeD (σ : En) : List Nat → En
  | [] => σ
  | v :: vs => (wipeD σ vs).set v none
def lcL (g : Tg) (c : Tx) (e : Ex) (σ : En) : List D → Sto → R (List D)
  | [], S => .ok [] S
  | x :: xs, S => match g x σ S with
    | .ok σ1 S1 => (match c σ1 S1 with
      | .ok k S2 => if k = true then (match e σ1 S2 with
        | .ok d S3 => (lcL g c e σ xs S3).bind fun ds S4 => .ok (d :: ds) S4
        | _ => .no) else lcL g c e σ xs S2
      | _ => .no)
    | _ => .no
def lcX (it : It) (vs : List Nat) (g : Tg) (c : Tx) (e : Ex) : Ax := fun σ S => (it σ S).bind fun xs S1 => lcL g c e (wipeD σ vs) xs S1
abbrev lcF (it : It) (vs : List Nat) (g : Tg) (c : Tx) (e : Ex) : Ex := frzE (lcX it vs g c e)
/-! ### statements -/
def passS : Sx := fun σ S => .nx σ S
def brkS : Sx := fun σ S => .bk σ S
def cntS : Sx := fun σ S => .ct σ S
def seqS (a b : Sx) : Sx := fun σ S => match a σ S with
  | .nx σ1 S1 => b σ1 S1
  | r => r
def asgS (e : Ex) (g : Tg) : Sx := fun σ S => (e σ S).run fun d S1 => (g d σ S1).run fun σ2 S2 => .nx σ2 S2
/-- a, b = x, y -/
def setAll : List Nat → List D → En → En
  | i :: is, d :: ds, σ => setAll is ds (σ.set i (some d))
  | _, _, σ => σ
def parS (is : List Nat) (a : Ax) : Sx := fun σ S => (a σ S).run fun ds S1 => .nx (setAll is ds σ) S1
def exprS (e : Ex) : Sx := fun σ S => (e σ S).run fun _ S1 => .nx σ S1
def retS (e : Ex) : Sx := fun σ S => (e σ S).run fun d S1 => .rt d S1
def ifS (c : Tx) (a b : Sx) : Sx := fun σ S => (c σ S).run fun k S1 => if k = true then a σ S1 else b σ S1
def raiseS (c : Str) : Sx := fun _ S => .ex c S
def forL (g : Tg) (b : Sx) : List D → En → Sto → F
  | [], σ, S => .nx σ S
  | x :: xs, σ, S => match g x σ S with
    | .ok σ1 S1 => (match b σ1 S1 with
      | .nx σ2 S2 => forL g b xs σ2 S2
      | .ct σ2 S2 => forL g b xs σ2 S2
      | .bk σ2 S2 => .nx σ2 S2
      | .rt d S2 => .rt d S2
      | .ex c S2 => .ex c S2
      | .no => .no)
    | .ex c S1 => .ex c S1
    | .no => .no
def forS (it : It) (g : Tg) (b : Sx) : Sx := fun σ S => (it σ S).run fun xs S1 => forL g b xs σ S1
/-- the list of a slot is not changed from here on -/
def fixS (i : Nat) : Sx := fun σ S => match σ[i]? with
  | some (some (.obj n)) => (match S[n]? with
    | some (.lst ds) => (match pysOf ds with
      | some ps => .nx (σ.set i (some (.py (.list ps)))) (S.set n .gone)
      | none => .no)
    | _ => .no)
  | _ => .no

/-- .. and its items, which are lists of the store -/
def fixL (S : Sto) : List D → Option (List PyData × Sto)
  | [] => some ([], S)
  | .py p :: ds => (fixL S ds).map fun r => (p :: r.1, r.2)
  | .obj n :: ds => match S[n]? with
    | some (.lst es) => (match pysOf es with
      | some ps => (fixL (S.set n .gone) ds).map fun r => (.list ps :: r.1, r.2)
      | none => none)
    | _ => none
  | .raw _ :: _ => none
def fix2S (i : Nat) : Sx := fun σ S => match σ[i]? with
  | some (some (.obj n)) => (match S[n]? with
    | some (.lst ds) => (match fixL (S.set n .gone) ds with
      | some (ps, S1) => .nx (σ.set i (some (.py (.list ps)))) S1
      | none => .no)
    | _ => .no)
  | _ => .no

/-! ### defs -/
def D.pure : D → Bool
  | .py _ => true
  | _ => false
def O.pure : O → Bool
  | .lst ds => ds.all D.pure
  | .gone => true
  | .tab _ _ => true
  | .dt _ => true
  | .dk _ => true
  | .ins _ fs => fs.all fun p => p.2.pure
  | .tpl ds => ds.all D.pure
open Classical in
/-- what a def has made for itself is forgotten where nothing leads to it -/
noncomputable def gc {α : Type} (p : Prop) (S S' : Sto) (k : Sto → α) : α :=
  if p ∧ S.length ≤ S'.length ∧ ∀ (i : Nat) (o : O), i < S.length → S'[i]? = some o → S[i]? = some o ∨ o.pure = true then k (S'.take S.length) else k S'
def init (n : Nat) (ds : List D) : En := ds.map some ++ List.replicate (n - ds.length) none
noncomputable def fnR (S : Sto) : F → R D
  | .nx _ S' => gc True S S' fun T => .ok (.py .none) T
  | .rt d S' => gc (d.pure = true) S S' fun T => .ok d T
  | .ex c S' => gc True S S' fun T => .ex c T
  | _ => .no
noncomputable def fnF (n : Nat) (b : Sx) : List D → Sto → R D := fun ds S => fnR S (b (init n ds) S)
end DV

set_option maxHeartbeats 4000000
/-! The data-level meaning holds of the model: relations. -/
namespace DV
open PySem PySem.Spec PyProof.Rows L2

/-! ### what is the same in a later heap -/
structure Keep (H H' : Hp) : Prop where
  tups : ∀ b xs, H b = some (.tup xs) → H' b = some (.tup xs)
  frzs : ∀ b o u, H b = some (.frz o u) → H' b = some (.frz o u)
theorem Keep.refl (H : Hp) : Keep H H := ⟨fun _ _ h => h, fun _ _ _ h => h⟩
theorem Keep.trans {H H1 H2 : Hp} (a : Keep H H1) (b : Keep H1 H2) : Keep H H2 :=
  ⟨fun c xs h => b.tups c xs (a.tups c xs h), fun c o u h => b.frzs c o u (a.frzs c o u h)⟩
/-- all but lists stays -/
theorem Keep.of {H H' : Hp} (h : ∀ b o, H b = some o → (∀ xs, o ≠ .lst xs) → H' b = some o) : Keep H H' where
  tups := fun b xs e => h b _ e (fun _ z => by cases z)
  frzs := fun b o u e => h b _ e (fun _ z => by cases z)
theorem Keep.new {H : Hp} {p : Addr} {o : HO} (h : H p = none) : Keep H (upd H p o) := .of fun b u e _ => by rw [upd_ne (ne_of_none e h)]; exact e
theorem Keep.list {H : Hp} {p : Addr} {xs : List V} {o : HO} (h : H p = some (.lst xs)) : Keep H (upd H p o) := .of fun b u e n => by
  rw [upd_ne (fun z => by subst z; rw [h] at e; cases e; exact n xs rfl)]
  exact e
/-- .. and the tables of code objects, too -/
structure KeepA (H H' : Hp) : Prop extends Keep H H' where
  tabs : ∀ P q, LamX.TabS H P q → LamX.TabS H' P q
instance {H H' : Hp} : Coe (KeepA H H') (Keep H H') := ⟨KeepA.toKeep⟩
theorem KeepA.refl (H : Hp) : KeepA H H := ⟨.refl H, fun _ _ h => h⟩
theorem KeepA.of {H H' : Hp} (h : ∀ b o, H b = some o → (∀ xs, o ≠ .lst xs) → H' b = some o) : KeepA H H' := ⟨.of h, fun P q ⟨ps, h1, h2, h3⟩ => ⟨ps, h _ _ h1 (fun _ z => by cases z), h2, fun pos cv hc => by
    obtain ⟨c, e1, e2⟩ := h3 pos cv hc
    exact ⟨c, e1, h _ _ e2 (fun _ z => by unfold LamX.CodeO at z; cases z)⟩⟩⟩
theorem KeepA.new {H : Hp} {p : Addr} {o : HO} (h : H p = none) : KeepA H (upd H p o) := .of fun b u e _ => by rw [upd_ne (ne_of_none e h)]; exact e
theorem KeepA.list {H : Hp} {p : Addr} {xs : List V} {o : HO} (h : H p = some (.lst xs)) : KeepA H (upd H p o) := .of fun b u e n => by
  rw [upd_ne (fun z => by subst z; rw [h] at e; cases e; exact n xs rfl)]
  exact e

/-- what may be changed in the heap: lists, dicts -/
inductive MO where
  | lst (vs : List V)
  | dt (kvs : List (List Key × V))
  | dk (kvs : List (Key × V))
  | ins (C dx : Addr) (fs : List (Str × V))
def MO.ho : MO → HO
  | .lst vs => .lst vs
  | .dt kvs => .dT kvs
  | .dk kvs => .dK kvs
  | .ins C dx fs => .ins C dx fs

/-! ### values -/
section
variable (K : PySem.W.Frag)
/-- a list that is never changed -/
def FL (H : Hp) (a : Addr) (xs : List V) : Prop := (∃ o, H a = some (.frz o (.lst xs))) ∨
  ∃ (o : Obj) (its : Array Value) (n : Nat), K.lookup a = some o ∧ o.cls = .type "list" ∧ o.dict = none ∧ o.data = .seq its n ∧ o.slots = #[] ∧ its.size ≤ sizeLine ∧ Vals xs its.toList
/-- a tuple whose object is known to have no dict -/
def FT (H : Hp) (a : Addr) (xs : List V) : Prop := (∃ o, H a = some (.frz o (.tup xs)) ∧ o.dict = none) ∨
  ∃ (o : Obj) (its : Array Value) (n : Nat), K.lookup a = some o ∧ o.cls = .type "tuple" ∧ o.dict = none ∧ o.data = .seq its n ∧ its.size ≤ sizeLine ∧ Vals xs its.toList
/-- a key as a datum -/
def keyP : Key → PyData
  | .inl i => .int i
  | .inr x => .str x
mutual
inductive Pp (H : Hp) : V → PyData → Prop
  | non : Pp H .non .none
  | bl (b : Bool) : Pp H (.bl b) (.bool b)
  | int (i : Int) : Pp H (.int i) (.int i)
  | str (x : Str) : Pp H (.str x) (.str x)
  | lst {a : Addr} {xs : List V} {ds : List PyData} : FL K H a xs → ds.length ≤ sizeLine → PpAll H xs ds → Pp H (.ref a) (.list ds)
  | tup {a : Addr} {xs : List V} {ds : List PyData} : FT K H a xs → ds.length ≤ sizeLine → PpAll H xs ds → Pp H (.ref a) (.tuple ds)
  | dic {a : Addr} {o : Obj} {kvs : List (Key × V)} {ds : List PyData} : H a = some (.frz o (.dK kvs)) → kvs.length ≤ sizeLine → PpAll H (kvs.map Prod.snd) ds → Pp H (.ref a) (.dict ((kvs.map fun kv => keyP kv.1).zip ds))
inductive PpAll (H : Hp) : List V → List PyData → Prop
  | nil : PpAll H [] []
  | cons {v : V} {vs : List V} {d : PyData} {ds : List PyData} : Pp H v d → PpAll H vs ds → PpAll H (v :: vs) (d :: ds)
end
end
section
variable {K : PySem.W.Frag} {H H' : Hp}
theorem FL.keep {a : Addr} {xs : List V} (k : Keep H H') (h : FL K H a xs) : FL K H' a xs := by
  rcases h with ⟨o, h⟩ | h
  · exact .inl ⟨o, k.frzs _ _ _ h⟩
  · exact .inr h
theorem FL.sq {a : Addr} {xs : List V} (h : FL K H a xs) : SqL K H a xs := by
  rcases h with ⟨o, h⟩ | ⟨o, its, n, h1, h2, h3, h4, _, h5⟩
  · exact .inl (.inr ⟨o, h⟩)
  · exact .inr ⟨o, its, n, h1, h2, h3, h4, h5⟩
theorem FT.keep {a : Addr} {xs : List V} (k : Keep H H') (h : FT K H a xs) : FT K H' a xs := by
  rcases h with ⟨o, h, d⟩ | h
  · exact .inl ⟨o, k.frzs _ _ _ h, d⟩
  · exact .inr h
theorem FT.sq {a : Addr} {xs : List V} (h : FT K H a xs) : SqT K H a xs := by
  rcases h with ⟨o, h, _⟩ | ⟨o, its, n, h1, h2, _, h3⟩
  · exact .inl (.inr ⟨o, h⟩)
  · exact .inr ⟨o, its, n, h1, h2, h3⟩
theorem FT.new {p : Addr} {xs : List V} {o : Obj} (d : o.dict = none) : FT K (upd H p (.frz o (.tup xs))) p xs := .inl ⟨o, upd_same, d⟩
theorem sqT_keep {a : Addr} {xs : List V} (k : Keep H H') (h : SqT K H a xs) : SqT K H' a xs := by
  rcases h with (h | ⟨o, h⟩) | h
  · exact .inl (.inl (k.tups _ _ h))
  · exact .inl (.inr ⟨o, k.frzs _ _ _ h⟩)
  · exact .inr h
mutual
theorem Pp.keep (k : Keep H H') : ∀ {v : V} {d : PyData}, Pp K H v d → Pp K H' v d
  | _, _, .non => .non
  | _, _, .bl b => .bl b
  | _, _, .int i => .int i
  | _, _, .str x => .str x
  | _, _, .lst h z hs => .lst (h.keep k) z (PpAll.keep k hs)
  | _, _, .tup h z hs => .tup (h.keep k) z (PpAll.keep k hs)
  | _, _, .dic h z hs => .dic (k.frzs _ _ _ h) z (PpAll.keep k hs)
theorem PpAll.keep (k : Keep H H') : ∀ {vs : List V} {ds : List PyData}, PpAll K H vs ds → PpAll K H' vs ds
  | _, _, .nil => .nil
  | _, _, .cons h hs => .cons (h.keep k) (hs.keep k)
end
mutual
theorem Pp.dp : ∀ {v : V} {d : PyData}, Pp K H v d → d.hasDict = false → Dp K H v d
  | _, _, .non, _ => .non
  | _, _, .bl b, _ => .bl b
  | _, _, .int i, _ => .int i
  | _, _, .str x, _ => .str x
  | _, _, .lst h _ hs, q => .lst h.sq (PpAll.dp hs (by rw [PyData.hasDict.eq_5] at q; exact q))
  | _, _, .tup h _ hs, q => .tup h.sq (PpAll.dp hs (by rw [PyData.hasDict.eq_6] at q; exact q))
  | _, _, .dic _ _ _, q => by rw [PyData.hasDict.eq_7] at q; cases q
theorem PpAll.dp : ∀ {vs : List V} {ds : List PyData}, PpAll K H vs ds → PyData.hasDictAll ds = false → DpAll K H vs ds
  | _, _, .nil, _ => .nil
  | _, _, .cons h hs, q => by
    rw [PyData.hasDictAll.eq_2, Bool.or_eq_false_iff] at q
    exact .cons (h.dp q.1) (hs.dp q.2)
end
theorem noDict_of {d : PyData} (h : SeqAt.shaped d = true) : d.hasDict = false := PyData.hasDict_of_canLay d (SeqAt.canLay_of_shaped h)
theorem PpAll.length : ∀ {vs : List V} {ds : List PyData}, PpAll K H vs ds → vs.length = ds.length
  | _, _, .nil => rfl
  | _, _, .cons _ hs => by rw [List.length_cons, List.length_cons, hs.length]
theorem PpAll.append : ∀ {vs ws : List V} {ds es : List PyData}, PpAll K H vs ds → PpAll K H ws es → PpAll K H (vs ++ ws) (ds ++ es)
  | _, _, _, _, .nil, q => q
  | _, _, _, _, .cons h hs, q => .cons h (hs.append q)
end

/-- a datum under the numbers of the store -/
inductive Rd (K : PySem.W.Frag) (ι : List Addr) (H : Hp) : V → D → Prop
  | py {v : V} {d : PyData} : Pp K H v d → Rd K ι H v (.py d)
  | obj {n : Nat} {a : Addr} : ι[n]? = some a → Rd K ι H (.ref a) (.obj n)
  | raw (a : Addr) : Rd K ι H (.ref a) (.raw a)
abbrev RdAll (K : PySem.W.Frag) (ι : List Addr) (H : Hp) : List V → List D → Prop := Paired (Rd K ι H)
inductive ObR (K : PySem.W.Frag) (ι : List Addr) (H : Hp) (a : Addr) : O → Prop
  | lst {vs : List V} {ds : List D} : H a = some (.lst vs) → RdAll K ι H vs ds → ObR K ι H a (.lst ds)
  | gone : ObR K ι H a .gone
  | tab {q : Str} : ObR K ι H a (.tab a q)
  | dt {kvs : List (List Key × V)} {es : List (List Key × PyData)} : H a = some (.dT kvs) → kvs.map Prod.fst = es.map Prod.fst → PpAll K H (kvs.map Prod.snd) (es.map Prod.snd) → ObR K ι H a (.dt es)
  | dk {kvs : List (Key × V)} {es : List (Key × PyData)} : H a = some (.dK kvs) → kvs.map Prod.fst = es.map Prod.fst → PpAll K H (kvs.map Prod.snd) (es.map Prod.snd) → ObR K ι H a (.dk es)
  | ins {c : Str} {C dx : Addr} {vs : List (Str × V)} {fs : List (Str × D)} : PySem.W.nsIn K mainGlobals c = some (some (.ref C)) → H a = some (.ins C dx vs) → vs.map Prod.fst = fs.map Prod.fst → RdAll K ι H (vs.map Prod.snd) (fs.map Prod.snd) → ObR K ι H a (.ins c fs)
  | tpl {o : Obj} {vs : List V} {ds : List D} : H a = some (.frz o (.tup vs)) → RdAll K ι H vs ds → ObR K ι H a (.tpl ds)
structure StR (K : PySem.W.Frag) (ι : List Addr) (H : Hp) (S : Sto) : Prop where
  len : ι.length = S.length
  nd : ι.Nodup
  there : ∀ (n : Nat) (a : Addr), ι[n]? = some a → H a ≠ none
  at_ : ∀ (n : Nat) (o : O) (a : Addr), S[n]? = some o → ι[n]? = some a → ObR K ι H a o
  tb : ∀ (n P : Nat) (q : Str), S[n]? = some (.tab P q) → LamX.TabS H P q
structure EnR (K : PySem.W.Frag) (ι : List Addr) (H : Hp) (σ : L2.St) (σd : En) : Prop where
  len : σ.length = σd.length
  at_ : ∀ (i : Nat) (d : D), σd[i]? = some (some d) → ∃ v, σ[i]? = some (some v) ∧ Rd K ι H v d
section
variable {K : PySem.W.Frag} {H H' H1 H2 : Hp} {ι ι' ι1 ι2 : List Addr} {v : V} {d : D} {S S' : Sto} {σ : L2.St} {σd : En}
theorem pre_get {α : Type} {l l' : List α} {n : Nat} {a : α} (p : l <+: l') (h : l[n]? = some a) : l'[n]? = some a := by
  obtain ⟨t, rfl⟩ := p
  obtain ⟨hn, e⟩ := List.getElem?_eq_some_iff.mp h
  rw [List.getElem?_append_left hn]
  exact h
theorem Rd.mono (p : ι <+: ι') (k : Keep H H') (h : Rd K ι H v d) : Rd K ι' H' v d := by
  cases h with
  | py h => exact .py (h.keep k)
  | obj h => exact .obj (pre_get p h)
  | raw a => exact .raw a
theorem RdAll.mono (p : ι <+: ι') (k : Keep H H') : ∀ {vs : List V} {ds : List D}, RdAll K ι H vs ds → RdAll K ι' H' vs ds
  | _, _, .nil => .nil
  | _, _, .cons h hs => .cons (h.mono p k) (RdAll.mono p k hs)
theorem EnR.mono (p : ι <+: ι') (k : Keep H H') (h : EnR K ι H σ σd) : EnR K ι' H' σ σd :=
  ⟨h.len, fun i d e => let ⟨v, e1, r⟩ := h.at_ i d e; ⟨v, e1, r.mono p k⟩⟩
theorem RdAll.pys : ∀ {vs : List V} {ds : List D} {ps : List PyData}, RdAll K ι H vs ds → pysOf ds = some ps → PpAll K H vs ps
  | _, _, _, .nil, e => by cases e; exact .nil
  | _, _, _, .cons (b := d) h hs, e => by
    cases h with
    | py h =>
      rw [pysOf_cons] at e
      rw [Option.map_eq_some_iff] at e
      obtain ⟨ps, e1, e2⟩ := e
      subst e2
      exact .cons h (RdAll.pys hs e1)
    | obj h => simp [pysOf] at e
    | raw a => simp [pysOf] at e
theorem RdAll.of_pys : ∀ {vs : List V} {ps : List PyData}, PpAll K H vs ps → RdAll K ι H vs (ps.map D.py)
  | _, _, .nil => .nil
  | _, _, .cons h hs => .cons (.py h) (RdAll.of_pys hs)
theorem RdAll.length : ∀ {vs : List V} {ds : List D}, RdAll K ι H vs ds → vs.length = ds.length := fun h => Paired.length h
theorem pysOf_length : ∀ {ds : List D} {ps : List PyData}, pysOf ds = some ps → ps.length = ds.length
  | [], _, e => by cases e; rfl
  | .py d :: ds, _, e => by
    rw [pysOf_cons, Option.map_eq_some_iff] at e
    obtain ⟨ps, e1, e2⟩ := e
    subst e2
    rw [List.length_cons, List.length_cons, pysOf_length e1]
  | .obj n :: ds, _, e => by simp [pysOf] at e
  | .raw n :: ds, _, e => by simp [pysOf] at e
theorem Paired.getR {α β : Type} {G : α → β → Prop} : ∀ {l₁ : List α} {l₂ : List β} {i : Nat} {y : β}, Paired G l₁ l₂ → l₂[i]? = some y → ∃ x, l₁[i]? = some x ∧ G x y
  | _, _, _, _, .nil, e => by simp at e
  | _, _, 0, _, .cons r _, e => by simp at e; subst e; exact ⟨_, rfl, r⟩
  | _, _, i + 1, y, .cons r t, e => by
    obtain ⟨x, h1, h2⟩ := Paired.getR (i := i) t (by simpa using e)
    exact ⟨x, by simpa using h1, h2⟩
theorem Paired.setB {α β : Type} {G : α → β → Prop} {x : α} {y : β} (r : G x y) : ∀ {l₁ : List α} {l₂ : List β} (i : Nat), Paired G l₁ l₂ → Paired G (l₁.set i x) (l₂.set i y)
  | _, _, _, .nil => .nil
  | _, _, 0, .cons _ t => .cons r t
  | _, _, i + 1, .cons q t => .cons q (Paired.setB r i t)
theorem Paired.app {α β : Type} {G : α → β → Prop} : ∀ {l₁ m₁ : List α} {l₂ m₂ : List β}, Paired G l₁ l₂ → Paired G m₁ m₂ → Paired G (l₁ ++ m₁) (l₂ ++ m₂)
  | _, _, _, _, .nil, q => q
  | _, _, _, _, .cons h hs, q => .cons h (Paired.app hs q)

theorem tab_set {S : Sto} {n m : Nat} {o : O} {P : Nat} {q : Str} (e : (S.set n o)[m]? = some (.tab P q)) (h : o ≠ .tab P q) : S[m]? = some (.tab P q) := by
  by_cases z : n = m
  · subst z
    have hl : n < S.length := by simpa using (List.getElem?_eq_some_iff.mp e).1
    rw [List.getElem?_set_self hl] at e
    exact absurd (Option.some.inj e) h
  · rwa [List.getElem?_set_ne z] at e
theorem tab_app {S : Sto} {m : Nat} {o : O} {P : Nat} {q : Str} (e : (S ++ [o])[m]? = some (.tab P q)) (h : o ≠ .tab P q) : S[m]? = some (.tab P q) := by
  by_cases z : m < S.length
  · rwa [List.getElem?_append_left z] at e
  · rw [List.getElem?_append_right (by omega)] at e
    have hz : m - S.length = 0 := by
      have := (List.getElem?_eq_some_iff.mp e).1
      simp at this
      omega
    rw [hz] at e
    exact absurd (Option.some.inj e) h
theorem ObR.mono {a : Addr} {o : O} (p : ι <+: ι') (k : Keep H H') (hl : ∀ vs : MO, H a = some vs.ho → H' a = some vs.ho) (h : ObR K ι H a o) : ObR K ι' H' a o := by
  cases h with
  | lst e r => exact .lst (hl (.lst _) e) (r.mono p k)
  | gone => exact .gone
  | tab => exact .tab
  | dt e f r => exact .dt (hl (.dt _) e) f (r.keep k)
  | dk e f r => exact .dk (hl (.dk _) e) f (r.keep k)
  | ins hc e f r => exact .ins hc (hl (.ins _ _ _) e) f (r.mono p k)
  | tpl e r => exact .tpl (k.frzs _ _ _ e) (r.mono p k)
/-- a heap in which the lists are as they were -/
theorem StR.keep (h : StR K ι H S) (k : KeepA H H') (hl : ∀ (b : Addr) (vs : MO), H b = some vs.ho → H' b = some vs.ho) (hn : ∀ b, H b ≠ none → H' b ≠ none) : StR K ι H' S :=
  ⟨h.len, h.nd, fun n a e => hn a (h.there n a e), fun n o a e1 e2 => (h.at_ n o a e1 e2).mono (List.prefix_refl _) k (hl a), fun n P q e => k.tabs P q (h.tb n P q e)⟩
theorem StR.new (h : StR K ι H S) {p : Addr} {o : HO} (hp : H p = none) : StR K ι (upd H p o) S :=
  h.keep (.new hp) (fun b vs e => by rw [upd_ne (ne_of_none e hp)]; exact e) fun b e => by
    unfold upd
    split
    · simp
    · exact e
/-- a list that is at no number is written -/
theorem StR.other (h : StR K ι H S) {p : Addr} {xs : List V} {o : HO} (hp : H p = some (.lst xs)) (hn : p ∉ ι) : StR K ι (upd H p o) S := by
  have ne : ∀ (n : Nat) (a : Addr), ι[n]? = some a → a ≠ p := fun n a e z => by
    subst z
    exact hn (List.mem_of_getElem? e)
  refine ⟨h.len, h.nd, fun n a e => ?_, fun n u a e1 e2 => ?_, fun n P q e => (KeepA.list hp).tabs P q (h.tb n P q e)⟩
  · rw [upd_ne (ne n a e)]
    exact h.there n a e
  · refine (h.at_ n u a e1 e2).mono (List.prefix_refl _) (.list hp) fun vs e => ?_
    rw [upd_ne (ne n a e2)]
    exact e
theorem StR.notin (h : StR K ι H S) {p : Addr} (hp : H p = none) : p ∉ ι := fun hm => by
  obtain ⟨n, e⟩ := List.mem_iff_getElem?.mp hm
  exact h.there n p e hp
/-- a list that stands at no number gets one -/
theorem StR.push (h : StR K ι H S) {p : Addr} {vs : List V} {ds : List D} (hp : H p = some (.lst vs)) (hn : p ∉ ι) (r : RdAll K ι H vs ds) : StR K (ι ++ [p]) H (S ++ [.lst ds]) := by
  refine ⟨by rw [List.length_append, List.length_append, h.len]; rfl, ?_, fun n a e => ?_, fun n o a e1 e2 => ?_, fun n P q e => ?_⟩
  · rw [List.nodup_append]
    exact ⟨h.nd, by simp, fun a ha b hb z => by
      rw [List.mem_singleton] at hb
      exact hn (hb ▸ z ▸ ha)⟩
  · by_cases hlt : n < ι.length
    · rw [List.getElem?_append_left hlt] at e
      exact h.there n a e
    · rw [List.getElem?_append_right (by omega)] at e
      have hz : n - ι.length = 0 := by
        have := (List.getElem?_eq_some_iff.mp e).1
        simp at this
        omega
      rw [hz] at e
      simp at e
      subst e
      rw [hp]
      simp
  · by_cases hlt : n < S.length
    · rw [List.getElem?_append_left hlt] at e1
      rw [List.getElem?_append_left (by rw [h.len]; exact hlt)] at e2
      exact (h.at_ n o a e1 e2).mono (List.prefix_append _ _) (.refl _) fun _ e => e
    · rw [List.getElem?_append_right (by omega)] at e1
      rw [List.getElem?_append_right (by rw [h.len]; omega), h.len] at e2
      have hz : n - S.length = 0 := by
        have := (List.getElem?_eq_some_iff.mp e1).1
        simp at this
        omega
      rw [hz] at e1 e2
      simp at e1 e2
      subst e1 e2
      exact .lst hp (r.mono (List.prefix_append _ _) (.refl _))
  · exact h.tb n P q (tab_app e fun z => by cases z)
theorem nodup_at {l : List Addr} {i j : Nat} {a : Addr} (nd : l.Nodup) (a1 : l[i]? = some a) (a2 : l[j]? = some a) : i = j := by
  obtain ⟨h1, e1⟩ := List.getElem?_eq_some_iff.mp a1
  obtain ⟨h2, e2⟩ := List.getElem?_eq_some_iff.mp a2
  exact (List.getElem_inj nd).mp (e1.trans e2.symm)
/-- a list of the store is written -/
theorem StR.set (h : StR K ι H S) {n : Nat} {p : Addr} {vs ws : List V} {ds : List D} (e : ι[n]? = some p) (hp : H p = some (.lst vs)) (r : RdAll K ι H ws ds) : StR K ι (upd H p (.lst ws)) (S.set n (.lst ds)) := by
  refine ⟨by rw [List.length_set, h.len], h.nd, fun m a e1 => ?_, fun m o a e1 e2 => ?_, fun n P q e1 => (KeepA.list hp).tabs P q (h.tb n P q (tab_set e1 fun z => by cases z))⟩
  · unfold upd
    split
    · simp
    · exact h.there m a e1
  · by_cases hm : m = n
    · subst hm
      rw [e] at e2
      cases e2
      have hlt : m < S.length := by
        have := (List.getElem?_eq_some_iff.mp e1).1
        simpa using this
      rw [List.getElem?_set_self hlt] at e1
      cases e1
      exact .lst upd_same (r.mono (List.prefix_refl _) (.list hp))
    · rw [List.getElem?_set_ne (Ne.symm hm)] at e1
      refine (h.at_ m o a e1 e2).mono (List.prefix_refl _) (.list hp) fun vs' e3 => ?_
      rw [upd_ne (fun z => hm (by subst z; exact nodup_at h.nd e2 e))]
      exact e3
/-- a list of the store is not changed from here on -/
theorem StR.fix (h : StR K ι H S) {n : Nat} {p : Addr} {vs : List V} {o : HO} (e : ι[n]? = some p) (hp : H p = some (.lst vs)) : StR K ι (upd H p o) (S.set n .gone) := by
  refine ⟨by rw [List.length_set, h.len], h.nd, fun m a e1 => ?_, fun m u a e1 e2 => ?_, fun n P q e1 => (KeepA.list hp).tabs P q (h.tb n P q (tab_set e1 fun z => by cases z))⟩
  · unfold upd
    split
    · simp
    · exact h.there m a e1
  · by_cases hm : m = n
    · subst hm
      have hlt : m < S.length := by
        have := (List.getElem?_eq_some_iff.mp e1).1
        simpa using this
      rw [List.getElem?_set_self hlt] at e1
      cases e1
      exact .gone
    · rw [List.getElem?_set_ne (Ne.symm hm)] at e1
      refine (h.at_ m u a e1 e2).mono (List.prefix_refl _) (.list hp) fun vs' e3 => ?_
      rw [upd_ne (fun z => hm (by subst z; exact nodup_at h.nd e2 e))]
      exact e3
end

/-! ### what is wanted behind a part -/
structure Post (K : PySem.W.Frag) (ι : List Addr) (H : Hp) (ι' : List Addr) (H' : Hp) (S' : Sto) : Prop where
  pre : ι <+: ι'
  keep : Keep H H'
  sto : StR K ι' H' S'
  frame : ∀ b vs, b ∉ ι → H b = some (.lst vs) → H' b = some (.lst vs) ∧ b ∉ ι'
  dom : ∀ b, H b ≠ none → H' b ≠ none
section
variable {K : PySem.W.Frag} {ι ι1 ι2 : List Addr} {H H1 H2 : Hp} {S S1 S2 : Sto}
theorem Post.refl (h : StR K ι H S) : Post K ι H ι H S := ⟨List.prefix_refl _, .refl _, h, fun _ _ n e => ⟨e, n⟩, fun _ e => e⟩
theorem Post.trans (a : Post K ι H ι1 H1 S1) (b : Post K ι1 H1 ι2 H2 S2) : Post K ι H ι2 H2 S2 :=
  ⟨a.pre.trans b.pre, a.keep.trans b.keep, b.sto, fun c vs n e => let ⟨e1, n1⟩ := a.frame c vs n e; b.frame c vs n1 e1, fun c e => b.dom c (a.dom c e)⟩
theorem upd_dom {H : Hp} {p : Addr} {o : HO} : ∀ b, H b ≠ none → upd H p o b ≠ none := fun b e => by
  unfold upd
  split
  · simp
  · exact e
theorem Post.new (h : StR K ι H S) {p : Addr} {o : HO} (hp : H p = none) : Post K ι H ι (upd H p o) S :=
  ⟨List.prefix_refl _, .new hp, h.new hp, fun b vs n e => ⟨by rw [upd_ne (ne_of_none e hp)]; exact e, n⟩, upd_dom⟩
/-- a list of the store is written -/
theorem Post.wr {n : Nat} {p : Addr} {vs : List V} {o : HO} (e : ι[n]? = some p) (hp : H p = some (.lst vs)) (h : StR K ι (upd H p o) S) : Post K ι H ι (upd H p o) S :=
  ⟨List.prefix_refl _, .list hp, h, fun b ws m q => ⟨by rw [upd_ne (fun z => m (by subst z; exact List.mem_of_getElem? e))]; exact q, m⟩, upd_dom⟩
/-- a list that is new since H is written, fixed -/
theorem Post.fixNew (a : Post K ι H ι1 H1 S1) {p : Addr} {vs : List V} {o : HO} (hp : H1 p = some (.lst vs)) (hn : p ∉ ι1) (h0 : H p = none) : Post K ι H ι1 (upd H1 p o) S1 :=
  ⟨a.pre, a.keep.trans (.list hp), a.sto.other hp hn, fun b ws m q => let ⟨e1, n1⟩ := a.frame b ws m q; ⟨by rw [upd_ne (ne_of_none q h0)]; exact e1, n1⟩, fun b e => upd_dom b (a.dom b e)⟩
end

/-- the class of an error by its name -/
def clsV (mg : Str → Option Value) (c : Str) : Value := (mg c).getD .none
section
variable (K : PySem.W.Frag) (mg : Str → Option Value) (E : XK) (ι : List Addr) (H : Hp)
def Wp {α β : Type} (rel : List Addr → Hp → α → β → Prop) (r : R β) (Q : α → Hp → Prop) : Prop := match r with
  | .ok d S' => ∀ v H' ι', Post K ι H ι' H' S' → rel ι' H' v d → Q v H'
  | .ex c S' => ∀ H' ι', Post K ι H ι' H' S' → E (clsV mg c) none H'
  | .no => False
def WpF (r : F) (N : Ends) : Prop := match r with
  | .nx σd S' => ∀ σ' H' ι', Post K ι H ι' H' S' → EnR K ι' H' σ' σd → N.nx σ' H'
  | .bk σd S' => ∀ σ' H' ι', Post K ι H ι' H' S' → EnR K ι' H' σ' σd → N.bk σ' H'
  | .ct σd S' => ∀ σ' H' ι', Post K ι H ι' H' S' → EnR K ι' H' σ' σd → N.ct σ' H'
  | .rt d S' => ∀ v H' ι', Post K ι H ι' H' S' → Rd K ι' H' v d → N.rt v H'
  | .ex c S' => ∀ H' ι', Post K ι H ι' H' S' → E (clsV mg c) none H'
  | .no => False
end
abbrev relD (K : PySem.W.Frag) : List Addr → Hp → V → D → Prop := fun ι H v d => Rd K ι H v d
abbrev relB : List Addr → Hp → Bool → Bool → Prop := fun _ _ b k => b = k
abbrev relA (K : PySem.W.Frag) : List Addr → Hp → List V → List D → Prop := fun ι H vs ds => RdAll K ι H vs ds
/-- a new list (since H0) that has no number yet -/
abbrev relL (K : PySem.W.Frag) (H0 : Hp) : List Addr → Hp → V → List D → Prop := fun ι H v ds => ∃ p vs, H0 p = none ∧ v = .ref p ∧ H p = some (.lst vs) ∧ p ∉ ι ∧ vs.length ≤ sizeLine ∧ RdAll K ι H vs ds
section
variable {K : PySem.W.Frag} {mg : Str → Option Value} {E : XK} {ι ι' : List Addr} {H H' : Hp} {S S' : Sto} {α β γ δ : Type} {rel : List Addr → Hp → α → β → Prop} {rel' : List Addr → Hp → γ → δ → Prop} {r : R β} {Q Q' : α → Hp → Prop}
theorem Wp.re (p : Post K ι H ι' H' S') (h : Wp K mg E ι H rel r Q) : Wp K mg E ι' H' rel r Q := by
  cases r with
  | ok d S1 => exact fun v H1 ι1 q => h v H1 ι1 (p.trans q)
  | ex c S1 => exact fun H1 ι1 q => h H1 ι1 (p.trans q)
  | no => exact h
theorem WpF.re {r : F} {N : Ends} (p : Post K ι H ι' H' S') (h : WpF K mg E ι H r N) : WpF K mg E ι' H' r N := by
  cases r with
  | nx d S1 => exact fun v H1 ι1 q => h v H1 ι1 (p.trans q)
  | bk d S1 => exact fun v H1 ι1 q => h v H1 ι1 (p.trans q)
  | ct d S1 => exact fun v H1 ι1 q => h v H1 ι1 (p.trans q)
  | rt d S1 => exact fun v H1 ι1 q => h v H1 ι1 (p.trans q)
  | ex c S1 => exact fun H1 ι1 q => h H1 ι1 (p.trans q)
  | no => exact h
theorem Wp.mono (h : Wp K mg E ι H rel r Q) (q : ∀ v H', Q v H' → Q' v H') : Wp K mg E ι H rel r Q' := by
  cases r with
  | ok d S1 => exact fun v H1 ι1 p x => q _ _ (h v H1 ι1 p x)
  | ex c S1 => exact h
  | no => exact h
theorem Wp.sub {rel2 : List Addr → Hp → α → β → Prop} (h : Wp K mg E ι H rel r Q) (s : ∀ ι H v d, rel2 ι H v d → rel ι H v d) : Wp K mg E ι H rel2 r Q := by
  cases r with
  | ok d S1 => exact fun v H1 ι1 p x => h v H1 ι1 p (s _ _ _ _ x)
  | ex c S1 => exact h
  | no => exact h
/-- a part, then the rest -/
theorem Wp.bind {k : β → Sto → R δ} {P : γ → Hp → Prop} (h : Wp K mg E ι H rel' (r.bind k) P) (q : ∀ d S', r = .ok d S' → ∀ v H' ι', Post K ι H ι' H' S' → rel ι' H' v d → Wp K mg E ι' H' rel' (k d S') P → Q v H') : Wp K mg E ι H rel r Q := by
  cases r with
  | ok d S1 => exact fun v H1 ι1 p x => q d S1 rfl v H1 ι1 p x (h.re p)
  | ex c S1 => exact h
  | no => exact h
/-- .. the rest as it was wanted ahead of it -/
theorem Wp.bind0 {k : β → Sto → R δ} {P : γ → Hp → Prop} (h : Wp K mg E ι H rel' (r.bind k) P) (q : ∀ d S', r = .ok d S' → ∀ v H' ι', Post K ι H ι' H' S' → rel ι' H' v d → Wp K mg E ι H rel' (k d S') P → Q v H') : Wp K mg E ι H rel r Q := by
  cases r with
  | ok d S1 => exact fun v H1 ι1 p x => q d S1 rfl v H1 ι1 p x h
  | ex c S1 => exact h
  | no => exact h
theorem Wp.run {k : β → Sto → F} {N : Ends} (h : WpF K mg E ι H (r.run k) N) (q : ∀ d S', r = .ok d S' → ∀ v H' ι', Post K ι H ι' H' S' → rel ι' H' v d → WpF K mg E ι' H' (k d S') N → Q v H') : Wp K mg E ι H rel r Q := by
  cases r with
  | ok d S1 => exact fun v H1 ι1 p x => q d S1 rfl v H1 ι1 p x (WpF.re p h)
  | ex c S1 => exact h
  | no => exact h
end
end DV

set_option maxHeartbeats 4000000
/-! The data-level meaning holds of the model: judgements, expressions, statements. -/
namespace DV
open PySem PySem.Spec PyProof.Rows L2

structure Okx (k : Nat) (X : Cx) (E : XK) : Prop where
  calm : X.calm = true
  nd : X.N.Nodup
  room : Room k X.A
  gd : X.A.guards = some []
  pass : Passes (L2.CX X.prog X.w) X E
  take : Takes X (fun cls d _ H => E cls d H)
  own : PassesOwn (model X.prog X.w) X.A X.env X.xe
theorem Okx.blk {k : Nat} {X : Cx} {E : XK} (o : Okx k X E) (s : Shared) (H : Hp) (scope : Scope) (cenv : Env) (fp : List Addr) : Okx k (X.blk s H scope cenv fp) E0 :=
  ⟨o.calm, o.nd, o.room, o.gd, passL, takes0, .never⟩

def DE (X : Cx) (E : XK) (e : Expr) (f : Ex) : Prop := ∃ t, PE X e t ∧ ∀ σ H σd S ι Q, EnR X.K ι H σ σd → StR X.K ι H S → Wp X.K X.mg E ι H (relD X.K) (f σd S) Q → t σ H Q
def DT (X : Cx) (E : XK) (e : Expr) (f : Tx) : Prop := ∃ t, PT X e t ∧ ∀ σ H σd S ι Q, EnR X.K ι H σ σd → StR X.K ι H S → Wp X.K X.mg E ι H relB (f σd S) Q → t σ H Q
def DW (X : Cx) (E : XK) (e : Expr) (f : Tx) : Prop := ∃ t, PW X e t ∧ ∀ σ H σd S ι Q, EnR X.K ι H σ σd → StR X.K ι H S → Wp X.K X.mg E ι H relB (f σd S) Q → t σ H Q
/-- a new list -/
def DL (X : Cx) (E : XK) (e : Expr) (f : Ax) : Prop := ∃ t, PE X e t ∧ ∀ σ H σd S ι Q, EnR X.K ι H σ σd → StR X.K ι H S → Wp X.K X.mg E ι H (relL X.K H) (f σd S) Q → t σ H Q
def DA (X : Cx) (E : XK) (es : List Expr) (f : Ax) : Prop := (∀ σ S ds S', f σ S = .ok ds S' → ds.length = es.length) ∧
  ∃ t, PA X es t ∧ ∀ σ H σd S ι Q, EnR X.K ι H σ σd → StR X.K ι H S → Wp X.K X.mg E ι H (relA X.K) (f σd S) Q → t σ H Q
def DS (X : Cx) (E : XK) (st : Stmt) (f : Sx) : Prop := ∃ t, PS X st t ∧ ∀ σ H σd S ι N, EnR X.K ι H σ σd → StR X.K ι H S → WpF X.K X.mg E ι H (f σd S) N → t N σ H
def DSs (X : Cx) (E : XK) (st : List Stmt) (f : Sx) : Prop := ∃ t, PSs X st t ∧ ∀ σ H σd S ι N, EnR X.K ι H σ σd → StR X.K ι H S → WpF X.K X.mg E ι H (f σd S) N → t N σ H
/-- a target; it sets the slots vs alone -/
def DG (X : Cx) (E : XK) (vs : List Nat) (tg : Expr) (g : Tg) : Prop := ∃ t, PG X tg t ∧ ∀ v d σ H σd S ι Q, EnR X.K ι H σ σd → StR X.K ι H S → Rd X.K ι H v d →
  Wp X.K X.mg E ι H (fun ι' H' σ' σd' => EnR X.K ι' H' σ' σd' ∧ wipe σ' vs = wipe σ vs) (g d σd S) Q → t v σ H Q
def DGs (X : Cx) (E : XK) (vs : List Nat) (tgs : List Expr) (g : List D → En → Sto → R En) : Prop := ∃ t, PGs X tgs t ∧ ∀ ws ds σ H σd S ι Q, EnR X.K ι H σ σd → StR X.K ι H S → RdAll X.K ι H ws ds →
  Wp X.K X.mg E ι H (fun ι' H' σ' σd' => EnR X.K ι' H' σ' σd' ∧ wipe σ' vs = wipe σ vs) (g ds σd S) Q → t ws σ H Q


/-! ### kinds of values -/
section
variable {K : PySem.W.Frag} {ι : List Addr} {H : Hp} {S : Sto} {v : V} {d : D}
theorem int_of {i : Int} (r : Rd K ι H v (.py (.int i))) : v = .int i := by
  cases r with
  | py r => cases r; rfl
theorem str_of {i : Str} (r : Rd K ι H v (.py (.str i))) : v = .str i := by
  cases r with
  | py r => cases r; rfl
/-- a sequence is read -/
theorem seq_of (hS : StR K ι H S) (r : Rd K ι H v d) {ds : List D} (h : seqOf S d = some ds) : ∃ a vs, v = .ref a ∧ (SqL K H a vs ∨ (FT K H a vs ∧ ∃ ps, d = .py (.tuple ps) ∧ ps.length ≤ sizeLine)) ∧ RdAll K ι H vs ds := by
  cases r with
  | py r =>
    cases r with
    | lst hf hz hs =>
      cases h
      exact ⟨_, _, rfl, .inl hf.sq, .of_pys hs⟩
    | tup hf hz hs =>
      cases h
      exact ⟨_, _, rfl, .inr ⟨hf, _, rfl, hz⟩, .of_pys hs⟩
    | _ => cases h
  | obj e =>
    rename_i n a
    simp only [seqOf] at h
    split at h
    · rename_i ds' he
      cases h
      cases hS.at_ _ _ _ he e with
      | lst ha rr => exact ⟨a, _, rfl, .inl (.of ha), rr⟩
    · cases h
  | raw a => cases h
theorem tyL (hS : StR K ι H S) (r : Rd K ι H v d) (h : lsOk S d = true) : tyV K "list" v H := by
  cases r with
  | py r =>
    cases r with
    | lst hf hz hs => exact .inl ⟨rfl, _, hf.sq⟩
    | _ => cases h
  | obj e =>
    rename_i n a
    simp only [lsOk] at h
    split at h
    · rename_i ds' he
      cases hS.at_ _ _ _ he e with
      | lst ha rr => exact .inl ⟨rfl, _, .of ha⟩
    · cases h
  | raw a => cases h
theorem atI_read {vs : List V} {ds : List D} {i : Int} {d : D} (r : RdAll K ι H vs ds) (h : atI ds i = some d) : ∃ v, atI vs i = some v ∧ Rd K ι H v d := by
  unfold atI at h ⊢
  rw [r.length]
  cases e : ixN ds.length i with
  | none => rw [e] at h; cases h
  | some j =>
    rw [e] at h
    obtain ⟨v, e1, e2⟩ := Paired.getR r h
    exact ⟨v, e1, e2⟩
theorem item_read {mg : Str → Option Value} {E : XK} {x y : V} {d e : D} {Q : VK} (hS : StR K ι H S) (rx : Rd K ι H x d) (ry : Rd K ι H y e) (h : Wp K mg E ι H (relD K) (itemD d e S) Q) : rIx K x y H Q := by
  unfold itemD at h
  split at h
  · rename_i z i
    split at h
    · rename_i hz
      split at h
      · rename_i c hc
        exact .inr (.inr ⟨z, i, c, str_of rx, int_of ry, hz, hc, h _ _ _ (.refl hS) (.py (.str _))⟩)
      · exact h.elim
    · exact h.elim
  · rename_i i hne
    split at h
    · rename_i ds hds
      split at h
      · rename_i d' hd'
        obtain ⟨a, vs, rfl, hq, rr⟩ := seq_of hS rx hds
        obtain ⟨v, hv, rv⟩ := atI_read rr hd'
        have q := h v H ι (.refl hS) rv
        rcases hq with hq | hq
        · exact .inl ⟨a, vs, i, v, rfl, int_of ry, hq, hv, q⟩
        · exact .inr (.inl ⟨a, vs, i, v, rfl, int_of ry, hq.1.sq, hv, q⟩)
      · exact h.elim
    · exact h.elim
  · exact h.elim
end
section
variable {X : Cx} {E : XK} {k : Nat} {e a b c : Expr} {f g h : Ex} {es : List Expr} {fs : Ax} {pos : Pos}
theorem De.mk {t : TE} (p : PE X e t) (q : ∀ σ H σd S ι Q, EnR X.K ι H σ σd → StR X.K ι H S → Wp X.K X.mg E ι H (relD X.K) (f σd S) Q → t σ H Q) : DE X E e f := ⟨t, p, q⟩

/-! ### names, constants -/
theorem de_var (i : Nat) {x : Str} (hN : X.N[i]? = some x := by rfl) (hv : Vis X.env.scope x := by first | exact Or.inl rfl | exact Or.inr (Or.inl rfl) | exact Or.inr (Or.inr rfl)) (hd : (x == ("__debug__" : Str)) = false := by decide)
    (hcd : (x == ("__classdict__" : Str)) = false := by decide) : DE X E (.Name x pos) (varE i) := by
  refine ⟨_, pe_var hN hv hd hcd, fun σ H σd S ι Q hE hS h => ?_⟩
  unfold varE at h
  split at h
  · rename_i d hd'
    obtain ⟨v, e1, r⟩ := hE.at_ i d hd'
    exact ⟨v, e1, h v H ι (.refl hS) r⟩
  · exact h.elim
theorem de_int {i : Int} {j : Nat} : DE X E (.Constant (.int i) j pos) (cE (.int i)) := ⟨_, pe_int, fun σ H σd S ι Q hE hS h => h _ _ _ (.refl hS) (.py (.int i))⟩
theorem de_bl {i : Bool} {j : Nat} : DE X E (.Constant (.bool i) j pos) (cE (.bool i)) := ⟨_, pe_bl, fun σ H σd S ι Q hE hS h => h _ _ _ (.refl hS) (.py (.bl i))⟩
theorem de_non {j : Nat} : DE X E (.Constant .none j pos) (cE .none) := ⟨_, pe_non, fun σ H σd S ι Q hE hS h => h _ _ _ (.refl hS) (.py .non)⟩
theorem de_str {x : Str} {j : Nat} : DE X E (.Constant (.str x) j pos) (cE (.str x)) := ⟨_, pe_str, fun σ H σd S ι Q hE hS h => h _ _ _ (.refl hS) (.py (.str x))⟩

/-! ### argument lists, displays -/
theorem da_nil : DA X E [] nilA := ⟨fun _ _ ds _ e => by cases e; rfl, _, pa_nil, fun σ H σd S ι Q hE hS h => h _ _ _ (.refl hS) .nil⟩
theorem da_cons (ha : DE X E e f) (hr : DA X E es fs) (hs : starEach (e :: es) X.env = (false, eval e X.env) :: starEach es X.env := by rfl) : DA X E (e :: es) (consA f fs) := by
  obtain ⟨t, p, q⟩ := ha
  obtain ⟨l, u, pu, qu⟩ := hr
  refine ⟨fun σ S ds S' h => ?_, _, pa_cons p pu hs, fun σ H σd S ι Q hE hS h => ?_⟩
  · unfold consA at h
    cases h1 : f σ S with
    | ok d S1 =>
      rw [h1, bind_ok] at h
      cases h2 : fs σ S1 with
      | ok dr S2 =>
        rw [h2, bind_ok] at h
        cases h
        rw [List.length_cons, List.length_cons, l _ _ _ _ h2]
      | ex c S2 => rw [h2] at h; cases h
      | no => rw [h2] at h; cases h
    | ex c S2 => rw [h1] at h; cases h
    | no => rw [h1] at h; cases h
  · refine q σ H σd S ι _ hE hS (Wp.bind h fun d S1 _ v H1 ι1 p1 r1 h1 => ?_)
    refine qu σ H1 σd S1 ι1 _ (hE.mono p1.pre p1.keep) p1.sto (Wp.bind h1 fun ds S2 _ vs H2 ι2 p2 r2 h2 => ?_)
    exact h2 _ _ _ (.refl p2.sto) (.cons (r1.mono p2.pre p2.keep) r2)
theorem small_line {n : Nat} (h : n ≤ 1000) : n ≤ sizeLine := Nat.le_trans h (by decide)
/-- a tuple that was made just now: its object is known -/
theorem tupF_ok {P : Program} {w : World} {H : Hp} {h : Heap} {a : Addr} {xs : List V} {us : List Value} {o : Obj} (hz : xs.length ≤ sizeLine) (r : Vals xs us) (e : h.get? a = some o) (hc : o.cls = .type "tuple") {n : Nat} (hd : o.data = .seq us.toArray n) : ObjOk P w H h a (.frz o (.tup xs)) :=
  ⟨e, hz, us, r, ⟨o, e, hc, n, hd⟩⟩
def tTupF (t : TA) : TE := fun σ H Q => t σ H fun xs H1 => xs.length ≤ sizeLine ∧ ∀ p (o : Obj), o.dict = none → H1 p = none → Q (.ref p) (upd H1 p (.frz o (.tup xs)))
theorem pe_tupF {x1 : Nat} {t : TA} (h : PA X es t) : PE X (.Tuple es x1 pos) (tTupF t) := by
  refine ⟨fun pins s σ H Q I hq => ?_⟩
  refine wpAny_Tuple_spliced (thn (h.run pos pins s σ H _ I hq) fun us s1 ⟨xs, H1, I1, r, z, q⟩ => ⟨by rw [← r.length]; exact z, ?_⟩)
  have hf : H1 s1.heap.objs.size = none := I1.hok.fresh (Nat.le_refl _)
  refine ⟨.ref s1.heap.objs.size, _, I1.laid (t' := s1.toks) (fun b u e => Heap.get?_push_of_some _ e) (Nat.le_refl _) ?_, rfl, q _ { cls := .type "tuple", data := .seq us.toArray } rfl hf⟩
  exact tupF_ok z r (Heap.get?_push_size _ rfl) rfl rfl
theorem de_tup {x1 : Nat} (ha : DA X E es fs) (hl : es.length ≤ 1000 := by decide) : DE X E (.Tuple es x1 pos) (tupE fs) := by
  obtain ⟨l, t, p, q⟩ := ha
  refine ⟨_, pe_tupF p, fun σ H σd S ι Q hE hS h => ?_⟩
  refine q σ H σd S ι _ hE hS (Wp.bind h fun ds S1 e1 vs H1 ι1 p1 r1 h1 => ?_)
  have hlen : ds.length ≤ sizeLine := by rw [l _ _ _ _ e1]; exact small_line hl
  cases hp : pysOf ds with
  | none => rw [hp] at h1; exact h1.elim
  | some ps =>
    rw [hp] at h1
    refine ⟨by rw [r1.length]; exact hlen, fun a o ho na => ?_⟩
    refine h1 _ _ _ (.new p1.sto na) (.py (.tup (.new ho) (by rw [pysOf_length hp]; exact hlen) ?_))
    exact (RdAll.pys r1 hp).keep (.new na)
theorem dl_lst (ha : DA X E es fs) (hl : es.length ≤ 1000 := by decide) : DL X E (.List es pos) fs := by
  obtain ⟨l, t, p, q⟩ := ha
  refine ⟨_, pe_lst p, fun σ H σd S ι Q hE hS h => ?_⟩
  refine q σ H σd S ι _ hE hS ?_
  cases hf : fs σd S with
  | no => rw [hf] at h; exact h.elim
  | ex c S1 => rw [hf] at h; exact h
  | ok ds S1 =>
    rw [hf] at h
    intro vs H1 ι1 p1 r1
    have hz : vs.length ≤ sizeLine := by rw [r1.length, l _ _ _ _ hf]; exact small_line hl
    refine ⟨hz, fun a na => ?_⟩
    refine h _ _ _ (p1.trans (.new p1.sto na)) ⟨a, vs, ?_, rfl, upd_same, p1.sto.notin na, hz, r1.mono (List.prefix_refl _) (.new na)⟩
    cases q0 : H a with
    | none => rfl
    | some u => exact absurd na (p1.dom a (by rw [q0]; simp))

/-! ### a list that is not changed from here on -/
def tFz (t : TE) : TE := fun σ H Q => t σ H fun v H1 => ∃ a xs, v = .ref a ∧ H1 a = some (.lst xs) ∧ ∀ o, Q v (upd H1 a (.frz o (.lst xs)))
theorem pe_frz {t : TE} (p : PE X e t) : PE X e (tFz t) := by
  refine ⟨fun pins s σ H Q I h => thn (p.run pins s σ H _ I h) fun u s1 ⟨v, H1, I1, r, a, xs, ev, ha, q⟩ => ?_⟩
  obtain ⟨o, I2⟩ := I1.lock ha trivial
  exact ⟨v, _, I2, r, q o⟩
/-- a new list, then fixed -/
theorem frz_post {ι ι1 : List Addr} {H H1 : Hp} {S1 : Sto} {v : V} {ds : List D} {ps : List PyData} (p1 : Post X.K ι H ι1 H1 S1) (r : relL X.K H ι1 H1 v ds) (hp : pysOf ds = some ps) :
    ∃ a xs, v = .ref a ∧ H1 a = some (.lst xs) ∧ ∀ o, Post X.K ι H ι1 (upd H1 a (.frz o (.lst xs))) S1 ∧ Pp X.K (upd H1 a (.frz o (.lst xs))) (.ref a) (.list ps) := by
  obtain ⟨a, vs, h0, rfl, ha, hn, hz, r⟩ := r
  refine ⟨a, vs, rfl, ha, fun o => ⟨p1.fixNew ha hn h0, .lst (.inl ⟨o, upd_same⟩) ?_ ?_⟩⟩
  · rw [pysOf_length hp, ← r.length]
    exact hz
  · exact (RdAll.pys r hp).keep (.list ha)
theorem de_frz {fl : Ax} (hl : DL X E e fl) : DE X E e (frzE fl) := by
  obtain ⟨t, p, q⟩ := hl
  refine ⟨_, pe_frz p, fun σ H σd S ι Q hE hS h => ?_⟩
  refine q σ H σd S ι _ hE hS (Wp.bind0 h fun ds S1 e1 v H1 ι1 p1 r1 h1 => ?_)
  cases hp : pysOf ds with
  | none => rw [hp] at h1; exact h1.elim
  | some ps =>
    rw [hp] at h1
    obtain ⟨a, xs, rfl, ha, z⟩ := frz_post p1 r1 hp
    exact ⟨a, xs, rfl, ha, fun o => h1 _ _ _ (z o).1 (.py (z o).2)⟩
theorem thw_post {ι ι1 : List Addr} {H H1 : Hp} {S1 : Sto} {v : V} {ds : List D} (p1 : Post X.K ι H ι1 H1 S1) (r : relL X.K H ι1 H1 v ds) : ∃ ι2, Post X.K ι H ι2 H1 (S1 ++ [.lst ds]) ∧ Rd X.K ι2 H1 v (.obj S1.length) := by
  obtain ⟨a, vs, h0, rfl, ha, hn, hz, r⟩ := r
  refine ⟨ι1 ++ [a], ⟨p1.pre.trans (List.prefix_append _ _), p1.keep, p1.sto.push ha hn r, fun b ws m q => ?_, p1.dom⟩, .obj ?_⟩
  · obtain ⟨e1, n1⟩ := p1.frame b ws m q
    refine ⟨e1, fun hm => ?_⟩
    rcases List.mem_append.mp hm with hm | hm
    · exact n1 hm
    · rw [List.mem_singleton] at hm
      exact ne_of_none q h0 hm
  · rw [← p1.sto.len]
    simp
theorem de_thw {fl : Ax} (hl : DL X E e fl) : DE X E e (thwE fl) := by
  obtain ⟨t, p, q⟩ := hl
  refine ⟨_, p, fun σ H σd S ι Q hE hS h => ?_⟩
  refine q σ H σd S ι _ hE hS (Wp.bind0 h fun ds S1 e1 v H1 ι1 p1 r1 h1 => ?_)
  obtain ⟨ι2, p2, r2⟩ := thw_post p1 r1
  exact h1 _ _ _ p2 r2
/-! ### operators by values -/
/-- an operator of the model does what g says -/
def DOp (X : Cx) (o : Value → Value → Sem Value) (g : D → D → Sto → R D) : Prop := ∃ r, OpR X o r ∧ ∀ x y d e H S ι E Q, StR X.K ι H S → Rd X.K ι H x d → Rd X.K ι H y e → Wp X.K X.mg E ι H (relD X.K) (g d e S) Q → r x y H Q
def DUn (X : Cx) (o : Value → Sem Value) (g : D → Sto → R D) : Prop := ∃ r, UnR X o r ∧ ∀ x d H S ι E Q, StR X.K ι H S → Rd X.K ι H x d → Wp X.K X.mg E ι H (relD X.K) (g d S) Q → r x H Q
/-- a built-in upon its arguments -/
def DC (X : Cx) (o : Value) (g : List D → Sto → R D) : Prop := ∃ r, CallR X o r ∧ ∀ xs ds H S ι E Q, StR X.K ι H S → RdAll X.K ι H xs ds → Wp X.K X.mg E ι H (relD X.K) (g ds S) Q → r xs H Q
/-- a built-in type's method -/
def DM (X : Cx) (T : String) (id : String) (g : D → List D → Sto → R D) : Prop := ∃ r, MtR X id r ∧ ∀ x xs d ds H S ι E Q, StR X.K ι H S → Rd X.K ι H x d → RdAll X.K ι H xs ds → Wp X.K X.mg E ι H (relD X.K) (g d ds S) Q → r x xs H Q
theorem op_read {o : Value → Value → Sem Value} {gg : D → D → Sto → R D} {r : R2} {ta tb : TE} (q : ∀ σ H σd S ι Q, EnR X.K ι H σ σd → StR X.K ι H S → Wp X.K X.mg E ι H (relD X.K) (f σd S) Q → ta σ H Q)
    (qu : ∀ σ H σd S ι Q, EnR X.K ι H σ σd → StR X.K ι H S → Wp X.K X.mg E ι H (relD X.K) (g σd S) Q → tb σ H Q)
    (qr : ∀ x y d e H S ι E Q, StR X.K ι H S → Rd X.K ι H x d → Rd X.K ι H y e → Wp X.K X.mg E ι H (relD X.K) (gg d e S) Q → r x y H Q)
    {σ : L2.St} {H : Hp} {σd : En} {S : Sto} {ι : List Addr} {Q : VK} (hE : EnR X.K ι H σ σd) (hS : StR X.K ι H S) (h : Wp X.K X.mg E ι H (relD X.K) (opE gg f g σd S) Q) : tOp r ta tb σ H Q := by
  refine q σ H σd S ι _ hE hS (Wp.bind h fun d S1 _ v H1 ι1 p1 r1 h1 => ?_)
  refine qu σ H1 σd S1 ι1 _ (hE.mono p1.pre p1.keep) p1.sto (Wp.bind h1 fun d2 S2 _ v2 H2 ι2 p2 r2 h2 => ?_)
  exact qr _ _ _ _ _ _ _ E _ p2.sto (r1.mono p2.pre p2.keep) r2 h2
/-- a truth, as a test of its own -/
theorem bool_of {K : PySem.W.Frag} {ι : List Addr} {H : Hp} {v : V} {c : Bool} (r : Rd K ι H v (.py (.bool c))) : v = .bl c := by
  cases r with
  | py r => cases r; rfl
theorem Wp.val {K : PySem.W.Frag} {mg : Str → Option Value} {ι : List Addr} {H : Hp} {r : R D} {Q : Bool → Hp → Prop} (h : Wp K mg E ι H relB (r.bind fun x S1 => match x with
    | .py (.bool k) => .ok k S1
    | _ => .no) Q) : Wp K mg E ι H (relD K) r (fun v H' => ∃ k, v = .bl k ∧ Q k H') := by
  refine Wp.bind h fun d3 S3 _ v3 H3 ι3 p3 r3 h3 => ?_
  split at h3
  · exact ⟨_, bool_of r3, h3 _ _ _ (.refl p3.sto) rfl⟩
  · exact h3.elim
theorem de_bin {op : Operator} {gg : D → D → Sto → R D} (ho : DOp X (binaryOp op) gg) (ha : DE X E a f) (hb : DE X E b g) : DE X E (.BinOp a op b pos) (opE gg f g) := by
  obtain ⟨t, p, q⟩ := ha
  obtain ⟨u, pu, qu⟩ := hb
  obtain ⟨r, hr, qr⟩ := ho
  exact ⟨_, pe_op hr p pu, fun σ H σd S ι Q hE hS h => op_read (o := binaryOp op) q qu qr hE hS h⟩
theorem de_cmp {op : CmpOp} {gg : D → D → Sto → R D} (ho : DOp X (compareOp op) gg) (ha : DE X E a f) (hb : DE X E b g) (hm : behindInMarks op b = false := by rfl) : DE X E (.Compare a [op] [b] pos) (opE gg f g) := by
  obtain ⟨t, p, q⟩ := ha
  obtain ⟨u, pu, qu⟩ := hb
  obtain ⟨r, hr, qr⟩ := ho
  exact ⟨_, pe_cmpR hr p pu hm, fun σ H σd S ι Q hE hS h => op_read (o := compareOp op) q qu qr hE hS h⟩
theorem dt_cmp {op : CmpOp} {gg : D → D → Sto → R D} (ho : DOp X (compareOp op) gg) (ha : DE X E a f) (hb : DE X E b g) (hm : behindInMarks op b = false := by rfl) : DT X E (.Compare a [op] [b] pos) (valT (opE gg f g)) := by
  obtain ⟨t, p, q⟩ := ha
  obtain ⟨u, pu, qu⟩ := hb
  obtain ⟨r, hr, qr⟩ := ho
  exact ⟨_, pt_cmpR hr p pu hm, fun σ H σd S ι Q hE hS h => op_read (o := compareOp op) q qu qr hE hS (Wp.val h)⟩
theorem de_un {op : UnaryOp} {gg : D → Sto → R D} (ho : DUn X (unaryOp op) gg) (ha : DE X E a f) : DE X E (.UnaryOp op a pos) (op1 gg f) := by
  obtain ⟨t, p, q⟩ := ha
  obtain ⟨r, hr, qr⟩ := ho
  refine ⟨_, pe_un hr p, fun σ H σd S ι Q hE hS h => ?_⟩
  refine q σ H σd S ι _ hE hS (Wp.bind h fun d S1 _ v H1 ι1 p1 r1 h1 => ?_)
  exact qr _ _ _ _ _ E _ p1.sto r1 h1
theorem dt_val (ha : DE X E a f) (he : ∀ whole, isTrue a X.env whole = (do let v ← whole; standAt a.pos; holding [v] (truthy v)) := by intro _; rfl) : DT X E a (valT f) := by
  obtain ⟨t, p, q⟩ := ha
  exact ⟨_, pt_val p he, fun σ H σd S ι Q hE hS h => q σ H σd S ι _ hE hS (Wp.val h)⟩

/-! ### and, or, not -/
variable {ft gt : Tx} {rest : List Expr}
theorem dw_and1 (ha : DT X E a ft) : DW X E (.BoolOp .And [a] pos) ft := by
  obtain ⟨t, p, q⟩ := ha
  exact ⟨_, pw_and1 p, q⟩
theorem dw_or1 (ha : DT X E a ft) : DW X E (.BoolOp .Or [a] pos) ft := by
  obtain ⟨t, p, q⟩ := ha
  exact ⟨_, pw_or1 p, q⟩
theorem dw_and (ha : DT X E a ft) (hb : DW X E (.BoolOp .And (b :: rest) pos) gt) : DW X E (.BoolOp .And (a :: b :: rest) pos) (andT ft gt) := by
  obtain ⟨t, p, q⟩ := ha
  obtain ⟨u, pu, qu⟩ := hb
  refine ⟨_, pw_and p pu, fun σ H σd S ι Q hE hS h => ?_⟩
  refine q σ H σd S ι _ hE hS (Wp.bind h fun d S1 _ v H1 ι1 p1 r1 h1 => ?_)
  cases r1
  cases d with
  | true => exact qu σ H1 σd S1 ι1 _ (hE.mono p1.pre p1.keep) p1.sto h1
  | false => exact h1 _ _ _ (.refl p1.sto) rfl
theorem dw_or (ha : DT X E a ft) (hb : DW X E (.BoolOp .Or (b :: rest) pos) gt) : DW X E (.BoolOp .Or (a :: b :: rest) pos) (orT ft gt) := by
  obtain ⟨t, p, q⟩ := ha
  obtain ⟨u, pu, qu⟩ := hb
  refine ⟨_, pw_or p pu, fun σ H σd S ι Q hE hS h => ?_⟩
  refine q σ H σd S ι _ hE hS (Wp.bind h fun d S1 _ v H1 ι1 p1 r1 h1 => ?_)
  cases r1
  cases d with
  | false => exact qu σ H1 σd S1 ι1 _ (hE.mono p1.pre p1.keep) p1.sto h1
  | true => exact h1 _ _ _ (.refl p1.sto) rfl
theorem dt_w (h : DW X E e ft) : DT X E e ft := by
  obtain ⟨t, p, q⟩ := h
  exact ⟨_, p.pt, q⟩
theorem dt_not (ha : DT X E a ft) : DT X E (.UnaryOp .Not a pos) (notT ft) := by
  obtain ⟨t, p, q⟩ := ha
  refine ⟨_, pt_not p, fun σ H σd S ι Q hE hS h => ?_⟩
  refine q σ H σd S ι _ hE hS (Wp.bind h fun d S1 _ v H1 ι1 p1 r1 h1 => ?_)
  cases r1
  exact h1 _ _ _ (.refl p1.sto) rfl
theorem de_one {op} (ha : DE X E a f) : DE X E (.BoolOp op [a] pos) f := by
  obtain ⟨t, p, q⟩ := ha
  exact ⟨_, pe_one p, q⟩
theorem de_and (ha : DE X E a f) (hb : DE X E (.BoolOp .And (b :: rest) pos) g) : DE X E (.BoolOp .And (a :: b :: rest) pos) (andE f g) := by
  obtain ⟨t, p, q⟩ := ha
  obtain ⟨u, pu, qu⟩ := hb
  refine ⟨_, pe_and p pu, fun σ H σd S ι Q hE hS h => ?_⟩
  refine q σ H σd S ι _ hE hS (Wp.bind h fun d S1 _ v H1 ι1 p1 r1 h1 => ?_)
  split at h1
  · exact ⟨_, bool_of r1, qu σ H1 σd S1 ι1 _ (hE.mono p1.pre p1.keep) p1.sto h1⟩
  · exact ⟨_, bool_of r1, h1 _ _ _ (.refl p1.sto) (.py (.bl false))⟩
  · exact h1.elim
theorem de_ife (hc : DT X E c ft) (ha : DE X E a f) (hb : DE X E b g) : DE X E (.IfExp c a b pos) (ifE ft f g) := by
  obtain ⟨t, p, q⟩ := hc
  obtain ⟨ta, pa, qa⟩ := ha
  obtain ⟨tb, pb, qb⟩ := hb
  refine ⟨_, pe_ifExp p pa pb, fun σ H σd S ι Q hE hS h => ?_⟩
  refine q σ H σd S ι _ hE hS (Wp.bind h fun d S1 _ v H1 ι1 p1 r1 h1 => ?_)
  cases r1
  cases d with
  | true => exact qa σ H1 σd S1 ι1 _ (hE.mono p1.pre p1.keep) p1.sto h1
  | false => exact qb σ H1 σd S1 ι1 _ (hE.mono p1.pre p1.keep) p1.sto h1
/-! ### calls of built-ins, methods, items -/
variable {p : Pos} {x : Str}
theorem de_callB {id : String} {gg : List D → Sto → R D} (hc : DC X (.builtin id) gg) (hm : X.mg x = none) (hv : bootBuiltins x = some (.builtin id)) (ha : DA X E (e :: es) fs) (hg : Gl X x := by rfl) (hn : x ≠ "__name__" := by decide) (hdb : (x == ("__debug__" : Str)) = false := by decide)
    (he : starEach (e :: es) X.env = (false, eval e X.env) :: starEach es X.env := by rfl) (hpl : (backTo pos (starEach es X.env)).any (·.1) = false := by rfl) : DE X E (.Call (.Name x p) (e :: es) [] pos) (callE gg fs) := by
  obtain ⟨l, t, pt, q⟩ := ha
  obtain ⟨r, hr, qr⟩ := hc
  refine ⟨_, pe_callB hr hg hm hv pt hn hdb he hpl, fun σ H σd S ι Q hE hS h => ?_⟩
  refine q σ H σd S ι _ hE hS (Wp.bind h fun ds S1 _ vs H1 ι1 p1 r1 h1 => ?_)
  exact qr _ _ _ _ _ E _ p1.sto r1 h1
theorem de_callTy {T : String} {gg : List D → Sto → R D} (hc : DC X (.type T) gg) (hm : X.mg x = none) (hv : bootBuiltins x = some (.type T)) (ha : DA X E (e :: es) fs) (hg : Gl X x := by rfl) (hn : x ≠ "__name__" := by decide) (hdb : (x == ("__debug__" : Str)) = false := by decide)
    (he : starEach (e :: es) X.env = (false, eval e X.env) :: starEach es X.env := by rfl) (hpl : (backTo pos (starEach es X.env)).any (·.1) = false := by rfl) : DE X E (.Call (.Name x p) (e :: es) [] pos) (callE gg fs) := by
  obtain ⟨l, t, pt, q⟩ := ha
  obtain ⟨r, hr, qr⟩ := hc
  refine ⟨_, pe_callTy hr hg hm hv pt hn hdb he hpl, fun σ H σd S ι Q hE hS h => ?_⟩
  refine q σ H σd S ι _ hE hS (Wp.bind h fun ds S1 _ vs H1 ι1 p1 r1 h1 => ?_)
  exact qr _ _ _ _ _ E _ p1.sto r1 h1

/-! ### methods, items -/
variable {o : Expr} {apos cpos : Pos} {name : Str} {id : String}
theorem de_methL {gg : D → List D → Sto → R D} (slot : Slot "list" name id) (hty : typeOf (.builtin id) = pure (.type "method_descriptor")) (hm : DM X "list" id gg) (ho : DE X E o f) (ha : DA X E (e :: es) fs)
    (hbase : attributeBase o name X.env (eval o X.env) = eval o X.env := by rfl)
    (hfew : ((backTo cpos (starEach (e :: es) X.env)).all (fun x => !x.1) && (backToKw cpos (keywordEach [] X.env)).all (fun x => x.1.isSome)
      && decide ((e :: es).length + ([] : List Keyword).length + (if ([] : List Keyword).isEmpty then 0 else 1) < 30)) = true := by rfl)
    (hline : (apos.endLine == cpos.line) = true := by rfl) (hs : starEach (e :: es) X.env = (false, eval e X.env) :: starEach es X.env := by rfl) (hplain : (backTo cpos (starEach es X.env)).any (·.1) = false := by rfl) :
    DE X E (.Call (.Attribute o name apos) (e :: es) [] cpos) (methL gg f fs) := by
  obtain ⟨t, p, q⟩ := ho
  obtain ⟨l, u, pu, qu⟩ := ha
  obtain ⟨r, hr, qr⟩ := hm
  refine ⟨_, pe_bm PySem.F.plainAttrs_list slot hty hr p pu hbase hfew hline hs hplain, fun σ H σd S ι Q hE hS h => ?_⟩
  refine q σ H σd S ι _ hE hS (Wp.bind h fun d S1 _ v H1 ι1 p1 r1 h1 => ?_)
  split at h1
  · rename_i hl
    refine ⟨tyL p1.sto r1 hl, ?_⟩
    refine qu σ H1 σd S1 ι1 _ (hE.mono p1.pre p1.keep) p1.sto (Wp.bind h1 fun d2 S2 _ v2 H2 ι2 p2 r2 h2 => ?_)
    exact qr _ _ _ _ _ _ _ E _ p2.sto (r1.mono p2.pre p2.keep) r2 h2
  · exact h1.elim
/-- an item by its index -/
theorem de_item (ha : DE X E a f) (hb : DE X E b g) (hs : PlainIx b := by intro _ _; rfl) : DE X E (.Subscript a b pos) (opE itemD f g) := by
  obtain ⟨t, p, q⟩ := ha
  obtain ⟨u, pu, qu⟩ := hb
  refine ⟨_, pe_ix ix_seq p pu hs, fun σ H σd S ι Q hE hS h => op_read (o := binaryOp .Add) q qu (fun x y d e H S ι E Q hS rx ry h => ?_) hE hS h⟩
  exact item_read hS rx ry h
end
end DV

set_option maxHeartbeats 4000000
/-! Targets, statements, loops, comprehensions. -/
namespace DV
open PySem PySem.Spec PyProof.Rows L2
section
variable {X : Cx} {E : XK} {k : Nat} {e a b c : Expr} {f g h : Ex} {es : List Expr} {fs : Ax} {pos : Pos}

/-! ### targets -/
theorem EnR.set {K : PySem.W.Frag} {ι : List Addr} {H : Hp} {σ : L2.St} {σd : En} {v : V} {d : D} (h : EnR K ι H σ σd) (i : Nat) (r : Rd K ι H v d) : EnR K ι H (σ.set i (some v)) (σd.set i (some d)) := by
  refine ⟨by rw [List.length_set, List.length_set, h.len], fun j d' e => ?_⟩
  by_cases hj : j = i
  · subst hj
    have hlt : j < σd.length := by
      have := (List.getElem?_eq_some_iff.mp e).1
      simpa using this
    rw [List.getElem?_set_self hlt] at e
    cases e
    exact ⟨v, List.getElem?_set_self (by rw [h.len]; exact hlt), r⟩
  · rw [List.getElem?_set_ne (Ne.symm hj)] at e
    obtain ⟨v', e1, r'⟩ := h.at_ j d' e
    exact ⟨v', by rw [List.getElem?_set_ne (Ne.symm hj)]; exact e1, r'⟩
theorem wipe_get {i : Nat} {σ : L2.St} : ∀ {vs : List Nat}, i ∈ vs → i < σ.length → (wipe σ vs)[i]? = some none
  | v :: vs, hm, hl => by
    unfold wipe
    by_cases hi : v = i
    · subst hi
      rw [List.getElem?_set_self (by rw [wipe_length]; exact hl)]
    · rw [List.getElem?_set_ne hi]
      exact wipe_get ((List.mem_cons.mp hm).resolve_left (Ne.symm hi)) hl
theorem wipe_set_in {i : Nat} {x : Option V} {σ : L2.St} {vs : List Nat} (hm : i ∈ vs) : wipe (σ.set i x) vs = wipe σ vs := by
  apply List.ext_getElem?
  intro j
  by_cases hj : j ∈ vs
  · by_cases hl : j < σ.length
    · rw [wipe_get hj (by rw [List.length_set]; exact hl), wipe_get hj hl]
    · rw [List.getElem?_eq_none (by rw [wipe_length, List.length_set]; omega), List.getElem?_eq_none (by rw [wipe_length]; omega)]
  · rw [wipe_out hj, wipe_out hj, List.getElem?_set_ne (fun z => hj (by subst z; exact hm))]
theorem dg_name {vs : List Nat} (i : Nat) {x : Str} (hN : X.N.Nodup) (hi : X.N[i]? = some x := by rfl) (hx : Loc X.env.scope x := by first | exact Or.inl rfl | exact Or.inr rfl) (hf : X.fn x = true ∨ X.env.scope.names.lookup x = some .local := by first | exact .inl rfl | exact .inr rfl) (hm : i ∈ vs := by decide) : DG X E vs (.Name x pos) (nmG i) :=
  ⟨_, pg_name hN hi hx hf, fun v d σ H σd S ι Q hE hS r h => h _ _ _ (.refl hS) ⟨hE.set i r, wipe_set_in hm⟩⟩
theorem dgs_nil {vs : List Nat} : DGs X E vs [] nilG := ⟨_, pgs_nil, fun ws ds σ H σd S ι Q hE hS r h => by
  cases r with
  | nil => exact ⟨rfl, h _ _ _ (.refl hS) ⟨hE, rfl⟩⟩
  | cons _ _ => exact h.elim⟩
theorem dgs_cons {vs : List Nat} {tg : Expr} {tgs : List Expr} {gg : Tg} {gs : List D → En → Sto → R En} (h1 : DG X E vs tg gg) (h2 : DGs X E vs tgs gs) (hs : ∀ env, assignEach (tg :: tgs) env = (false, assign tg env) :: assignEach tgs env := by intro _; rfl) : DGs X E vs (tg :: tgs) (consG gg gs) := by
  obtain ⟨t, p, q⟩ := h1
  obtain ⟨u, pu, qu⟩ := h2
  refine ⟨_, pgs_cons p pu (by rw [hs]; rfl), fun ws ds σ H σd S ι Q hE hS r h => ?_⟩
  cases r with
  | nil => exact h.elim
  | cons r rs =>
    refine ⟨_, _, rfl, q _ _ σ H σd S ι _ hE hS r (Wp.bind h fun σ1 S1 _ v H1 ι1 p1 r1 h1 => ?_)⟩
    refine qu _ _ v H1 σ1 S1 ι1 _ r1.1 p1.sto (RdAll.mono p1.pre p1.keep rs) (Wp.sub h1 fun ι' H' v' σ2 z => ⟨z.1, z.2.trans r1.2⟩)
theorem dg_tup {vs : List Nat} {n kk : Nat} {tgs : List Expr} {gs : List D → En → Sto → R En} (hc : X.calm = true) (h : DGs X E vs tgs gs) (hn : (assignEach tgs X.env).length = n := by rfl) (hst : (assignEach tgs X.env).findIdx? (·.1) = none := by rfl) : DG X E vs (.Tuple tgs kk pos) (tupG n gs) := by
  obtain ⟨t, p, q⟩ := h
  refine ⟨_, pg_tup hc p hn hst, fun v d σ H σd S ι Q hE hS r h => ?_⟩
  unfold tupG at h
  split at h
  · split at h
    · rename_i ps hl
      cases r with
      | py r =>
        cases r with
        | tup hq hz hs => exact ⟨_, _, rfl, hq.sq, by rw [hs.length]; exact hl, q _ _ σ H σd S ι _ hE hS (.of_pys hs) h⟩
    · exact h.elim
  · exact h.elim
/-- o[i] = v of a list of the store -/
theorem dg_ix {vs : List Nat} {o i : Expr} (ho : DE X E o f) (hi : DE X E i g)
    (hz : ∀ v, assign (.Subscript o i pos) X.env v = (do let ov ← holding [v] (eval o X.env); let iv ← holding [v, ov] (eval i X.env); standAt pos; holding [v, ov, iv] (setItem ov iv v); release [v, ov, iv] []) := by intro _; rfl) : DG X E vs (.Subscript o i pos) (ixG f g) := by
  obtain ⟨t, p, q⟩ := ho
  obtain ⟨u, pu, qu⟩ := hi
  refine ⟨_, pg_sub p pu set_list hz, fun v d σ H σd S ι Q hE hS r h => ?_⟩
  refine q σ H σd S ι _ hE hS (Wp.bind h fun d1 S1 _ v1 H1 ι1 p1 r1 h1 => ?_)
  refine qu σ H1 σd S1 ι1 _ (hE.mono p1.pre p1.keep) p1.sto (Wp.bind h1 fun d2 S2 _ v2 H2 ι2 p2 r2 h2 => ?_)
  have r1' := r1.mono p2.pre p2.keep
  have r' := (r.mono p1.pre p1.keep).mono p2.pre p2.keep
  split at h2
  · split at h2
    · rename_i ds hds
      split at h2
      · rename_i j hj
        cases r1' with
        | obj e1 =>
          rename_i a
          cases p2.sto.at_ _ _ _ hds e1 with
          | lst ha rr =>
            rename_i ws
            refine ⟨a, ws, _, j, rfl, int_of r2, ha, by rw [rr.length]; exact hj, ?_⟩
            refine h2 _ _ _ (.wr e1 ha (p2.sto.set e1 ha (Paired.setB r' j rr))) ⟨?_, rfl⟩
            exact ((hE.mono p1.pre p1.keep).mono p2.pre p2.keep).mono (List.prefix_refl _) (.list ha)
      · exact h2.elim
    · exact h2.elim
  · exact h2.elim

/-! ### statements -/
theorem dss_nil : DSs X E [] passS := ⟨_, pss_nil, fun σ H σd S ι N hE hS h => h _ _ _ (.refl hS) hE⟩
theorem dss_cons {st : Stmt} {sts : List Stmt} {u w : Sx} (h1 : DS X E st u) (h2 : DSs X E sts w) : DSs X E (st :: sts) (seqS u w) := by
  obtain ⟨t, p, q⟩ := h1
  obtain ⟨t2, p2, q2⟩ := h2
  refine ⟨_, pss_cons p p2, fun σ H σd S ι N hE hS h => ?_⟩
  refine q σ H σd S ι _ hE hS ?_
  unfold seqS at h
  cases hu : u σd S with
  | nx σ1 S1 =>
    rw [hu] at h
    exact fun σ' H' ι' pp r => q2 σ' H' σ1 S1 ι' N r pp.sto (WpF.re pp h)
  | rt d S1 => rw [hu] at h; exact h
  | bk σ1 S1 => rw [hu] at h; exact h
  | ct σ1 S1 => rw [hu] at h; exact h
  | ex c S1 => rw [hu] at h; exact h
  | no => rw [hu] at h; exact h.elim
theorem dss_one {st : Stmt} {u : Sx} (h1 : DS X E st u) : DSs X E [st] u := by
  obtain ⟨t, p, q⟩ := h1
  exact ⟨_, pss_one p, q⟩
theorem ds_expr (ha : DE X E e f) (hs : swapsWith e none pos.line X.env = pure false := by rfl) : DS X E (.Expr e pos) (exprS f) := by
  obtain ⟨t, p, q⟩ := ha
  refine ⟨_, ps_expr p hs, fun σ H σd S ι N hE hS h => ?_⟩
  exact q σ H σd S ι _ hE hS (Wp.run h fun d S1 _ v H1 ι1 p1 r1 h1 => h1 _ _ _ (.refl p1.sto) (hE.mono p1.pre p1.keep))
theorem ds_ret (ha : DE X E e f) : DS X E (.Return (some e) pos) (retS f) := by
  obtain ⟨t, p, q⟩ := ha
  refine ⟨_, ps_ret p, fun σ H σd S ι N hE hS h => ?_⟩
  exact q σ H σd S ι _ hE hS (Wp.run h fun d S1 _ v H1 ι1 p1 r1 h1 => h1 _ _ _ (.refl p1.sto) r1)
theorem ds_if {ft : Tx} {u w : Sx} {as bs : List Stmt} (hc : DT X E c ft) (ha : DSs X E as u) (hb : DSs X E bs w) : DS X E (.If c as bs pos) (ifS ft u w) := by
  obtain ⟨t, p, q⟩ := hc
  obtain ⟨ta, pa, qa⟩ := ha
  obtain ⟨tb, pb, qb⟩ := hb
  refine ⟨_, ps_if p pa pb, fun σ H σd S ι N hE hS h => ?_⟩
  refine q σ H σd S ι _ hE hS (Wp.run h fun d S1 _ v H1 ι1 p1 r1 h1 => ?_)
  cases r1
  cases d with
  | true => exact qa σ H1 σd S1 ι1 _ (hE.mono p1.pre p1.keep) p1.sto h1
  | false => exact qb σ H1 σd S1 ι1 _ (hE.mono p1.pre p1.keep) p1.sto h1
/-- target = value, whatever the target -/
theorem ds_asg {vs : List Nat} {tg : Expr} {gg : Tg} (he : DE X E e f) (hg : DG X E vs tg gg) (hs : swapsWithSole [tg] e pos.line X.env = pure false := by rfl) (hw : swappedStores [tg] e X.env = pure none := by rfl)
    (h1 : (assignEach [tg] X.env).map (·.2) = [assign tg X.env] := by rfl) : DS X E (.Assign [tg] e pos) (asgS f gg) := by
  obtain ⟨t, p, q⟩ := he
  obtain ⟨u, pu, qu⟩ := hg
  refine ⟨_, ps_asg p pu hs hw h1, fun σ H σd S ι N hE hS h => ?_⟩
  refine q σ H σd S ι _ hE hS (Wp.run h fun d S1 _ v H1 ι1 p1 r1 h1 => ?_)
  exact qu v d σ H1 σd S1 ι1 _ (hE.mono p1.pre p1.keep) p1.sto r1 (Wp.run h1 fun σ2 S2 _ v2 H2 ι2 p2 r2 h2 => h2 _ _ _ (.refl p2.sto) r2.1)
/-- name = value -/
theorem ds_set (i : Nat) {x : Str} {pos' : Pos} (hN : X.N.Nodup) (he : DE X E e f) (hi : X.N[i]? = some x := by rfl) (hx : Loc X.env.scope x := by first | exact Or.inl rfl | exact Or.inr rfl) (hs : swapsWith e (some (.Name x pos')) pos.line X.env = pure false := by rfl)
    (hf : X.fn x = true ∨ X.env.scope.names.lookup x = some .local := by first | exact .inl rfl | exact .inr rfl) : DS X E (.Assign [.Name x pos'] e pos) (asgS f (nmG i)) := by
  obtain ⟨t, p, q⟩ := he
  refine ⟨_, ps_set hN hi hx p hs hf, fun σ H σd S ι N hE hS h => ?_⟩
  refine q σ H σd S ι _ hE hS (Wp.run h fun d S1 _ v H1 ι1 p1 r1 h1 => ?_)
  exact h1 _ _ _ (.refl p1.sto) ((hE.mono p1.pre p1.keep).set i r1)
theorem ds_par {i j : Nat} {x y : Str} {px py pt : Pos} {kt k2 pt2} (hc : X.calm = true) (hN : X.N.Nodup) (ha : DA X E [a, b] fs) (hi : X.N[i]? = some x := by rfl) (hj : X.N[j]? = some y := by rfl) (hij : i ≠ j := by decide)
    (hx : X.env.scope.names.lookup x = some .local := by rfl) (hy : X.env.scope.names.lookup y = some .local := by rfl)
    (hw : swappedStores [.Tuple [.Name x px, .Name y py] kt pt] (.Tuple [a, b] k2 pt2) X.env = pure (some [x, y]) := by rfl)
    (hs : swapsWithSole [.Tuple [.Name x px, .Name y py] kt pt] (.Tuple [a, b] k2 pt2) pos.line X.env = pure false := by rfl) :
    DS X E (.Assign [.Tuple [.Name x px, .Name y py] kt pt] (.Tuple [a, b] k2 pt2) pos) (parS [i, j] fs) := by
  obtain ⟨l, t, p, q⟩ := ha
  refine ⟨_, ps_par hc hN hi hj hij hx hy p hw hs, fun σ H σd S ι N hE hS h => ?_⟩
  refine q σ H σd S ι _ hE hS (Wp.run h fun d S1 e1 v H1 ι1 p1 r1 h1 => ?_)
  have hl := l _ _ _ _ e1
  cases r1 with
  | nil => cases hl
  | cons ra rs =>
    cases rs with
    | nil => cases hl
    | cons rb rt =>
      cases rt with
      | cons _ _ => cases hl
      | nil => exact ⟨_, _, rfl, h1 _ _ _ (.refl p1.sto) (((hE.mono p1.pre p1.keep).set i ra).set j rb)⟩
end
end DV

set_option maxHeartbeats 4000000
/-! Loops, comprehensions, what is walked. -/
namespace DV
open PySem PySem.Spec PyProof.Rows L2

/-- J walks the items xs, from the heap H0 on -/
structure WalkR (K : PySem.W.Frag) (H0 : Hp) (J : L2.It) (xs : List D) : Prop where
  len : xs.length ≤ sizeLine
  go : ∀ i H, Keep H0 H → i < xs.length → J.go i H
  stop : ∀ H, Keep H0 H → J.stop xs.length H
  yld : ∀ i H v H' x, Keep H0 H → xs[i]? = some x → J.yld i H v H' → KeepA H H' ∧ (∀ (b : Addr) (vs : MO), H b = some vs.ho → H' b = some vs.ho) ∧ (∀ b, H b ≠ none → H' b ≠ none) ∧ ∀ ι, Rd K ι H' v x
theorem WalkR.keep {K : PySem.W.Frag} {H0 H1 : Hp} {J : L2.It} {xs : List D} (w : WalkR K H0 J xs) (k : Keep H0 H1) : WalkR K H1 J xs :=
  ⟨w.len, fun i H q => w.go i H (k.trans q), fun H q => w.stop H (k.trans q), fun i H v H' x q => w.yld i H v H' x (k.trans q)⟩
def DI (X : Cx) (E : XK) (tg iter : Expr) (f : DV.It) : Prop := ∃ wi, PI X tg iter wi ∧ ∀ σ H σd S ι R, EnR X.K ι H σ σd → StR X.K ι H S → Wp X.K X.mg E ι H (fun _ H' J xs => WalkR X.K H' J xs) (f σd S) R → wi σ H R

section
variable {X : Cx} {E : XK} {k : Nat} {e a b c : Expr} {f g h : Ex} {es : List Expr} {fs : Ax} {pos : Pos}
theorem wipe_wipe (σ : L2.St) (vs : List Nat) : wipe (wipe σ vs) vs = wipe σ vs := by
  apply List.ext_getElem?
  intro j
  by_cases hj : j ∈ vs
  · by_cases hl : j < σ.length
    · rw [wipe_get hj (by rw [wipe_length]; exact hl), wipe_get hj hl]
    · rw [List.getElem?_eq_none (by rw [wipe_length, wipe_length]; omega), List.getElem?_eq_none (by rw [wipe_length]; omega)]
  · rw [wipe_out hj]
theorem drop_cons {α : Type} {xs : List α} {i : Nat} (hi : i < xs.length) : xs.drop i = xs[i] :: xs.drop (i + 1) := List.drop_eq_getElem_cons hi
/-- for target in iter: body -/
theorem ds_for {vs : List Nat} {tg iter : Expr} {body : List Stmt} {it : DV.It} {gg : Tg} {u : Sx} (o : Okx k X E) (hi : DI X E tg iter it) (hg : DG X E vs tg gg) (hb : DSs X E body u) (hs : ∀ x, foldedSetIterable iter X.env x = pure x := by intro _; rfl) :
    DS X E (.For tg iter body [] pos) (forS it gg u) := by
  obtain ⟨wi, p, q⟩ := hi
  obtain ⟨t, pt, qt⟩ := hg
  obtain ⟨tb, pb, qb⟩ := hb
  refine ⟨_, ps_for o.own o.calm p pt pb hs, fun σ H σd S ι N hE hS h => ?_⟩
  refine q σ H σd S ι _ hE hS (Wp.run h fun xs S1 _ J H1 ι1 p1 w h1 => ?_)
  refine ⟨fun i m σ' H' => m = xs.length - i ∧ i ≤ xs.length ∧ Keep H1 H' ∧ ∃ σd' S' ι', EnR X.K ι' H' σ' σd' ∧ StR X.K ι' H' S' ∧ WpF X.K X.mg E ι' H' (forL gg u (xs.drop i) σd' S') N,
    ⟨_, rfl, Nat.zero_le _, .refl _, σd, S1, ι1, hE.mono p1.pre p1.keep, p1.sto, by rw [List.drop_zero]; exact h1⟩, ?_⟩
  rintro i m σ' H' ⟨rfl, hle, kp, σd', S', ι', hE', hS', hw⟩
  by_cases hlt : i < xs.length
  · refine .inr ⟨w.go i H' kp hlt, fun σ2 H2 => i + 1 ≤ xs.length ∧ Keep H1 H2 ∧ ∃ σd' S' ι', EnR X.K ι' H2 σ2 σd' ∧ StR X.K ι' H2 S' ∧ WpF X.K X.mg E ι' H2 (forL gg u (xs.drop (i + 1)) σd' S') N,
      fun σ2 H2 ⟨z1, z2, z3⟩ => ⟨_, by omega, rfl, z1, z2, z3⟩, fun v H2 y => ?_⟩
    obtain ⟨k2, l2, n2, r2⟩ := w.yld i H' v H2 xs[i] kp (List.getElem?_eq_getElem hlt) y
    have pp : Post X.K ι' H' ι' H2 S' := ⟨List.prefix_refl _, k2, hS'.keep k2 l2 n2, fun b vs m q => ⟨l2 b (.lst vs) q, m⟩, n2⟩
    rw [drop_cons hlt] at hw
    have hw2 := WpF.re pp hw
    unfold forL at hw2
    refine qt v xs[i] σ' H2 σd' S' ι' _ (hE'.mono (List.prefix_refl _) k2) pp.sto (r2 ι') ?_
    cases hgx : gg xs[i] σd' S' with
    | no => rw [hgx] at hw2; exact hw2.elim
    | ex c S3 => rw [hgx] at hw2; exact hw2
    | ok σd3 S3 =>
      rw [hgx] at hw2
      intro σ3 H3 ι3 p3 r3
      refine qb σ3 H3 σd3 S3 ι3 _ r3.1 p3.sto ?_
      have hw3 := WpF.re p3 hw2
      simp only at hw3
      have nxt : ∀ σd4 S4, WpF X.K X.mg E ι3 H3 (forL gg u (xs.drop (i + 1)) σd4 S4) N → ∀ σ4 H4 ι4, Post X.K ι3 H3 ι4 H4 S4 → EnR X.K ι4 H4 σ4 σd4 →
          i + 1 ≤ xs.length ∧ Keep H1 H4 ∧ ∃ σd' S' ι', EnR X.K ι' H4 σ4 σd' ∧ StR X.K ι' H4 S' ∧ WpF X.K X.mg E ι' H4 (forL gg u (xs.drop (i + 1)) σd' S') N := fun σd4 S4 hz σ4 H4 ι4 p4 r4 =>
        ⟨hlt, ((kp.trans k2).trans p3.keep).trans p4.keep, σd4, S4, ι4, r4, p4.sto, WpF.re p4 hz⟩
      cases hu : u σd3 S3 with
      | nx σd4 S4 => rw [hu] at hw3; exact nxt _ _ hw3
      | ct σd4 S4 => rw [hu] at hw3; exact nxt _ _ hw3
      | bk σd4 S4 => rw [hu] at hw3; exact hw3
      | rt d S4 => rw [hu] at hw3; exact hw3
      | ex c S4 => rw [hu] at hw3; exact hw3
      | no => rw [hu] at hw3; exact hw3.elim
  · have hi : i = xs.length := by omega
    subst hi
    refine .inl ⟨w.stop H' kp, ?_⟩
    rw [List.drop_length] at hw
    exact hw _ _ _ (.refl hS') hE'
/-! ### comprehensions -/
/-- the tests of a comprehension -/
def DTs (X : Cx) (E : XK) (es : List Expr) (f : Tx) : Prop := ∃ t, PTs X es t ∧ ∀ σ H σd S ι Q, EnR X.K ι H σ σd → StR X.K ι H S → Wp X.K X.mg E ι H relB (f σd S) Q → t σ H Q
theorem dts_nil : DTs X E [] yesT := ⟨_, pts_nil, fun σ H σd S ι Q hE hS h => h _ _ _ (.refl hS) rfl⟩
theorem dts_one {ft : Tx} (h : DT X E c ft) : DTs X E [c] ft := by
  obtain ⟨t, p, q⟩ := h
  exact ⟨_, pts_one p, q⟩
theorem wipe_rel {K : PySem.W.Frag} {ι : List Addr} {H : Hp} {σ : L2.St} {σd : En} (h : EnR K ι H σ σd) : ∀ vs : List Nat, EnR K ι H (wipe σ vs) (wipeD σd vs)
  | [] => h
  | v :: vs => by
    have ih := wipe_rel h vs
    unfold wipe wipeD
    refine ⟨by rw [List.length_set, List.length_set, ih.len], fun j d e => ?_⟩
    by_cases hj : v = j
    · subst hj
      by_cases hl : v < (wipeD σd vs).length
      · rw [List.getElem?_set_self hl] at e; cases e
      · rw [List.getElem?_eq_none (by rw [List.length_set]; omega)] at e; cases e
    · rw [List.getElem?_set_ne hj] at e ⊢
      exact ih.at_ j d e
/-- one reading for every frame of a block -/
theorem uni_e {e : Expr} {f : Ex} {scope : Scope} (h : ∀ (s : Shared) (H : Hp) (C : Addr) (cl : List (Str × Addr)) (fp : List Addr), DE (X.blk s H scope (compEnvC scope cl C X.env) fp) E0 e f) :
    ∃ t, (∀ (s : Shared) (H : Hp) (C : Addr) (cl : List (Str × Addr)) (fp : List Addr), PE (X.blk s H scope (compEnvC scope cl C X.env) fp) e t) ∧
      ∀ σ H σd S ι Q, EnR X.K ι H σ σd → StR X.K ι H S → Wp X.K X.mg E0 ι H (relD X.K) (f σd S) Q → t σ H Q := by
  refine ⟨fun σ H Q => ∀ (s : Shared) (H1 : Hp) (C : Addr) (cl : List (Str × Addr)) (fp : List Addr), Classical.choose (h s H1 C cl fp) σ H Q, fun s H1 C cl fp => ?_, fun σ H σd S ι Q hE hS hw s H1 C cl fp => ?_⟩
  · exact ⟨fun pins s2 σ H Q I hq => (Classical.choose_spec (h s H1 C cl fp)).1.run pins s2 σ H Q I (hq s H1 C cl fp)⟩
  · exact (Classical.choose_spec (h s H1 C cl fp)).2 σ H σd S ι Q hE hS hw
theorem uni_t {es : List Expr} {f : Tx} {scope : Scope} (h : ∀ (s : Shared) (H : Hp) (C : Addr) (cl : List (Str × Addr)) (fp : List Addr), DTs (X.blk s H scope (compEnvC scope cl C X.env) fp) E0 es f) :
    ∃ t, (∀ (s : Shared) (H : Hp) (C : Addr) (cl : List (Str × Addr)) (fp : List Addr), PTs (X.blk s H scope (compEnvC scope cl C X.env) fp) es t) ∧
      ∀ σ H σd S ι Q, EnR X.K ι H σ σd → StR X.K ι H S → Wp X.K X.mg E0 ι H relB (f σd S) Q → t σ H Q := by
  refine ⟨fun σ H Q => ∀ (s : Shared) (H1 : Hp) (C : Addr) (cl : List (Str × Addr)) (fp : List Addr), Classical.choose (h s H1 C cl fp) σ H Q, fun s H1 C cl fp => ?_, fun σ H σd S ι Q hE hS hw s H1 C cl fp => ?_⟩
  · exact ⟨fun pins s2 σ H Q I hq => (Classical.choose_spec (h s H1 C cl fp)).1.run pins s2 σ H Q I (hq s H1 C cl fp)⟩
  · exact (Classical.choose_spec (h s H1 C cl fp)).2 σ H σd S ι Q hE hS hw
theorem uni_g {vs : List Nat} {tg : Expr} {g : Tg} {scope : Scope} (h : ∀ (s : Shared) (H : Hp) (C : Addr) (cl : List (Str × Addr)) (fp : List Addr), DG (X.blk s H scope (compEnvC scope cl C X.env) fp) E0 vs tg g) :
    ∃ t, (∀ (s : Shared) (H : Hp) (C : Addr) (cl : List (Str × Addr)) (fp : List Addr), PG (X.blk s H scope (compEnvC scope cl C X.env) fp) tg t) ∧
      ∀ v d σ H σd S ι Q, EnR X.K ι H σ σd → StR X.K ι H S → Rd X.K ι H v d → Wp X.K X.mg E0 ι H (fun ι' H' σ' σd' => EnR X.K ι' H' σ' σd' ∧ wipe σ' vs = wipe σ vs) (g d σd S) Q → t v σ H Q := by
  refine ⟨fun v σ H Q => ∀ (s : Shared) (H1 : Hp) (C : Addr) (cl : List (Str × Addr)) (fp : List Addr), Classical.choose (h s H1 C cl fp) v σ H Q, fun s H1 C cl fp => ?_, fun v d σ H σd S ι Q hE hS r hw s H1 C cl fp => ?_⟩
  · exact ⟨fun pins s2 σ H v u Q I rv hq => (Classical.choose_spec (h s H1 C cl fp)).1.run pins s2 σ H v u Q I rv (hq s H1 C cl fp)⟩
  · exact (Classical.choose_spec (h s H1 C cl fp)).2 v d σ H σd S ι Q hE hS r hw
/-- the reading of a comprehension -/
theorem lc_read {wi : TI} {g : TG} {tt : TT} {te : TE} {vs : List Nat} {it : DV.It} {gg : Tg} {ft : Tx} {fe : Ex}
    (q : ∀ σ H σd S ι R, EnR X.K ι H σ σd → StR X.K ι H S → Wp X.K X.mg E ι H (fun _ H' J xs => WalkR X.K H' J xs) (it σd S) R → wi σ H R)
    (qg : ∀ v d σ H σd S ι Q, EnR X.K ι H σ σd → StR X.K ι H S → Rd X.K ι H v d → Wp X.K X.mg E0 ι H (fun ι' H' σ' σd' => EnR X.K ι' H' σ' σd' ∧ wipe σ' vs = wipe σ vs) (gg d σd S) Q → g v σ H Q)
    (qt : ∀ σ H σd S ι Q, EnR X.K ι H σ σd → StR X.K ι H S → Wp X.K X.mg E0 ι H relB (ft σd S) Q → tt σ H Q)
    (qe : ∀ σ H σd S ι Q, EnR X.K ι H σ σd → StR X.K ι H S → Wp X.K X.mg E0 ι H (relD X.K) (fe σd S) Q → te σ H Q)
    {σ : L2.St} {H : Hp} {σd : En} {S : Sto} {ι : List Addr} {Q : VK} (hE : EnR X.K ι H σ σd) (hS : StR X.K ι H S) (h : Wp X.K X.mg E ι H (relL X.K H) (lcX it vs gg ft fe σd S) Q) : tLc wi g tt te vs σ H Q := by
  refine q σ H σd S ι _ hE hS (Wp.bind0 h fun xs S1 _ J H1 ι1 p1 w h1 => ?_)
  intro Dl hD
  have hD0 : H Dl = none := by
    cases q0 : H Dl with
    | none => rfl
    | some u => exact absurd hD (p1.dom Dl (by rw [q0]; simp))
  have p2 : Post X.K ι H ι1 (upd H1 Dl (.lst [])) S1 := p1.trans (.new p1.sto hD)
  refine ⟨fun i m H' => m = xs.length - i ∧ i ≤ xs.length ∧ Keep H1 H' ∧ ∃ ws ds S' ι', Post X.K ι H ι' H' S' ∧ H' Dl = some (.lst ws) ∧ Dl ∉ ι' ∧ ws.length ≤ i ∧ RdAll X.K ι' H' ws ds ∧
      Wp X.K X.mg E ι H (relL X.K H) ((lcL gg ft fe (wipeD σd vs) (xs.drop i) S').bind fun es S4 => .ok (ds ++ es) S4) Q,
    ⟨_, rfl, Nat.zero_le _, .new hD, [], [], S1, ι1, p2, upd_same, p1.sto.notin hD, Nat.le_refl _, .nil, ?_⟩, ?_⟩
  · rw [List.drop_zero]
    cases hl : lcL gg ft fe (wipeD σd vs) xs S1 <;> (rw [hl] at h1; exact h1)
  rintro i m H' ⟨rfl, hle, kp, ws, ds, S', ι', pp, hDl, hn, hlen, rr, hw⟩
  by_cases hlt : i < xs.length
  · refine .inr ⟨w.go i H' kp hlt, fun H2 => i + 1 ≤ xs.length ∧ Keep H1 H2 ∧ ∃ ws ds S' ι', Post X.K ι H ι' H2 S' ∧ H2 Dl = some (.lst ws) ∧ Dl ∉ ι' ∧ ws.length ≤ i + 1 ∧ RdAll X.K ι' H2 ws ds ∧
        Wp X.K X.mg E ι H (relL X.K H) ((lcL gg ft fe (wipeD σd vs) (xs.drop (i + 1)) S').bind fun es S4 => .ok (ds ++ es) S4) Q,
      fun H2 ⟨z1, z2, z3⟩ => ⟨_, by omega, rfl, z1, z2, z3⟩, fun v H2 y => ?_⟩
    obtain ⟨k2, l2, n2, r2⟩ := w.yld i H' v H2 xs[i] kp (List.getElem?_eq_getElem hlt) y
    have p3 : Post X.K ι' H' ι' H2 S' := ⟨List.prefix_refl _, k2, pp.sto.keep k2 l2 n2, fun b vs m q => ⟨l2 b (.lst vs) q, m⟩, n2⟩
    have pp2 := pp.trans p3
    rw [drop_cons hlt] at hw
    unfold lcL at hw
    refine qg v xs[i] _ H2 (wipeD σd vs) S' ι' _ (wipe_rel (hE.mono pp2.pre pp2.keep) vs) pp2.sto (r2 ι') ?_
    cases hgx : gg xs[i] (wipeD σd vs) S' with
    | no => rw [hgx] at hw; exact hw.elim
    | ex c S3 => rw [hgx] at hw; exact hw.elim
    | ok σd3 S3 =>
      rw [hgx] at hw
      intro σ3 H3 ι3 p4 r4
      refine ⟨r4.2.trans (wipe_wipe σ vs), ?_⟩
      have pp3 := pp2.trans p4
      refine qt σ3 H3 σd3 S3 ι3 _ r4.1 p4.sto ?_
      simp only at hw
      cases hft : ft σd3 S3 with
      | no => rw [hft] at hw; exact hw.elim
      | ex c S3 => rw [hft] at hw; exact hw.elim
      | ok kk S4 =>
        rw [hft] at hw
        intro bb H4 ι4 p5 r5
        cases r5
        have pp4 := pp3.trans p5
        have dl4 := (p3.trans p4).trans p5
        have hD4 := dl4.frame Dl ws hn hDl
        simp only at hw
        cases kk with
        | false =>
          rw [if_neg Bool.false_ne_true] at hw ⊢
          exact ⟨hlt, (kp.trans dl4.keep), ws, ds, S4, ι4, pp4, hD4.1, hD4.2, by omega, rr.mono dl4.pre dl4.keep, hw⟩
        | true =>
          rw [if_pos rfl] at hw ⊢
          refine qe σ3 H4 σd3 S4 ι4 _ (r4.1.mono p5.pre p5.keep) p5.sto ?_
          cases hfe : fe σd3 S4 with
          | no => rw [hfe] at hw; exact hw.elim
          | ex c S3 => rw [hfe] at hw; exact hw.elim
          | ok d S5 =>
            rw [hfe] at hw
            intro y H5 ι5 p6 r6
            have pp5 := pp4.trans p6
            have dl5 := dl4.trans p6
            have hD5 := dl5.frame Dl ws hn hDl
            have hz := w.len
            refine ⟨ws, hD5.1, by omega, hlt, (kp.trans dl5.keep).trans (.list hD5.1), ws ++ [y], ds ++ [d], S5, ι5, pp5.fixNew hD5.1 hD5.2 hD0, upd_same, hD5.2, by rw [List.length_append]; show ws.length + 1 ≤ _; omega, ?_, ?_⟩
            · exact Paired.app (RdAll.mono (List.prefix_refl _) (.list hD5.1) (rr.mono dl5.pre dl5.keep)) (.cons (r6.mono (List.prefix_refl _) (.list hD5.1)) .nil)
            · simp only at hw
              cases hl : lcL gg ft fe (wipeD σd vs) (xs.drop (i + 1)) S5 with
              | no => rw [hl] at hw; exact hw
              | ex c S6 => rw [hl] at hw; exact hw
              | ok es S6 =>
                rw [hl] at hw
                simp only [bind_ok] at hw ⊢
                rw [List.append_assoc]
                exact hw
  · have hi : i = xs.length := by omega
    subst hi
    refine .inl ⟨w.stop H' kp, ?_⟩
    rw [List.drop_length] at hw
    simp only [lcL, bind_ok, List.append_nil] at hw
    exact hw _ _ _ pp ⟨Dl, ws, hD0, rfl, hDl, hn, Nat.le_trans hlen w.len, rr⟩
end
end DV

set_option maxHeartbeats 4000000
/-! Comprehensions as expressions, lists fixed, what is walked. -/
namespace DV
open PySem PySem.Spec PyProof.Rows L2
section
variable {X : Cx} {E : XK} {k : Nat} {e a b c : Expr} {f g h : Ex} {es : List Expr} {fs : Ax} {pos : Pos}
theorem dl_lc {elt tg iter : Expr} {ifs : List Expr} {scope : Scope} (own : List (Str × Nat)) {it : DV.It} {gg : Tg} {ft : Tx} {fe : Ex} (o : Okx k X E) (hi : DI X E tg iter it)
    (hg : ∀ (s : Shared) (H : Hp) (C : Addr) (cl : List (Str × Addr)) (fp : List Addr), Okx k (X.blk s H scope (compEnvC scope cl C X.env) fp) E0 → DG (X.blk s H scope (compEnvC scope cl C X.env) fp) E0 (own.map (·.2)) tg gg)
    (ht : ∀ (s : Shared) (H : Hp) (C : Addr) (cl : List (Str × Addr)) (fp : List Addr), Okx k (X.blk s H scope (compEnvC scope cl C X.env) fp) E0 → DTs (X.blk s H scope (compEnvC scope cl C X.env) fp) E0 ifs ft)
    (he : ∀ (s : Shared) (H : Hp) (C : Addr) (cl : List (Str × Addr)) (fp : List Addr), Okx k (X.blk s H scope (compEnvC scope cl C X.env) fp) E0 → DE (X.blk s H scope (compEnvC scope cl C X.env) fp) E0 elt fe)
    (ok : BlkOk X.N X.env.scope scope own := by exact blkOk_by (by rfl)) (hs : ∀ x, foldedSetIterable iter X.env x = pure x := by intro _; rfl) :
    DL X E (.ListComp elt [⟨tg, iter, ifs, 0⟩] scope pos) (lcX it (own.map (·.2)) gg ft fe) := by
  obtain ⟨wi, p, q⟩ := hi
  obtain ⟨tg', pg, qg⟩ := uni_g fun s H C cl fp => hg s H C cl fp (o.blk s H scope _ fp)
  obtain ⟨tt, pt, qt⟩ := uni_t fun s H C cl fp => ht s H C cl fp (o.blk s H scope _ fp)
  obtain ⟨te, pe, qe⟩ := uni_e fun s H C cl fp => he s H C cl fp (o.blk s H scope _ fp)
  exact ⟨_, pe_lc o.calm o.nd p ok pg pt pe hs, fun σ H σd S ι Q hE hS h => lc_read q qg qt qe hE hS h⟩
/-- name = [..] on one line, fixed or not -/
def tFzS (t : TS) : TS := fun N σ H => t { N with nx := fun σ' H' => ∃ a xs, H' a = some (.lst xs) ∧ ∀ o, N.nx σ' (upd H' a (.frz o (.lst xs))) } σ H
theorem ps_frz {st : Stmt} {t : TS} (p : PS X st t) : PS X st (tFzS t) := by
  refine ⟨fun pins s σ H N I h => thn (p.run pins s σ H _ I h) fun fl s1 q => ?_⟩
  cases fl with
  | next =>
    obtain ⟨σ', H', I1, a, xs, ha, q⟩ := q
    obtain ⟨o, I2⟩ := I1.lock ha trivial
    exact ⟨σ', _, I2, q o⟩
  | brk => exact q
  | cont => exact q
  | ret v => exact q
theorem ds_setLcF (i : Nat) {y : Str} {py spos : Pos} {elt tg iter : Expr} {ifs : List Expr} {scope : Scope} (own : List (Str × Nat)) {it : DV.It} {gg : Tg} {ft : Tx} {fe : Ex} (o : Okx k X E) (hi : DI X E tg iter it)
    (hg : ∀ (s : Shared) (H : Hp) (C : Addr) (cl : List (Str × Addr)) (fp : List Addr), Okx k (X.blk s H scope (compEnvC scope cl C X.env) fp) E0 → DG (X.blk s H scope (compEnvC scope cl C X.env) fp) E0 (own.map (·.2)) tg gg)
    (ht : ∀ (s : Shared) (H : Hp) (C : Addr) (cl : List (Str × Addr)) (fp : List Addr), Okx k (X.blk s H scope (compEnvC scope cl C X.env) fp) E0 → DTs (X.blk s H scope (compEnvC scope cl C X.env) fp) E0 ifs ft)
    (he : ∀ (s : Shared) (H : Hp) (C : Addr) (cl : List (Str × Addr)) (fp : List Addr), Okx k (X.blk s H scope (compEnvC scope cl C X.env) fp) E0 → DE (X.blk s H scope (compEnvC scope cl C X.env) fp) E0 elt fe)
    (hy : X.N[i]? = some y := by rfl) (hyl : X.env.scope.names.lookup y = some .local := by rfl)
    (hsw : swapsWith (.ListComp elt [⟨tg, iter, ifs, 0⟩] scope pos) (some (.Name y py)) spos.line X.env = pure true := by exact sw_true rfl rfl rfl (by decide +kernel))
    (ok : BlkOk X.N X.env.scope scope own := by exact blkOk_by (by rfl)) (hs : ∀ x, foldedSetIterable iter X.env x = pure x := by intro _; rfl) :
    DS X E (.Assign [.Name y py] (.ListComp elt [⟨tg, iter, ifs, 0⟩] scope pos) spos) (asgS (lcF it (own.map (·.2)) gg ft fe) (nmG i)) := by
  obtain ⟨wi, p, q⟩ := hi
  obtain ⟨tg', pg, qg⟩ := uni_g fun s H C cl fp => hg s H C cl fp (o.blk s H scope _ fp)
  obtain ⟨tt, pt, qt⟩ := uni_t fun s H C cl fp => ht s H C cl fp (o.blk s H scope _ fp)
  obtain ⟨te, pe, qe⟩ := uni_e fun s H C cl fp => he s H C cl fp (o.blk s H scope _ fp)
  refine ⟨_, ps_frz (ps_setLc o.calm o.nd hy hyl hsw p ok pg pt pe hs), fun σ H σd S ι N hE hS h => ?_⟩
  refine (lc_read q qg qt qe hE hS ?_ : tLc wi tg' tt te (own.map (·.2)) σ H (fun x H1 => ∃ a xs, H1 a = some (.lst xs) ∧ ∀ o, N.nx (σ.set i (some x)) (upd H1 a (.frz o (.lst xs)))))
  unfold asgS lcF frzE at h
  cases hl : lcX it (own.map (·.2)) gg ft fe σd S with
  | no => rw [hl] at h; exact h.elim
  | ex c S1 => rw [hl] at h; exact h
  | ok ds S1 =>
    rw [hl] at h
    intro v H1 ι1 p1 r1
    cases hp : pysOf ds with
    | none => simp only [frz, bind_ok, hp, run_no] at h; exact h.elim
    | some ps =>
      simp only [frz, bind_ok, hp, run_ok, nmG] at h
      obtain ⟨a, xs, rfl, ha, z⟩ := frz_post p1 r1 hp
      refine ⟨a, xs, ha, fun o => h _ _ _ (z o).1 ?_⟩
      exact (hE.mono p1.pre (z o).1.keep).set i (.py (z o).2)
theorem EnR.setD {K : PySem.W.Frag} {ι : List Addr} {H : Hp} {σ : L2.St} {σd : En} {v : V} {d : D} {i : Nat} (h : EnR K ι H σ σd) (e : σ[i]? = some (some v)) (r : Rd K ι H v d) : EnR K ι H σ (σd.set i (some d)) := by
  refine ⟨by rw [List.length_set, h.len], fun j d' e' => ?_⟩
  by_cases hj : i = j
  · subst hj
    have hlt : i < σd.length := by
      have := (List.getElem?_eq_some_iff.mp e').1
      simpa using this
    rw [List.getElem?_set_self hlt] at e'
    cases e'
    exact ⟨v, e, r⟩
  · rw [List.getElem?_set_ne hj] at e'
    exact h.at_ j d' e'

/-! ### a list of a slot is fixed -/
def tFix (t : TS) : TS := fun N σ H => ∃ a xs, H a = some (.lst xs) ∧ (xs.length ≤ sizeLine → ∀ o, t N σ (upd H a (.frz o (.lst xs))))
theorem pss_fix {sts : List Stmt} {t : TS} (p : PSs X sts t) : PSs X sts (tFix t) := by
  refine ⟨fun pins s σ H N I ⟨a, xs, ha, h⟩ => ?_⟩
  obtain ⟨o, I2⟩ := I.lock ha trivial
  exact p.run pins s σ _ N I2 (h (I.hok a _ ha).1 o)
theorem fix_post {ι : List Addr} {H : Hp} {S : Sto} {n : Nat} {a : Addr} {vs : List V} {o : HO} (hS : StR X.K ι H S) (e : ι[n]? = some a) (ha : H a = some (.lst vs)) : Post X.K ι H ι (upd H a o) (S.set n .gone) :=
  .wr e ha (hS.fix e ha)
theorem dss_fix {sts : List Stmt} {w : Sx} (i : Nat) (h : DSs X E sts w) : DSs X E sts (seqS (fixS i) w) := by
  obtain ⟨t, p, q⟩ := h
  refine ⟨_, pss_fix p, fun σ H σd S ι N hE hS h => ?_⟩
  unfold seqS fixS at h
  cases hi : σd[i]? with
  | none => rw [hi] at h; exact h.elim
  | some od =>
    cases od with
    | none => rw [hi] at h; exact h.elim
    | some d =>
      cases d with
      | py d => rw [hi] at h; exact h.elim
      | raw d => rw [hi] at h; exact h.elim
      | obj n =>
        rw [hi] at h
        simp only at h
        cases hn : S[n]? with
        | none => rw [hn] at h; exact h.elim
        | some u =>
          cases u with
          | gone => rw [hn] at h; exact h.elim
          | tab _ _ => rw [hn] at h; exact h.elim
          | dt _ => rw [hn] at h; exact h.elim
          | dk _ => rw [hn] at h; exact h.elim
          | ins _ _ => rw [hn] at h; exact h.elim
          | tpl _ => rw [hn] at h; exact h.elim
          | lst ds =>
            rw [hn] at h
            simp only at h
            cases hp : pysOf ds with
            | none => rw [hp] at h; exact h.elim
            | some ps =>
              rw [hp] at h
              simp only at h
              obtain ⟨v, e1, r⟩ := hE.at_ i _ hi
              cases r with
              | obj en =>
                rename_i a
                cases hS.at_ _ _ _ hn en with
                | lst ha rr =>
                  rename_i vs
                  refine ⟨a, vs, ha, fun hz o => ?_⟩
                  have pp := fix_post (X := X) (o := .frz o (.lst vs)) hS en ha
                  refine q σ _ _ _ ι N ((hE.mono pp.pre pp.keep).setD e1 (.py (.lst (.inl ⟨o, upd_same⟩) ?_ ?_))) pp.sto (WpF.re pp h)
                  · rw [pysOf_length hp, ← rr.length]
                    exact hz
                  · exact (RdAll.pys rr hp).keep pp.keep
/-! ### what is walked -/
theorem pi_or {tg iter : Expr} {w1 w2 : TI} (h1 : PI X tg iter w1) (h2 : PI X tg iter w2) : PI X tg iter (fun σ H R => w1 σ H R ∨ w2 σ H R) :=
  ⟨fun pins s σ H R I h => h.elim (fun h => h1.run pins s σ H R I h) fun h => h2.run pins s σ H R I h⟩
theorem get_pys {ds : List PyData} {i : Nat} {x : D} (h : (ds.map D.py)[i]? = some x) : ∃ d, ds[i]? = some d ∧ x = .py d := by
  rw [List.getElem?_map, Option.map_eq_some_iff] at h
  obtain ⟨d, h1, h2⟩ := h
  exact ⟨d, h1, h2.symm⟩
theorem PpAll.getR {K : PySem.W.Frag} {H : Hp} : ∀ {vs : List V} {ds : List PyData} {i : Nat} {d : PyData}, PpAll K H vs ds → ds[i]? = some d → ∃ v, vs[i]? = some v ∧ Pp K H v d
  | _, _, _, _, .nil, e => by simp at e
  | _, _, 0, _, .cons r _, e => by simp at e; subst e; exact ⟨_, rfl, r⟩
  | _, _, i + 1, y, .cons r t, e => by
    obtain ⟨x, h1, h2⟩ := PpAll.getR (i := i) t (by simpa using e)
    exact ⟨x, by simpa using h1, h2⟩
theorem walk_list {K : PySem.W.Frag} {H0 : Hp} {a : Addr} {xs : List V} {ds : List PyData} (hf : FL K H0 a xs) (hz : ds.length ≤ sizeLine) (al : PpAll K H0 xs ds) : WalkR K H0 (Itl K a) (ds.map D.py) := by
  have hl := al.length
  refine ⟨by rw [List.length_map]; exact hz, fun i H kp hi => ?_, fun H kp => ?_, fun i H v H' x kp hx y => ?_⟩
  · rw [List.length_map, ← hl] at hi
    exact ⟨xs, xs[i], (hf.keep kp).sq, List.getElem?_eq_getElem hi⟩
  · exact ⟨xs, (hf.keep kp).sq, by rw [List.length_map, hl]; exact Nat.le_refl _⟩
  · obtain ⟨e, y⟩ := y
    subst e
    obtain ⟨d, hd, rfl⟩ := get_pys hx
    obtain ⟨w, hw, pw⟩ := al.getR hd
    have := y xs (hf.keep kp).sq
    rw [hw] at this
    cases this
    exact ⟨.refl _, fun _ _ h => h, fun _ h => h, fun ι => .py (pw.keep kp)⟩
theorem walk_tup {K : PySem.W.Frag} {H0 : Hp} {a : Addr} {xs : List V} {ds : List PyData} (hf : SqT K H0 a xs) (hz : ds.length ≤ sizeLine) (al : PpAll K H0 xs ds) : WalkR K H0 (Itt K a) (ds.map D.py) := by
  have hl := al.length
  refine ⟨by rw [List.length_map]; exact hz, fun i H kp hi => ?_, fun H kp => ?_, fun i H v H' x kp hx y => ?_⟩
  · rw [List.length_map, ← hl] at hi
    exact ⟨xs, xs[i], sqT_keep kp hf, List.getElem?_eq_getElem hi⟩
  · exact ⟨xs, sqT_keep kp hf, by rw [List.length_map, hl]; exact Nat.le_refl _⟩
  · obtain ⟨e, y⟩ := y
    subst e
    obtain ⟨d, hd, rfl⟩ := get_pys hx
    obtain ⟨w, hw, pw⟩ := al.getR hd
    have := y xs (sqT_keep kp hf)
    rw [hw] at this
    cases this
    exact ⟨.refl _, fun _ _ h => h, fun _ h => h, fun ι => .py (pw.keep kp)⟩
theorem di_seq {tg : Expr} (ha : DE X E e f) : DI X E tg e (seqI f) := by
  obtain ⟨t, p, q⟩ := ha
  refine ⟨_, pi_or (pi_list p) (pi_tup p), fun σ H σd S ι R hE hS h => ?_⟩
  cases hf : f σd S with
  | no => unfold seqI at h; rw [hf] at h; exact h.elim
  | ex c S1 =>
    unfold seqI at h; rw [hf] at h
    refine .inl (q σ H σd S ι _ hE hS ?_)
    rw [hf]
    exact h
  | ok d S1 =>
    unfold seqI at h
    rw [hf] at h
    simp only [bind_ok] at h
    cases d with
    | obj n => exact h.elim
    | raw n => exact h.elim
    | py d =>
      cases d with
      | list ds =>
        refine .inl (q σ H σd S ι _ hE hS ?_)
        rw [hf]
        intro v H1 ι1 p1 r1
        cases r1 with
        | py r =>
          cases r with
          | lst hf hz al => exact ⟨_, rfl, ⟨_, hf.sq⟩, h _ _ _ p1 (walk_list hf hz al)⟩
      | tuple ds =>
        refine .inr (q σ H σd S ι _ hE hS ?_)
        rw [hf]
        intro v H1 ι1 p1 r1
        cases r1 with
        | py r =>
          cases r with
          | tup hf hz al => exact ⟨_, rfl, ⟨_, hf.sq⟩, h _ _ _ p1 (walk_tup hf.sq hz al)⟩
      | _ => exact h.elim
theorem rngV_get {lo : Int} {n i : Nat} {x : D} (h : (rngV lo n)[i]? = some x) : i < n ∧ x = .py (.int (lo + (i : Int))) := by
  have hl : i < n := by
    have := (List.getElem?_eq_some_iff.mp h).1
    unfold rngV at this
    simpa using this
  unfold rngV at h
  rw [List.getElem?_map, List.getElem?_range hl] at h
  cases h
  exact ⟨hl, rfl⟩
theorem rngV_len {lo : Int} {n : Nat} : (rngV lo n).length = n := by
  unfold rngV
  simp
theorem walk_rng {K : PySem.W.Frag} {H0 : Hp} {lo : Int} {n : Nat} (hz : n ≤ sizeLine) : WalkR K H0 (Itr lo n) (rngV lo n) := by
  refine ⟨by rw [rngV_len]; exact hz, fun i H kp hi => ?_, fun H kp => ?_, fun i H v H' x kp hx y => ?_⟩
  · rw [rngV_len] at hi
    exact hi
  · show n ≤ _
    rw [rngV_len]
    exact Nat.le_refl _
  · obtain ⟨e, y⟩ := y
    subst e y
    obtain ⟨_, rfl⟩ := rngV_get hx
    exact ⟨.refl _, fun _ _ h => h, fun _ h => h, fun ι => .py (.int _)⟩
theorem toNat_line {j : Int} (h : j ≤ 16777216) : j.toNat ≤ sizeLine := by
  rw [sizeLine_eq]
  omega
variable {p : Pos}
theorem di_rng1 {tg : Expr} (hm : X.mg "range" = none) (ha : DE X E a f) (hg : Gl X "range" := by rfl) (hs : starEach [a] X.env = [(false, eval a X.env)] := by rfl) : DI X E tg (.Call (.Name "range" p) [a] [] pos) (rng1I f) := by
  obtain ⟨t, pt, q⟩ := ha
  refine ⟨_, pi_range1 hg hm (pa_cons pt pa_nil hs) hs, fun σ H σd S ι R hE hS h => ?_⟩
  refine q σ H σd S ι _ hE hS (Wp.bind0 h fun d S1 _ v H1 ι1 p1 r1 h1 => ?_)
  split at h1
  · split at h1
    · rename_i hz
      refine ⟨_, by rw [int_of r1], hz.1, by have := hz.2; omega, h1 _ _ _ p1 (walk_rng (toNat_line hz.2))⟩
    · exact h1.elim
  · exact h1.elim
end
end DV

set_option maxHeartbeats 4000000
/-! The tuples that zip and enumerate give out have no dict. -/
namespace DV
open PySem
/-- the object there has no dict -/
def NoD (h : Heap) (T : Addr) : Prop := ∃ o, h.get? T = some o ∧ o.dict = none
section
variable {prog : Program} {w : World} {A : Around} {fp wr : List Addr} {n : Nat} {St : Nat → Heap → Prop} {I : Addr}
/-- a walk over tuples, each without a dict -/
structure WalksD (prog : Program) (w : World) (A : Around) (I : Addr) (fp wr : List Addr) (n : Nat) (Pt : Nat → Array Value → Prop) (St : Nat → Heap → Prop) (Mid : Nat → Addr → Heap → Prop) : Prop where
  base : WalksT prog w A I fp wr n Pt St Mid
  itemD : ∀ i (s : Shared) (Q : Option Value → Shared → Prop) (E : Value → Shared → Prop), i < n → St i s.heap →
    (∀ T vals h' tk, Pt i vals → s.heap.objs.size ≤ T → h'.IsTuple T vals → NoD h' T → Mid i T h' → (∀ b o, b ∉ wr → s.heap.get? b = some o → h'.get? b = some o) → Q (some (.ref T)) { s with heap := h', toks := tk }) →
    wpAny (model prog w) A (pyNext (.ref I)) Q E s
theorem WalksD.goes {elts : List Expr} {k : Nat} {pos : Pos} {Pt : Nat → Array Value → Prop} {Mid : Nat → Addr → Heap → Prop} (W : WalksD prog w A I fp wr n Pt St Mid) :
    GoesN prog w A (.Tuple elts k pos) I fp wr n (fun i h₀ v h => ∃ T vals, v = .ref T ∧ h₀.objs.size ≤ T ∧ Pt i vals ∧ h.IsTuple T vals ∧ NoD h T) St := by
  have G := GoesN.ofWalksT (elts := elts) (k := k) (pos := pos) W.base
  refine ⟨G.sub, G.frame, fun i s Q E hi st hQ => ?_, G.stops, G.self⟩
  refine wpAny_with_toks (n := s.toks) (Nat.le_refl _) (W.itemD i s _ _ hi st fun T vals h1 tk hP ge isT nd mid k1 htk => ⟨_, rfl, ?_⟩)
  refine W.base.go elts k pos i T { s with heap := h1, toks := tk } _ _ mid fun h2 st2 k2 => ?_
  have nw := W.base.apart i T h1 mid
  obtain ⟨ob, e1, e2⟩ := nd
  exact hQ _ h2 tk ⟨T, vals, rfl, ge, hP, isT.at fun o e => k2 T o nw e, ob, k2 T ob nw e1, e2⟩ st2 (fun b o hb e => k2 b o hb (k1 b o hb e)) htk
end
theorem away {h : Heap} {c : Addr} {o : Obj} (e : h.get? c = some o) : h.objs.size ≠ c := Nat.ne_of_gt (Heap.lt_size e)
section
variable {prog : Program} {w : World} {A : Around} {z TI TO i1 i2 i3 : Addr} {fp1 fp2 fp3 : List Addr} {n1 n2 n3 : Nat} {P1 P2 P3 : Nat → Value → Prop} {St1 St2 St3 : Nat → Heap → Prop}
theorem zip2_noD {elts : List Expr} {k : Nat} {pos : Pos} (S : ZipSep2 z TI TO i1 i2 fp1 fp2) (D1 : Draws prog w A.in1 i1 fp1 n1 P1 St1) (D2 : Draws prog w A.in1 i2 fp2 n2 P2 St2) :
    GoesN prog w A (.Tuple elts k pos) z (z :: TI :: TO :: (fp1 ++ fp2)) [z, TO, i1, i2] (min n1 n2) (fun i h₀ v h => ∃ T x y, v = .ref T ∧ h₀.objs.size ≤ T ∧ P1 i x ∧ P2 i y ∧ h.IsTuple T #[x, y] ∧ NoD h T)
      (fun i h => IsZip h z TI TO .none ∧ IsTupOf2 h TI (.ref i1) (.ref i2) ∧ (∃ a1 a2, IsTupOf2 h TO a1 a2) ∧ St1 i h ∧ St2 i h) := by
  have W := WalksT.zipD2 S D1 D2
  refine (WalksD.goes ⟨W, fun i s Q E hi st q => ?_⟩).mono fun i h₀ v h _ ⟨T, vals, ev, ge, ⟨x, y, hx, hy, evs⟩, isT, nd⟩ => ⟨T, x, y, ev, ge, hx, hy, evs ▸ isT, nd⟩
  obtain ⟨zz, ti, ⟨a1, a2, to⟩, s1, s2⟩ := st
  obtain ⟨_, e1⟩ := D1.live _ _ s1
  obtain ⟨_, e2⟩ := D2.live _ _ s2
  have l : i < n1 ∧ i < n2 := by omega
  refine wpAny_pyNext_zipD2_item S D1 D2 zz ti to s1 s2 l.1 l.2 fun x y h' tk px py zz' to' t1 t2 nw _ kp => ?_
  exact q _ #[x, y] h' tk ⟨x, y, px, py, rfl⟩ (Nat.le_refl _) ⟨_, nw, rfl, _, rfl⟩ ⟨_, nw, rfl⟩ ⟨zz', kp _ _ S.TIz S.TITO S.TIi1 S.TIi2 ti, ⟨_, _, to'⟩, t1, t2, away zz, away to, away e1, away e2⟩ fun b o hb e => by
    simp only [List.mem_cons, List.not_mem_nil, or_false, not_or] at hb
    exact kp b o hb.1 hb.2.1 hb.2.2.1 hb.2.2.2 e
theorem enum_noD {elts : List Expr} {k : Nat} {pos : Pos} {it : Addr} {fp : List Addr} {n : Nat} {P : Nat → Value → Prop} {St : Nat → Heap → Prop} (k₀ : Int) (D : Draws prog w A.in1 it fp n P St) (e : Addr) (hei : e ≠ it) (hef : e ∉ fp) (hif : it ∈ fp) :
    GoesN prog w A (.Tuple elts k pos) e (e :: fp) [e, it] n (fun i h₀ v h => ∃ T t x, v = .ref T ∧ h₀.objs.size ≤ T ∧ P i x ∧ h.IsTuple T #[.int (k₀ + (i : Int)) t, x] ∧ NoD h T) (fun i h => (∃ old, IsEnum h e it (k₀ + (i : Int)) old) ∧ St i h) := by
  have W := WalksT.enumFrom k₀ D e hei hef hif
  refine (WalksD.goes ⟨W, fun i s Q E hi st q => ?_⟩).mono fun i h₀ v h _ ⟨T, vals, ev, ge, ⟨t, x, hx, evs⟩, isT, nd⟩ => ⟨T, t, x, ev, ge, hx, evs ▸ isT, nd⟩
  obtain ⟨⟨old, he⟩, hs⟩ := st
  obtain ⟨_, e1⟩ := D.live _ _ hs
  refine wpAny_pyNext_enum_itemC D he hs hi hei hef fun x h' tk px ou hs' nw _ kp => ?_
  exact q _ #[.int (k₀ + (i : Int)) tk, x] h' (tk + 1) ⟨_, _, px, rfl⟩ (Nat.le_refl _) ⟨_, nw, rfl, _, rfl⟩ ⟨_, nw, rfl⟩ ⟨⟨_, ou⟩, hs', away he, away e1⟩ fun b o hb z => by
    simp only [List.mem_cons, List.not_mem_nil, or_false, not_or] at hb
    exact kp b o hb.1 hb.2 z
end
end DV

set_option maxHeartbeats 4000000
/-! zip, enumerate over lists, tuples, texts in any mix. -/
namespace DV
open PySem PySem.Spec PyProof.Rows L2

/-- a source that is walked -/
inductive SK where
  | lst (a : Addr)
  | tup (a : Addr)
  | txt (x : Str) (t : Tok)
def SK.src : SK → List Addr
  | .lst a => [a]
  | .tup a => [a]
  | .txt _ _ => []
def SK.st (k : SK) (it : Addr) (i : Nat) (h : Heap) : Prop := match k with
  | .lst a => h.IsListIter it a i
  | .tup a => h.IsTupleIter it a i
  | .txt x t => h.IsStrIter it (strIterType x) x t i
def SK.val : SK → Value
  | .lst a => .ref a
  | .tup a => .ref a
  | .txt x t => .str x t
def SK.ob : SK → Obj
  | .lst a => { cls := .type "list_iterator", data := .fields #[.ref a, .int 0 0] }
  | .tup a => { cls := .type "tuple_iterator", data := .fields #[.ref a, .int 0 0] }
  | .txt x t => { cls := .type (strIterType x), data := .fields #[.str x t, .int 0 0] }
/-- the source holds the items -/
def SK.ok (K : PySem.W.Frag) (H : Hp) : SK → List V → Prop
  | .lst a, xs => FL K H a xs
  | .tup a, xs => SqT K H a xs
  | .txt x _, xs => xs = x.cps.toList.map fun c => V.str ⟨#[c]⟩
def SK.hold (k : SK) (h : Heap) (its : List Value) : Prop := match k with
  | .lst a => h.IsList a its.toArray
  | .tup a => h.IsTuple a its.toArray
  | .txt _ _ => True
def SK.n (k : SK) (its : List Value) : Nat := match k with
  | .txt x _ => x.cps.size
  | _ => its.length
def SK.P (k : SK) (its : List Value) (i : Nat) (v : Value) : Prop := match k with
  | .txt x _ => ∃ c u, x.cps[i]? = some c ∧ v = .str ⟨#[c]⟩ u
  | _ => its.toArray[i]? = some v
theorem SK.ok.keep {K : PySem.W.Frag} {H H' : Hp} {k : SK} {xs : List V} (q : Keep H H') (h : k.ok K H xs) : k.ok K H' xs := by
  cases k with
  | lst a => exact FL.keep q h
  | tup a => exact sqT_keep q h
  | txt x t => exact h
theorem SK.draws {prog : Program} {w : World} {A : Around} (hh : A.handled = none) (k : SK) (it : Addr) (hne : ∀ a ∈ k.src, a ≠ it) (its : List Value) :
    Draws prog w A it (it :: k.src) (k.n its) (k.P its) (fun i h => k.st it i h ∧ k.hold h its) := by
  cases k with
  | lst a => exact Draws.list hh it a (hne a (by simp [SK.src])) its.toArray
  | tup a => exact Draws.tuple hh it a (hne a (by simp [SK.src])) its.toArray
  | txt x t =>
    have D := Draws.text (prog := prog) (w := w) hh it x t
    exact ⟨fun i h st => D.live i h st.1, fun i h h' st k => ⟨D.frame i h h' st.1 k, trivial⟩, fun i s Q E hi st hQ => D.item i s Q E hi st.1 fun x h' tk hP hs hb => hQ x h' tk hP ⟨hs, trivial⟩ hb, fun s Q E st hE => D.done s Q E st.1 hE⟩
theorem SK.begins (k : SK) (its : List Value) : Begins k.val k.ob fun h => k.hold h its := by
  cases k with
  | lst a => exact begins_list a its.toArray
  | tup a => exact begins_tuple a its.toArray
  | txt x t =>
    have B := begins_text x t
    exact ⟨B.iter, B.keeps, B.free⟩
/-- the state of a source's iterator hangs on that iterator alone -/
theorem SK.st_keep {k : SK} {it : Addr} {i : Nat} {h h' : Heap} (st : k.st it i h) (q : ∀ o, h.get? it = some o → h'.get? it = some o) : k.st it i h' := by
  cases k with
  | lst a => exact Heap.IsListIter.at st fun o e => q o e
  | tup a => exact Heap.IsTupleIter.at st fun o e => q o e
  | txt x t => obtain ⟨o, e, c, d⟩ := st; exact ⟨o, q o e, c, d⟩
theorem SK.st_obj {k : SK} {it : Addr} {i : Nat} {h : Heap} (st : k.st it i h) : ∃ o, h.get? it = some o ∧ ∀ v, o.data ≠ .cell v := by
  cases k with
  | lst a => obtain ⟨o, e, _, d⟩ := st; exact ⟨o, e, fun v z => by rw [d] at z; cases z⟩
  | tup a => obtain ⟨o, e, _, d⟩ := st; exact ⟨o, e, fun v z => by rw [d] at z; cases z⟩
  | txt x t => obtain ⟨o, e, _, d⟩ := st; exact ⟨o, e, fun v z => by rw [d] at z; cases z⟩
theorem SK.st0 (k : SK) {it : Addr} {h : Heap} (e : h.get? it = some k.ob) : k.st it 0 h := by
  cases k with
  | lst a => exact ⟨_, e, rfl, rfl⟩
  | tup a => exact ⟨_, e, rfl, rfl⟩
  | txt x t => exact ⟨_, e, rfl, rfl⟩
section
variable {X : Cx} {pins : List (Addr × Obj)} {σ : L2.St} {H : Hp} {s : Shared}
/-- what the source holds, in the heap as it stands -/
theorem SK.heap {k : SK} {xs : List V} (I : Inv X pins σ H s) (h : k.ok X.K H xs) : ∃ its : List Value, k.hold s.heap its ∧ k.n its = xs.length ∧ (∀ i v, k.P its i v → ∃ x, xs[i]? = some x ∧ RelV x v) ∧ ∀ a ∈ k.src, a < s.heap.objs.size := by
  cases k with
  | lst a =>
    obtain ⟨its, rv, p, z⟩ := I.list (FL.sq h)
    exact ⟨its, p.isList, rv.length.symm, fun i v e => by
      have e' : its[i]? = some v := by simpa [SK.P] using e
      exact Paired.getR rv e', fun b hb => by
      rw [show b = a by simpa [SK.src] using hb]
      exact p.lt⟩
  | tup a =>
    obtain ⟨its, rv, p, z⟩ := I.tuple h
    exact ⟨its, p, rv.length.symm, fun i v e => by
      have e' : its[i]? = some v := by simpa [SK.P] using e
      exact Paired.getR rv e', fun b hb => by
      rw [show b = a by simpa [SK.src] using hb]
      exact p.lt⟩
  | txt x t =>
    refine ⟨[], trivial, ?_, fun i v e => ?_, fun b hb => by simp [SK.src] at hb⟩
    · have h' : xs = _ := h
      rw [h']
      simp [SK.n]
    · obtain ⟨c, u, h1, h2⟩ := e
      have h' : xs = _ := h
      refine ⟨.str ⟨#[c]⟩, ?_, ⟨u, h2⟩⟩
      rw [h', List.getElem?_map, Array.getElem?_toList, h1]
      rfl
end
/-- an iterator whose i-th item is a new tuple of the values gv i -/
def ItN (Src : Hp → Prop) (n : Nat) (gv : Nat → List V) : L2.It :=
  ⟨fun i H => i < n ∧ Src H, fun i H v H' => ∃ T o, v = .ref T ∧ H T = none ∧ o.dict = none ∧ H' = upd H T (.frz o (.tup (gv i))), fun i H => i = n ∧ Src H⟩
/-- a turn of such an iterator, from the model's own walk -/
theorem turn_new {P : Program} {w : World} {K : PySem.W.Frag} {tg : Expr} {Src : Hp → Prop} {n : Nat} {gv : Nat → List V} {it : Addr} {fp : List Addr} {tn : Nat → Heap → Prop} (mem : it ∈ fp)
    (obj : ∀ i h, tn i h → ∀ b ∈ fp, ∃ o, h.get? b = some o ∧ ∀ v, o.data ≠ .cell v)
    (keep : ∀ i h h', tn i h → (∀ b ∈ fp, ∀ o, h.get? b = some o → h'.get? b = some o) → tn i h')
    (self : ∀ (A : Around) (i : Nat) (s : Shared) (Q : Value → Shared → Prop) (E : Value → Shared → Prop), tn i s.heap → Q (.ref it) s → wpAny (model P w) A (pyIter (.ref it)) Q E s)
    (small : ∀ i, (gv i).length ≤ sizeLine)
    (goes : ∀ (X : Cx), X.prog = P → X.w = w → X.K = K → X.A.handled = none → ∀ (i : Nat) (pins : List (Addr × Obj)) (s : Shared) (σ : L2.St) (H : Hp), Inv X pins σ H s → tn i s.heap → Src H →
      ∃ (fg wr : List Addr) (Y : Nat → Heap → Value → Heap → Prop) (St : Nat → Heap → Prop), GoesN P w X.A tg it fg wr n Y St ∧ St i s.heap ∧ (∀ b ∈ wr, b ∈ fp) ∧
        (∀ h v h', i < n → Y i h v h' → ∃ T us, v = .ref T ∧ h.objs.size ≤ T ∧ Vals (gv i) us ∧ h'.IsTuple T us.toArray ∧ NoD h' T) ∧ (∀ h', St (i + 1) h' → tn (i + 1) h')) :
    Turn P w K tg (ItN Src n gv) fp it tn where
  mem := mem
  obj := obj
  keep := keep
  self := self
  item := by
    intro X hP hw hK hc i pins s σ H E I hf st hg
    obtain ⟨hi, hsrc⟩ := hg
    obtain ⟨fg, wr, Y, St, W, hst, hwr, hY, hSt⟩ := goes X hP hw hK (I.ok.hd hc) i pins s σ H I st hsrc
    refine W.goes i s _ E hi hst fun v h' tk y st' hk htk => ?_
    obtain ⟨T, us, rfl, hT, rv, ⟨o, e1, e2, n1, e3⟩, o2, e4, e5⟩ := hY _ _ _ hi y
    cases e1.symm.trans e4
    have new : ObjOk X.prog X.w (upd H T (.frz o (.tup (gv i)))) h' T (.frz o (.tup (gv i))) := tupF_ok (small i) rv e1 e2 e3
    refine ⟨.ref T, _, I.turnedNew (t' := tk) (ch := wr) hk (fun b hb => hf b (hwr b hb)) hT new, rfl, ⟨T, o, rfl, I.hok.fresh hT, e5, rfl⟩, hSt _ st', fun b hb => ?_⟩
    obtain ⟨o, ho, _⟩ := obj i _ st b hb
    rw [upd_ne (Nat.ne_of_lt (Nat.lt_of_lt_of_le (Heap.lt_size ho) hT))]
    exact (hf b hb).1
  done := by
    intro X hP hw hK hc i pins s σ H E I hf st hg
    obtain ⟨hi, hsrc⟩ := hg
    subst hi
    obtain ⟨fg, wr, Y, St, W, hst, hwr, _, _⟩ := goes X hP hw hK (I.ok.hd hc) i pins s σ H I st hsrc
    exact W.stops s (fun s1 => Inv X pins σ H s1) E hst fun h' tk hk htk => I.turnedL (t' := tk) (ch := wr) hk fun b hb => hf b (hwr b hb)
/-- a value that is a source -/
def srcV (K : PySem.W.Frag) (H : Hp) (v : V) (xs : List V) : Prop :=
  (∃ a, v = .ref a ∧ FL K H a xs) ∨ (∃ a, v = .ref a ∧ SqT K H a xs) ∨ ∃ x, v = .str x ∧ xs = x.cps.toList.map fun c => V.str ⟨#[c]⟩
theorem srcV.sk {K : PySem.W.Frag} {H : Hp} {v : V} {xs : List V} {u : Value} (h : srcV K H v xs) (r : RelV v u) : ∃ k : SK, u = k.val ∧ k.ok K H xs := by
  rcases h with ⟨a, rfl, h⟩ | ⟨a, rfl, h⟩ | ⟨x, rfl, h⟩
  · cases r; exact ⟨.lst a, rfl, h⟩
  · cases r; exact ⟨.tup a, rfl, h⟩
  · obtain ⟨t, rfl⟩ := r; exact ⟨.txt x t, rfl, h⟩
theorem srcV.of {K : PySem.W.Frag} {ι : List Addr} {H : Hp} {S : Sto} {v : V} {d : D} {ds : List PyData} (r : Rd K ι H v d) (h : pyWalk S d = some ds) : ∃ xs, srcV K H v xs ∧ PpAll K H xs ds ∧ ds.length ≤ sizeLine := by
  cases r with
  | obj e => simp [pyWalk] at h
  | raw e => simp [pyWalk] at h
  | py r =>
    cases r with
    | lst hf hz al => cases h; exact ⟨_, .inl ⟨_, rfl, hf⟩, al, hz⟩
    | tup hf hz al => cases h; exact ⟨_, .inr (.inl ⟨_, rfl, hf.sq⟩), al, hz⟩
    | str x =>
      simp only [pyWalk] at h
      split at h
      · rename_i hz
        cases h
        refine ⟨_, .inr (.inr ⟨x, rfl, rfl⟩), ?_, ?_⟩
        · generalize x.cps.toList = l
          induction l with
          | nil => exact .nil
          | cons c l ih => exact .cons (.str _) ih
        · rw [List.length_map, sizeLine_eq]
          exact hz
      · cases h
    | _ => simp [pyWalk] at h

section
variable {X : Cx} {E : XK} {e a b c : Expr} {f g h : Ex} {pos p : Pos}
def iZipM (K : PySem.W.Frag) (ta : TA) : TI := fun σ H R => ta σ H fun vs H1 => ∃ v1 v2 xs ys, vs = [v1, v2] ∧ srcV K H1 v1 xs ∧ srcV K H1 v2 ys ∧
  ∀ Src : Hp → Prop, (∀ H', Keep H1 H' → Src H') → R (ItN Src (min xs.length ys.length) fun i => [xs.getD i .non, ys.getD i .non]) H1
theorem getD_of {xs : List V} {i : Nat} {x : V} (h : xs[i]? = some x) : xs.getD i .non = x := by
  rw [List.getD_eq_getElem?_getD, h]
  rfl
abbrev zipTn (k1 k2 : SK) (N : Addr) : Nat → Heap → Prop := fun i h => IsZip h (N + 4) (N + 2) (N + 3) .none ∧ IsTupOf2 h (N + 2) (.ref N) (.ref (N + 1)) ∧ (∃ a1 a2, IsTupOf2 h (N + 3) a1 a2) ∧ k1.st N i h ∧ k2.st (N + 1) i h
theorem turn_zip2 {P : Program} {w : World} {K : PySem.W.Frag} {elts : List Expr} {kk : Nat} {tpos : Pos} {k1 k2 : SK} {N : Addr} {xs ys : List V} (l1 : ∀ a ∈ k1.src, a < N) (l2 : ∀ a ∈ k2.src, a < N) :
    Turn P w K (.Tuple elts kk tpos) (ItN (fun H => k1.ok K H xs ∧ k2.ok K H ys) (min xs.length ys.length) fun i => [xs.getD i .non, ys.getD i .non]) [N + 4, N + 2, N + 3, N, N + 1] (N + 4) (zipTn k1 k2 N) := by
  have S := zip_sep2 (N := N) l1 l2
  refine turn_new (by simp) ?_ ?_ ?_ (fun i => by show 2 ≤ sizeLine; decide) ?_
  · intro i h st c hc
    obtain ⟨hz, hTI, ⟨x, y, hTO⟩, h1, h2⟩ := st
    have e' : c = N + 4 ∨ c = N + 2 ∨ c = N + 3 ∨ c = N ∨ c = N + 1 := by simpa using hc
    rcases e' with q | q | q | q | q
    · rw [q]; exact ⟨_, hz, fun v q => nomatch q⟩
    · rw [q]; exact ⟨_, hTI, fun v q => nomatch q⟩
    · rw [q]; exact ⟨_, hTO, fun v q => nomatch q⟩
    · rw [q]; exact SK.st_obj h1
    · rw [q]; exact SK.st_obj h2
  · intro i h h' st k
    obtain ⟨hz, hTI, ⟨x, y, hTO⟩, h1, h2⟩ := st
    exact ⟨k (N + 4) (by simp) _ hz, k (N + 2) (by simp) _ hTI, ⟨x, y, k (N + 3) (by simp) _ hTO⟩, SK.st_keep h1 fun o q => k N (by simp) o q, SK.st_keep h2 fun o q => k (N + 1) (by simp) o q⟩
  · exact fun A i s Q E st h => wpAny_pyIter_zip st.1 h
  · intro X' hP hw hK hh i pins' s' σ' H' I' st hsrc
    subst hP hw hK
    obtain ⟨its1', d1', n1', P1', l1'⟩ := SK.heap I' hsrc.1
    obtain ⟨its2', d2', n2', P2', l2'⟩ := SK.heap I' hsrc.2
    have W := zip2_noD (elts := elts) (k := kk) (pos := tpos) S (SK.draws (prog := X'.prog) (w := X'.w) (A := X'.A.in1) hh k1 N (fun a ha => Nat.ne_of_lt (l1 a ha)) its1') (SK.draws (A := X'.A.in1) hh k2 (N + 1) (fun a ha => Nat.ne_of_lt (Nat.lt_succ_of_lt (l2 a ha))) its2')
    rw [n1', n2'] at W
    refine ⟨_, _, _, _, W, ⟨st.1, st.2.1, st.2.2.1, ⟨st.2.2.2.1, d1'⟩, ⟨st.2.2.2.2, d2'⟩⟩, fun b hb => ?_, fun h v h' hi y => ?_, fun h' st' => ⟨st'.1, st'.2.1, st'.2.2.1, st'.2.2.2.1.1, st'.2.2.2.2.1⟩⟩
    · have e' : b = N + 4 ∨ b = N + 3 ∨ b = N ∨ b = N + 1 := by simpa using hb
      rcases e' with q | q | q | q <;> simp [q]
    · obtain ⟨T, x, y, rfl, hT, p1, p2, ht, nd⟩ := y
      obtain ⟨v1, e1, r1⟩ := P1' _ _ p1
      obtain ⟨v2, e2, r2⟩ := P2' _ _ p2
      refine ⟨T, [x, y], rfl, hT, ?_, ht, nd⟩
      rw [getD_of e1, getD_of e2]
      exact .cons r1 (.cons r2 .nil)
theorem pi_zipM {e2 : Expr} {ta : TA} {tpos : Pos} {elts : List Expr} {kk : Nat} (hg : Gl X "zip") (hm : X.mg "zip" = none) (hc : X.calm = true) (ha : PA X [e, e2] ta)
    (hs : starEach [e, e2] X.env = (false, eval e X.env) :: starEach [e2] X.env := by rfl) (hpl : (backTo pos (starEach [e2] X.env)).any (·.1) = false := by rfl) :
    PI X (.Tuple elts kk tpos) (.Call (.Name "zip" p) [e, e2] [] pos) (iZipM X.K ta) := by
  refine ⟨fun pins s σ H R I h => ?_⟩
  refine Call_ (ld_blt I hg hm PyProof.Rows.boot_zip (PyProof.Rows.callWith_type1 (thn (ha.run pos pins s σ H _ I h) fun us s1 ⟨vs, H1, I1, r1, q1⟩ => ?_) hs hpl))
  obtain ⟨v1, v2, xs, ys, rfl, h1, h2, q⟩ := q1
  obtain ⟨u1, u2, rfl, r1, r2⟩ := vals2 r1
  obtain ⟨k1, rfl, o1⟩ := h1.sk r1
  obtain ⟨k2, rfl, o2⟩ := h2.sk r2
  obtain ⟨its1, d1, n1, P1, l1⟩ := SK.heap I1 o1
  obtain ⟨its2, d2, n2, P2, l2⟩ := SK.heap I1 o2
  refine zip_begins2 (SK.begins k1 its1) (SK.begins k2 its2) d1 d2 fun h' hz hTI hTO hi1 hi2 hsz hk => wpAny_pyIter_zip hz ?_
  have I2 : Inv X pins σ H1 { s1 with heap := h' } := I1.kept (t' := s1.toks) hk
  have S := zip_sep2 (N := s1.heap.objs.size) l1 l2
  generalize hN : s1.heap.objs.size = N at *
  have fresh5 : ∀ c, c ∈ [N + 4, N + 2, N + 3, N, N + 1] → FpOk X pins H1 c := fun c hcm => by
    have e' : c = N + 4 ∨ c = N + 2 ∨ c = N + 3 ∨ c = N ∨ c = N + 1 := by simpa using hcm
    have hle : s1.heap.objs.size ≤ c := by
      rw [hN]
      rcases e' with z | z | z | z | z
      · rw [z]; exact Nat.le_add_right _ _
      · rw [z]; exact Nat.le_add_right _ _
      · rw [z]; exact Nat.le_add_right _ _
      · rw [z]; exact Nat.le_refl _
      · rw [z]; exact Nat.le_add_right _ _
    exact I1.fpOk hle (I1.hok.fresh hle)
  refine ⟨N + 4, [N + 4, N + 2, N + 3, N, N + 1], fun i h => IsZip h (N + 4) (N + 2) (N + 3) .none ∧ IsTupOf2 h (N + 2) (.ref N) (.ref (N + 1)) ∧ (∃ a1 a2, IsTupOf2 h (N + 3) a1 a2) ∧ k1.st N i h ∧ k2.st (N + 1) i h,
    ItN (fun H => k1.ok X.K H xs ∧ k2.ok X.K H ys) (min xs.length ys.length) fun i => [xs.getD i .non, ys.getD i .non], H1, rfl, I2, ?_, ⟨hz, hTI, ⟨_, _, hTO⟩, SK.st0 k1 hi1, SK.st0 k2 hi2⟩, fresh5, q _ fun H' kp => ⟨o1.keep kp, o2.keep kp⟩⟩
  exact turn_zip2 l1 l2
/-- the items of a walk over new tuples -/
theorem walk_new {K : PySem.W.Frag} {H0 : Hp} {Src : Hp → Prop} {n : Nat} {gv : Nat → List V} {ps : List (List PyData)} (hn : n = ps.length) (hz : ps.length ≤ sizeLine) (hs : ∀ H', Keep H0 H' → Src H')
    (hv : ∀ i p, ps[i]? = some p → p.length ≤ sizeLine ∧ PpAll K H0 (gv i) p) : WalkR K H0 (ItN Src n gv) (ps.map fun p => D.py (.tuple p)) := by
  refine ⟨by rw [List.length_map]; exact hz, fun i H kp hi => ?_, fun H kp => ?_, fun i H v H' x kp hx y => ?_⟩
  · rw [List.length_map] at hi
    exact ⟨by rw [hn]; exact hi, hs H kp⟩
  · exact ⟨by rw [List.length_map]; exact hn.symm, hs H kp⟩
  · obtain ⟨T, o, rfl, hT, ho, rfl⟩ := y
    rw [List.getElem?_map, Option.map_eq_some_iff] at hx
    obtain ⟨p, h1, rfl⟩ := hx
    obtain ⟨hl, al⟩ := hv i p h1
    exact ⟨.new hT, fun b vs e => by rw [upd_ne (ne_of_none e hT)]; exact e, upd_dom, fun ι => .py (.tup (.new ho) hl (al.keep (kp.trans (.new hT))))⟩
theorem di_zip {tpos : Pos} {elts : List Expr} {kk : Nat} (hm : X.mg "zip" = none) (hc : X.calm = true) (ha : DE X E a f) (hb : DE X E b g) (hg : Gl X "zip" := by rfl)
    (hs : starEach [a, b] X.env = (false, eval a X.env) :: starEach [b] X.env := by rfl) (hs2 : starEach [b] X.env = (false, eval b X.env) :: starEach [] X.env := by rfl) (hpl : (backTo pos (starEach [b] X.env)).any (·.1) = false := by rfl) :
    DI X E (.Tuple elts kk tpos) (.Call (.Name "zip" p) [a, b] [] pos) (zipI f g) := by
  obtain ⟨t, pt, q⟩ := ha
  obtain ⟨u, pu, qu⟩ := hb
  refine ⟨_, pi_zipM hg hm hc (pa_cons pt (pa_cons pu pa_nil hs2) hs) hs hpl, fun σ H σd S ι R hE hS h => ?_⟩
  refine q σ H σd S ι _ hE hS (Wp.bind0 h fun d S1 _ v H1 ι1 p1 r1 h1 => ?_)
  refine qu σ H1 σd S1 ι1 _ (hE.mono p1.pre p1.keep) p1.sto (Wp.bind0 (Wp.re p1 h1) fun d2 S2 _ v2 H2 ι2 p2 r2 h2 => ?_)
  split at h2
  · rename_i xs ys hx hy
    obtain ⟨vs, s1, al1, z1⟩ := srcV.of (S := S2) (r1.mono p2.pre p2.keep) hx
    obtain ⟨ws, s2, al2, z2⟩ := srcV.of (S := S2) r2 hy
    refine ⟨v, v2, vs, ws, rfl, s1, s2, fun Src hSrc => h2 _ _ _ p2 ?_⟩
    have e : ((xs.zip ys).map fun p => D.py (.tuple [p.1, p.2])) = ((xs.zip ys).map fun p => [p.1, p.2]).map fun p => D.py (.tuple p) := by rw [List.map_map]; rfl
    rw [e]
    refine walk_new ?_ ?_ hSrc fun i pp hp => ?_
    · rw [List.length_map, List.length_zip, al1.length, al2.length]
    · rw [List.length_map, List.length_zip]
      exact Nat.le_trans (Nat.min_le_left _ _) z1
    · rw [List.getElem?_map, Option.map_eq_some_iff] at hp
      obtain ⟨⟨x, y⟩, h3, rfl⟩ := hp
      rw [List.getElem?_zip_eq_some] at h3
      obtain ⟨v1, e1, r1⟩ := al1.getR h3.1
      obtain ⟨v3, e2, r3⟩ := al2.getR h3.2
      refine ⟨by show 2 ≤ sizeLine; decide, ?_⟩
      rw [getD_of e1, getD_of e2]
      exact .cons r1 (.cons r3 .nil)
  · exact h2.elim
end
end DV
namespace PySem
open Sem (wp)
set_option maxHeartbeats 1000000 in
theorem dv_meets_enumerate {v : Value} {o : Obj} {H : Heap → Prop} (B : Begins v o H) :
    Meets (Builtin.«enumerate.__new__» ⟨[.type "enumerate", v], []⟩) (fun _ R s => H s.heap ∧
      R (.ok (.ret (.ref (s.heap.push o).objs.size))) { s with heap := (s.heap.push o).push { cls := .type "enumerate", data := .fields #[.none, .bool false, .ref s.heap.objs.size, rawInt 0, .none, .none] } }) :=
  .of_wp fun prog w A R s h => by
    obtain ⟨hp, g, d, tk, os⟩ := s; obtain ⟨h1, h⟩ := h
    have hsub := sub_enumerate
    have q1 : ∀ {A' : Around} {E : Value → Shared → Prop} {Q : Value → Shared → Prop}, Q (.ref hp.objs.size) ⟨hp.push o, g, d, tk, os⟩ → wpAny (model prog w) A' (pyIter v) Q E ⟨hp, g, d, tk, os⟩ :=
      fun q => B.iter prog w _ _ ⟨hp, g, d, tk, os⟩ _ h1 q
    wp_walk using q1
    refine wpAny_stack_any fun st => wpAny_pure ?_
    split
    · rename_i c _ _ _ _ _
      cases (c == Value.type "enumerate")
      · wp_walk using q1
        exact ⟨_, rfl, h⟩
      · wp_walk using q1
        exact ⟨_, rfl, h⟩
    · wp_walk using q1
      exact ⟨_, rfl, h⟩
end PySem
namespace DV
open PySem PySem.Spec PyProof.Rows L2
end DV

set_option maxHeartbeats 4000000
namespace DV
open PySem PySem.Spec PyProof.Rows L2
/-! enumerate, zip of three. -/
section
variable {prog : Program} {w : World} {A : Around} {E : Value → Shared → Prop} {s : Shared}
theorem enum_begins1 {v : Value} {o : Obj} {H : Heap → Prop} {Q : Value → Shared → Prop} (B : Begins v o H) (h1 : H s.heap)
    (h : ∀ h', IsEnum h' (s.heap.objs.size + 1) s.heap.objs.size 0 .none → h'.get? s.heap.objs.size = some o → h'.objs.size = s.heap.objs.size + 2 →
      (∀ b o, s.heap.get? b = some o → h'.get? b = some o) → Q (.ref (s.heap.objs.size + 1)) { s with heap := h' }) :
    wpAny (model prog w) A (call (.type "enumerate") [v]) Q E s := by
  refine callType_new F.called_enumerate (by decide) (F.typeCall_enumerate_1 _) (F.newCall_enumerate_1 _) (fun obj => F.args_object_init_2 obj _) F.entry_enumerate_new
    (dv_meets_enumerate B) ⟨h1, ?_⟩
  have hz : (s.heap.push o).objs.size = s.heap.objs.size + 1 := Heap.size_push ..
  show _ ∧ _
  rw [hz]
  have he : IsEnum ((s.heap.push o).push { cls := .type "enumerate", data := .fields #[.none, .bool false, .ref s.heap.objs.size, rawInt 0, .none, .none] }) (s.heap.objs.size + 1) s.heap.objs.size 0 .none := by
    have := Heap.get?_push_size (s.heap.push o) (o := { cls := .type "enumerate", data := .fields #[.none, .bool false, .ref s.heap.objs.size, rawInt 0, .none, .none] }) rfl
    rw [hz] at this; exact this
  refine ⟨⟨_, he, rfl⟩, h _ he (Heap.get?_push_of_some _ (Heap.get?_push_size _ B.free)) (by rw [Heap.size_push, hz]) fun b o x => Heap.get?_push_of_some _ (Heap.get?_push_of_some _ x)⟩
end
abbrev enumTn (k1 : SK) (N : Addr) : Nat → Heap → Prop := fun i h => (∃ old, IsEnum h (N + 1) N (i : Nat) old) ∧ k1.st N i h
theorem turn_enum {P : Program} {w : World} {K : PySem.W.Frag} {elts : List Expr} {kk : Nat} {tpos : Pos} {k1 : SK} {N : Addr} {xs : List V} (l1 : ∀ a ∈ k1.src, a < N) :
    Turn P w K (.Tuple elts kk tpos) (ItN (fun H => k1.ok K H xs) xs.length fun i => [.int (i : Nat), xs.getD i .non]) [N + 1, N] (N + 1) (enumTn k1 N) := by
  refine turn_new (by simp) ?_ ?_ ?_ (fun i => by show 2 ≤ sizeLine; decide) ?_
  · intro i h st c hc
    obtain ⟨⟨old, hz⟩, h1⟩ := st
    have e' : c = N + 1 ∨ c = N := by simpa using hc
    rcases e' with q | q
    · rw [q]; exact ⟨_, hz, fun v q => nomatch q⟩
    · rw [q]; exact SK.st_obj h1
  · intro i h h' st k
    obtain ⟨⟨old, hz⟩, h1⟩ := st
    exact ⟨⟨old, k (N + 1) (by simp) _ hz⟩, SK.st_keep h1 fun o q => k N (by simp) o q⟩
  · exact fun A i s Q E st h => let ⟨_, hz⟩ := st.1; wpAny_pyIter_enum hz h
  · intro X' hP hw hK hh i pins' s' σ' H' I' st hsrc
    subst hP hw hK
    obtain ⟨its1', d1', n1', P1', l1'⟩ := SK.heap I' hsrc
    have W := enum_noD (elts := elts) (k := kk) (pos := tpos) 0 (SK.draws (prog := X'.prog) (w := X'.w) (A := X'.A.in1) hh k1 N (fun a ha => Nat.ne_of_lt (l1 a ha)) its1') (N + 1) (Nat.ne_of_gt (Nat.lt_succ_self _)) (fun hm => by
      rcases List.mem_cons.mp hm with q | q
      · exact absurd q (Nat.ne_of_gt (Nat.lt_succ_self _))
      · exact absurd (l1 _ q) (Nat.not_lt_of_le (Nat.le_succ _))) (List.mem_cons_self ..)
    rw [n1'] at W
    refine ⟨_, _, _, _, W, ⟨?_, ⟨st.2, d1'⟩⟩, fun b hb => ?_, fun h v h' hi y => ?_, fun h' st' => ⟨?_, st'.2.1⟩⟩
    · obtain ⟨old, hz⟩ := st.1
      exact ⟨old, by rw [Int.zero_add]; exact hz⟩
    · have e' : b = N + 1 ∨ b = N := by simpa using hb
      rcases e' with q | q <;> simp [q]
    · obtain ⟨T, t, x, rfl, hT, p1, ht⟩ := y
      obtain ⟨v1, e1, r1⟩ := P1' _ _ p1
      refine ⟨T, [.int (0 + (i : Int)) t, x], rfl, hT, ?_, ht⟩
      rw [getD_of e1, Int.zero_add]
      exact .cons ⟨t, rfl⟩ (.cons r1 .nil)
    · obtain ⟨old, hz⟩ := st'.1
      exact ⟨old, by rw [Int.zero_add] at hz; exact hz⟩
section
variable {X : Cx} {E : XK} {e a b c : Expr} {f g h : Ex} {pos p : Pos}
def iEnumM (K : PySem.W.Frag) (ta : TA) : TI := fun σ H R => ta σ H fun vs H1 => ∃ v1 xs, vs = [v1] ∧ srcV K H1 v1 xs ∧
  ∀ Src : Hp → Prop, (∀ H', Keep H1 H' → Src H') → R (ItN Src xs.length fun i => [.int (i : Nat), xs.getD i .non]) H1
theorem pi_enumM {ta : TA} {tpos : Pos} {elts : List Expr} {kk : Nat} (hg : Gl X "enumerate") (hm : X.mg "enumerate" = none) (ha : PA X [e] ta)
    (hs : starEach [e] X.env = [(false, eval e X.env)] := by rfl) :
    PI X (.Tuple elts kk tpos) (.Call (.Name "enumerate" p) [e] [] pos) (iEnumM X.K ta) := by
  refine ⟨fun pins s σ H R I h => ?_⟩
  refine Call_ (ld_blt I hg hm boot_enumerate (PyProof.Rows.callWith_type1 (thn (ha.run pos pins s σ H _ I h) fun us s1 ⟨vs, H1, I1, r1, q1⟩ => ?_) hs rfl))
  obtain ⟨v1, xs, rfl, h1, q⟩ := q1
  obtain ⟨u1, rfl, ru⟩ := vals1 r1
  obtain ⟨k1, rfl, o1⟩ := h1.sk ru
  obtain ⟨its1, d1, n1, P1, l1⟩ := SK.heap I1 o1
  refine enum_begins1 (SK.begins k1 its1) d1 fun h' hz hi1 hsz hk => wpAny_pyIter_enum hz ?_
  have I2 : Inv X pins σ H1 { s1 with heap := h' } := I1.kept (t' := s1.toks) hk
  generalize hN : s1.heap.objs.size = N at *
  have fresh5 : ∀ c, c ∈ [N + 1, N] → FpOk X pins H1 c := fun c hcm => by
    have e' : c = N + 1 ∨ c = N := by simpa using hcm
    have hle : s1.heap.objs.size ≤ c := by
      rw [hN]
      rcases e' with z | z
      · rw [z]; exact Nat.le_add_right _ _
      · rw [z]; exact Nat.le_refl _
    exact I1.fpOk hle (I1.hok.fresh hle)
  exact ⟨N + 1, [N + 1, N], enumTn k1 N, ItN (fun H => k1.ok X.K H xs) xs.length fun i => [.int (i : Nat), xs.getD i .non], H1, rfl, I2, turn_enum l1, ⟨⟨_, hz⟩, SK.st0 k1 hi1⟩, fresh5, q _ fun H' kp => o1.keep kp⟩
theorem di_enum {tpos : Pos} {elts : List Expr} {kk : Nat} (hm : X.mg "enumerate" = none) (ha : DE X E a f) (hg : Gl X "enumerate" := by rfl)
    (hs : starEach [a] X.env = [(false, eval a X.env)] := by rfl) :
    DI X E (.Tuple elts kk tpos) (.Call (.Name "enumerate" p) [a] [] pos) (enumI f) := by
  obtain ⟨t, pt, q⟩ := ha
  refine ⟨_, pi_enumM hg hm (pa_cons pt pa_nil hs) hs, fun σ H σd S ι R hE hS h => ?_⟩
  refine q σ H σd S ι _ hE hS (Wp.bind0 h fun d S1 _ v H1 ι1 p1 r1 h1 => ?_)
  split at h1
  · rename_i xs hx
    obtain ⟨vs, s1, al1, z1⟩ := srcV.of (S := S1) r1 hx
    refine ⟨v, vs, rfl, s1, fun Src hSrc => h1 _ _ _ p1 ?_⟩
    have e : (xs.zipIdx.map fun p => D.py (.tuple [.int (p.2 : Nat), p.1])) = (xs.zipIdx.map fun p => [PyData.int (p.2 : Nat), p.1]).map fun p => D.py (.tuple p) := by rw [List.map_map]; rfl
    rw [e]
    refine walk_new ?_ ?_ hSrc fun i pp hp => ?_
    · rw [List.length_map, List.length_zipIdx, al1.length]
    · rw [List.length_map, List.length_zipIdx]
      exact z1
    · rw [List.getElem?_map, Option.map_eq_some_iff] at hp
      obtain ⟨⟨x, j⟩, h3, rfl⟩ := hp
      rw [List.getElem?_zipIdx, Option.map_eq_some_iff] at h3
      obtain ⟨x', h4, h5⟩ := h3
      cases h5
      obtain ⟨v1, e1, r1⟩ := al1.getR h4
      refine ⟨by show 2 ≤ sizeLine; decide, ?_⟩
      rw [getD_of e1]
      simp only [Nat.zero_add]
      exact .cons (.int _) (.cons r1 .nil)
  · exact h1.elim
end
/-! ### zip of three -/
section
variable {X : Cx} {E : XK} {e a b c : Expr} {f g h : Ex} {pos p : Pos}
end
end DV

set_option maxHeartbeats 4000000
namespace DV
open PySem PySem.Spec PyProof.Rows L2
/-! Defs and their calls, errors raised. -/

/-! ### what a def has made for itself is forgotten -/
section
variable {K : PySem.W.Frag} {ι ι' : List Addr} {H H' : Hp} {S S' : Sto} {v : V} {d : D}
theorem Rd.back (p : ι <+: ι') (h : Rd K ι' H' v d) {v0 : V} (h0 : Rd K ι H v0 d) : Rd K ι H' v d := by
  cases h with
  | py h => exact .py h
  | obj e =>
    cases h0 with
    | obj e0 =>
      have := pre_get p e0
      rw [e] at this
      cases this
      exact .obj e0
  | raw a => exact .raw a
theorem RdAll.back (p : ι <+: ι') : ∀ {vs : List V} {ds : List D}, RdAll K ι' H' vs ds → ∀ {ws : List V}, RdAll K ι H ws ds → RdAll K ι H' vs ds
  | _, _, .nil, _, _ => .nil
  | _, _, .cons h hs, _, .cons h0 hs0 => .cons (h.back p h0) (RdAll.back p hs hs0)
theorem Rd.pure (h : Rd K ι' H' v d) (hp : d.pure = true) : Rd K ι H' v d := by
  cases h with
  | py h => exact .py h
  | obj e => cases hp
  | raw a => exact .raw a
theorem RdAll.pure : ∀ {vs : List V} {ds : List D}, RdAll K ι' H' vs ds → ds.all D.pure = true → RdAll K ι H' vs ds
  | _, _, .nil, _ => .nil
  | _, _, .cons h hs, e => by
    rw [List.all_cons, Bool.and_eq_true] at e
    exact .cons (h.pure e.1) (RdAll.pure hs e.2)
theorem tab_take {S : Sto} {n m : Nat} {o : O} (e : (S.take n)[m]? = some o) : S[m]? = some o := by
  rw [List.getElem?_take] at e
  split at e
  · exact e
  · cases e
theorem gc_post (p : Post K ι H ι' H' S') (hS : StR K ι H S) (hl : S.length ≤ S'.length) (hc : ∀ (i : Nat) (o : O), i < S.length → S'[i]? = some o → S[i]? = some o ∨ o.pure = true) : Post K ι H ι H' (S'.take S.length) := by
  refine ⟨List.prefix_refl _, p.keep, ⟨by rw [List.length_take, hS.len]; omega, hS.nd, fun n a e => p.sto.there n a (pre_get p.pre e), fun n o a e1 e2 => ?_, fun m P q e => p.sto.tb m P q (tab_take e)⟩, fun b vs m q => ⟨(p.frame b vs m q).1, m⟩, p.dom⟩
  have hn : n < S.length := by
    have := (List.getElem?_eq_some_iff.mp e1).1
    rw [List.length_take] at this
    omega
  rw [List.getElem?_take_of_lt hn] at e1
  have z := p.sto.at_ n o a e1 (pre_get p.pre e2)
  rcases hc n o hn e1 with h | h
  · have z0 := hS.at_ n o a h e2
    cases z with
    | gone => exact .gone
    | tab => exact .tab
    | dt a b c => exact .dt a b c
    | dk a b c => exact .dk a b c
    | ins hc a b rr =>
      cases z0 with
      | ins hc0 a0 b0 rr0 => exact .ins hc a b (RdAll.back p.pre rr rr0)
    | tpl a rr =>
      cases z0 with
      | tpl a0 rr0 => exact .tpl a (RdAll.back p.pre rr rr0)
    | lst ha rr =>
      cases z0 with
      | lst ha0 rr0 => exact .lst ha (RdAll.back p.pre rr rr0)
  · cases z with
    | gone => exact .gone
    | tab => exact .tab
    | dt a b c => exact .dt a b c
    | dk a b c => exact .dk a b c
    | ins hc a b rr => exact .ins hc a b (RdAll.pure rr (by
        rw [List.all_map]
        exact h))
    | tpl a rr => exact .tpl a (RdAll.pure rr h)
    | lst ha rr => exact .lst ha (RdAll.pure rr h)
theorem Wp.gcI {mg : Str → Option Value} {E : XK} {α β γ : Type} {rel : List Addr → Hp → α → β → Prop} {b : β} {P : Prop} {Q : α → Hp → Prop} (hS : StR K ι H S) (h : Wp K mg E ι H rel (gc P S S' fun T => R.ok b T) Q)
    (hr : ∀ a H' ι', ι <+: ι' → P → rel ι' H' a b → rel ι H' a b) : ∀ a H' ι', Post K ι H ι' H' S' → rel ι' H' a b → Q a H' := by
  intro a H1 ι1 p r
  unfold gc at h
  split at h
  · rename_i hc
    exact h a H1 ι (gc_post p hS hc.2.1 hc.2.2) (hr a H1 ι1 p.pre hc.1 r)
  · exact h a H1 ι1 p r
theorem WpF.fn {mg : Str → Option Value} {E : XK} {r : F} {Q : VK} (hS : StR K ι H S) (h : Wp K mg E ι H (relD K) (fnR S r) Q) : WpF K mg E ι H r { nx := fun _ H' => Q .non H', rt := Q } := by
  cases r with
  | nx σd S' =>
    intro σ' H1 ι1 p _
    exact Wp.gcI (γ := Unit) (rel := relD K) hS h (fun a H' ι' _ _ r => r.pure rfl) .non H1 ι1 p (.py .non)
  | rt d S' =>
    intro v H1 ι1 p r
    exact Wp.gcI (γ := Unit) (rel := relD K) hS h (fun a H' ι' _ hp r => r.pure hp) v H1 ι1 p r
  | ex c S' =>
    intro H1 ι1 p
    unfold fnR gc at h
    simp only at h
    split at h
    · rename_i hc
      exact h H1 ι (gc_post p hS hc.2.1 hc.2.2)
    · exact h H1 ι1 p
  | bk σ S' => exact h.elim
  | ct σ S' => exact h.elim
  | no => exact h.elim
theorem init_rel (N : List Str) {vs : List V} {ds : List D} (r : RdAll K ι H vs ds) : EnR K ι H (start N vs) (init N.length ds) := by
  unfold L2.start init
  refine ⟨by simp [r.length], fun i d e => ?_⟩
  by_cases hi : i < ds.length
  · rw [List.getElem?_append_left (by simpa using hi)] at e
    rw [List.getElem?_map, Option.map_eq_some_iff] at e
    obtain ⟨d', h1, h2⟩ := e
    cases h2
    obtain ⟨v, hv, rv⟩ := Paired.getR r h1
    exact ⟨v, by rw [List.getElem?_append_left (by simpa [r.length] using hi), List.getElem?_map, hv]; rfl, rv⟩
  · rw [List.getElem?_append_right (by simpa using hi)] at e
    have := List.mem_of_getElem? e
    rw [List.mem_replicate] at this
    cases this.2
end

/-- the promise of a def: it does what F says upon data -/
def spD (K : PySem.W.Frag) (mg : Str → Option Value) (n : Nat) (F : List D → Sto → R D) : Sp := fun vs H Q E => vs.length = n ∧ ∃ ι S ds, StR K ι H S ∧ RdAll K ι H vs ds ∧ Wp K mg E ι H (relD K) (F ds S) Q
structure FnD (P : Program) (w : World) (K : PySem.W.Frag) (mg : Str → Option Value) (base : Heap) (k : Nat) (f : Addr) (fd : FuncData) (ps : List Str) (F : List D → Sto → R D) : Prop where
  run : ∀ (A : Around) (outer : List Env) (s : Shared) (H : Hp) (args : Args) (us : List Value) (vs : List V) (Q : VK) (E : XK), Room k A → A.guards = some [] → Env0 P w K mg base A outer s H → BindsTo s fd args (ps.zip us) → Vals vs us → spD K mg ps.length F vs H Q E →
    codeAny (model P w) A (.call (.ref f) args) (CR (L2.CX P w) outer P w H s Q E) s
theorem FnD.mono {P : Program} {w : World} {K : PySem.W.Frag} {mg : Str → Option Value} {base : Heap} {j k : Nat} {f : Addr} {fd : FuncData} {ps : List Str} {F : List D → Sto → R D} (h : FnD P w K mg base j f fd ps F) (hl : j ≤ k) : FnD P w K mg base k f fd ps F :=
  ⟨fun A outer s H args us vs Q E hr => h.run A outer s H args us vs Q E (hr.mono hl)⟩
section
variable {P : Program} {w : World} {K : PySem.W.Frag} {mg : Str → Option Value} {base : Heap}
/-- the context of a def's body is fit -/
theorem okx_def {N ps : List Str} {qual : Str} {sc : Scope} {f : Addr} {cdv : Value} {A : Around} {outer : List Env} {s : Shared} {H : Hp} {E : XK} {k : Nat} (S : FnScope N ps sc) (hr : Room (k + 1) A) (hg : A.guards = some []) :
    Okx k (cxOf (L2.CX P w) P w K mg base N qual sc f cdv A outer s H E) E where
  calm := rfl
  nd := S.nd
  room := hr.deeper _
  gd := hg
  take := takes_of rfl rfl rfl rfl
  pass := passes_call (takes_of rfl rfl rfl rfl) fun _ _ _ _ h => h
  own := passes_of rfl
theorem dfn {x qual : Str} {st : Stmt} {f : Addr} {fd : FuncData} {N ps : List Str} {k : Nat} {b : Sx} (F : L2.Fun K x qual st f fd) (S : FnScope N ps (defScope st))
    (hbody : ∀ (cdv : Value) (A : Around) (outer : List Env) (s : Shared) (H : Hp) (E : XK), Okx k (cxOf (L2.CX P w) P w K mg base N qual (defScope st) f cdv A outer s H E) E →
      DSs (cxOf (L2.CX P w) P w K mg base N qual (defScope st) f cdv A outer s H E) E (defBody st) b) : FnD P w K mg base (k + 1) f fd ps (fnF N.length b) := by
  obtain ⟨oc, od, kV, doc, pm, an, cdv, ct, osl, rfl, lk, hcd⟩ := F.ex
  refine ⟨fun A outer s H args us vs Q E hr hg e0 hb r hsp => ?_⟩
  obtain ⟨hl, ι, Sd, ds, hS, rr, hw⟩ := hsp
  have KX : K.In s.heap := e0.mod.kin.keeps fun b o e => (e0.bs b o e).1
  have lim : s.heap.NoLimit := e0.mod.nolimit.keeps fun b o e => (e0.bs b o e).1
  have hkind : ∀ y ∈ ps.zip us, (defScope st).names.lookup y.1 = some .local ∨ ((defScope st).names.lookup y.1 = some .cell ∧ ((cellsFrom (s.heap.objs.size + 1) (defScope st).names []).lookup y.1).isSome = true) := fun ⟨n, v⟩ hy => by
    rcases S.par n (List.of_mem_zip hy).1 with q | q
    · exact .inl q
    · exact .inr ⟨q, PySem.W.cellsFrom_some _ _ _ (.inl q)⟩
  refine codeAny_call_function hr.depth (KX _ _ lk) rfl S.co S.gen rfl (PySem.W.codeRec_of KX hcd) (hb _ _ _ _ ?_)
  refine wpAny_newFunctionEnv_cells S.kind hkind fun env he s1 xx => ?_
  subst he
  refine ⟨lim.keeps xx.toInCall.keep, codeAny_func ?_⟩
  obtain ⟨t, ht, hq⟩ := hbody cdv A outer s H E (okx_def S hr hg)
  have I : Inv (cxOf (L2.CX P w) P w K mg base N qual (defScope st) f cdv A outer s H E) [] (start N vs) H s1 := inv_start S hr.hd e0 hl r xx
  refine wpAny_mono (ht.run [] s1 (start N vs) H _ I (hq _ _ _ _ _ _ (init_rel N rr) hS (WpF.fn hS hw))) (fun fl s' hs => ?_) fun e s' hs => hs
  have fin : ∀ {σ' : L2.St} {H' : Hp} {v : V} {u : Value}, Inv (cxOf (L2.CX P w) P w K mg base N qual (defScope st) f cdv A outer s H E) [] σ' H' s' → RelV v u → Q v H' → CE outer P w H s Q u s' :=
    fun {σ' H' v u} J rv q => ⟨v, H', J.os, J.bare, J.base, J.hok, rv, q⟩
  cases fl with
  | ret u =>
    obtain ⟨v, σ', H', J, rv, q⟩ := hs
    exact fin J rv q
  | next =>
    obtain ⟨σ', H', J, q⟩ := hs
    exact fin (v := V.non) (u := Value.none) J rfl q
  | brk =>
    obtain ⟨_, _, _, q⟩ := hs
    exact False.elim q
  | cont =>
    obtain ⟨_, _, _, q⟩ := hs
    exact False.elim q
end

/-! ### calls -/
section
variable {X : Cx} {E : XK} {k j : Nat} {e : Expr} {f : Addr} {es : List Expr} {fs : Ax} {pos p : Pos} {x : Str} {fd : FuncData} {ps : List Str} {F : List D → Sto → R D}
theorem run_fnD {pins : List (Addr × Obj)} {σ : L2.St} {H : Hp} {s : Shared} {Q : VK} {us : List Value} {vs : List V} (o : Okx k X E) (hF : FnD X.prog X.w X.K X.mg X.base j f fd ps F) (hj : j ≤ k) (hb : Binds X.K fd ps []) (I : Inv X pins σ H s) (r : Vals vs us) (h : spD X.K X.mg ps.length F vs H Q E) :
    wpAny (model X.prog X.w) X.A (call (.ref f) us) (EP X pins σ Q) X.xe s := by
  have hl : us.length = ps.length := by rw [← r.length]; exact h.1
  have b := hb s us I.kIn (by rw [List.append_nil]; exact hl)
  rw [List.append_nil] at b
  refine wpAny_call (codeAny_mono (hF.run X.A X.stack s H ⟨us, []⟩ us vs Q E (o.room.mono hj) o.gd I.env0 b r h) fun r s' hq => ?_)
  cases r with
  | error e => exact o.pass pins σ H s e s' I hq
  | ok fl =>
    cases fl with
    | ret u => exact I.after hq
    | next => exact False.elim hq
    | brk => exact False.elim hq
    | cont => exact False.elim hq
/-- where a def of the top stands -/
structure At (K : PySem.W.Frag) (mg : Str → Option Value) (x : Str) (f : Addr) (fd : FuncData) (ps : List Str) : Prop where
  g : mg x = some (.ref f)
  kp : PySem.W.keepIn K (.ref f) = true
  b : Binds K fd ps []
theorem de_call (o : Okx k X E) (hF : FnD X.prog X.w X.K X.mg X.base j f fd ps F) (at_ : At X.K X.mg x f fd ps) (hj : j ≤ k) (ha : DA X E (e :: es) fs) (hn : (e :: es).length = ps.length := by rfl) (hg : Gl X x := by rfl) (hdb : (x == ("__debug__" : Str)) = false := by decide)
    (he : starEach (e :: es) X.env = (false, eval e X.env) :: starEach es X.env := by rfl) (hpl : (backTo pos (starEach es X.env)).any (·.1) = false := by rfl) : DE X E (.Call (.Name x p) (e :: es) [] pos) (callE F fs) := by
  obtain ⟨l, t, pt, q⟩ := ha
  refine ⟨tCall (spD X.K X.mg ps.length F) [] E t, ⟨fun pins s σ H Q I h => ?_⟩, fun σ H σd S ι Q hE hS h => ?_⟩
  · refine wpAny_Call_Name_kw (ld_glob I hg at_.g ?_ hdb)
    refine PySem.W.callWith_K (h₀ := X.base) I.ok.mod.kin at_.kp (thn (pt.run pos pins s σ H _ I h) fun us s1 ⟨vs, H1, I1, r, q⟩ => ⟨I1.kIn, ?_⟩) he hpl
    have q' : spD X.K X.mg ps.length F (vs ++ []) H1 Q E := q
    rw [List.append_nil] at q'
    exact run_fnD o hF hj at_.b I1 r q'
  · refine q σ H σd S ι _ hE hS (Wp.bind h fun ds S1 e1 vs H1 ι1 p1 r1 h1 => ?_)
    rw [List.append_nil]
    exact ⟨by rw [r1.length, l _ _ _ _ e1, hn], ι1, S1, ds, p1.sto, r1, h1⟩
/-! ### errors -/
abbrev veTail : List Value := [.type "ValueError", .type "Exception", .type "BaseException", .type "object"]
structure ExcAt (K : PySem.W.Frag) (mg : Str → Option Value) (x : Str) (C : Addr) : Prop where
  g : mg x = some (.ref C)
  x : PySem.W.excIn K C veTail "ValueError.__new__" = true
  k : PySem.W.keepIn K (.ref C) = true
  b : PySem.W.subIn K (.ref C) (.type "BaseException") = some true
  t : PySem.W.typeIn K (.ref C) = some (.type "type")
theorem ds_raise {C : Addr} {m : Str} {jj : Nat} {p2 : Pos} (o : Okx k X E) (h : ExcAt X.K X.mg x C) (hg : Gl X x := by rfl) (hdb : (x == ("__debug__" : Str)) = false := by decide) : DS X E (.Raise (some (.Call (.Name x p) [.Constant (.str m) jj p2] [] pos)) none pos') (raiseS x) := by
  refine ⟨_, ps_raise o.calm o.take (pmk_own PySem.F.excBase_ValueError h.x h.g h.k (raises_own h.b h.t) hg hdb), fun σ H σd S ι N hE hS hw => ?_⟩
  have e : clsV X.mg x = .ref C := by unfold clsV; rw [h.g]; rfl
  have := hw H ι (.refl hS)
  rw [e] at this
  exact this
end
end DV

set_option maxHeartbeats 4000000
namespace DV
open PySem PySem.Spec PyProof.Rows L2
/-! The law's own call. -/
theorem cx_false {P : Program} {w : World} {l : List Env} {H : Hp} {s : Shared} {e : Value} {s' : Shared} (h : L2.CX P w l H s (fun _ _ _ => False) e s') : False := by
  obtain ⟨_, _, _, _, _, _, _, _, _, _, _, _, z⟩ := h
  exact z
theorem ints_pp {K : PySem.W.Frag} {H : Hp} : ∀ ns : List Int, PpAll K H (ns.map V.int) (ns.map PyData.int)
  | [] => .nil
  | n :: ns => .cons (.int n) (ints_pp ns)
end DV

set_option maxHeartbeats 4000000
namespace DV
open PySem PySem.Spec PyProof.Rows L2 PySem.SeqAt
open AutoSeq1 (wpAny_loadPart')
open MeetsSeq
/-! A text and a dict are unlike. -/
theorem dv_str_eq_dict (b : Str) (u : Tok) (l : Addr) (c : Value) (es : Array DictEntry) (n : Nat) (dd : Option Addr) (sl : Array (Option Value)) :
    Meets (Builtin.«str.__eq__» ⟨[.str b u, .ref l], []⟩) (fun _ R s => s.heap.get? l = some { cls := c, dict := dd, data := .dict es n, slots := sl } ∧ R (.ok (.ret .notImplemented)) s) :=
  .of_wp fun prog w A R s h => by obtain ⟨hp, g, d, tk, os⟩ := s; obtain ⟨hl, h⟩ := h; wp_walk using wpAny_loadPart' hl, wpAny_load hl; exact ⟨_, rfl, h⟩
theorem dv_dict_eq_str (l : Addr) (es : Array DictEntry) (n : Nat) (dd : Option Addr) (sl : Array (Option Value)) (b : Str) (u : Tok) :
    Meets (Builtin.«dict.__eq__» ⟨[.ref l, .str b u], []⟩) (fun _ R s => s.heap.get? l = some { cls := .type "dict", dict := dd, data := .dict es n, slots := sl } ∧ R (.ok (.ret .notImplemented)) s) :=
  .of_wp fun prog w A R s h => by obtain ⟨hp, g, d, tk, os⟩ := s; obtain ⟨hl, h⟩ := h; have f1 := PySem.F.sub_str_dict; wp_walk using wpAny_loadPart' hl; exact ⟨_, rfl, h⟩
theorem dv_str_ne_dict (b : Str) (u : Tok) (l : Addr) (c : Value) (es : Array DictEntry) (n : Nat) (dd : Option Addr) (sl : Array (Option Value)) :
    Meets (Builtin.«str.__ne__» ⟨[.str b u, .ref l], []⟩) (fun _ R s => s.heap.get? l = some { cls := c, dict := dd, data := .dict es n, slots := sl } ∧ R (.ok (.ret .notImplemented)) s) :=
  .of_wp fun prog w A R s h => by obtain ⟨hp, g, d, tk, os⟩ := s; obtain ⟨hl, h⟩ := h; wp_walk using wpAny_loadPart' hl, wpAny_load hl; exact ⟨_, rfl, h⟩
theorem dv_dict_ne_str (l : Addr) (es : Array DictEntry) (n : Nat) (dd : Option Addr) (sl : Array (Option Value)) (b : Str) (u : Tok) :
    Meets (Builtin.«dict.__ne__» ⟨[.ref l, .str b u], []⟩) (fun _ R s => s.heap.get? l = some { cls := .type "dict", dict := dd, data := .dict es n, slots := sl } ∧ R (.ok (.ret .notImplemented)) s) :=
  .of_wp fun prog w A R s h => by obtain ⟨hp, g, d, tk, os⟩ := s; obtain ⟨hl, h⟩ := h; have f1 := PySem.F.sub_str_dict; wp_walk using wpAny_loadPart' hl; exact ⟨_, rfl, h⟩
section
variable {A : Around} {s : Shared} {l : Addr} {dd : Option Addr} {es : Array DictEntry} {n : Nat} {sl : Array (Option Value)}
theorem rc_str_dict (b : Str) (u : Tok) (ho : s.heap.get? l = some { cls := .type "dict", dict := dd, data := .dict es n, slots := sl }) (hu : A.units < cLine) : RcAt A s (.str b u) (.ref l) false := fun prog w E Q h =>
  rc_eq_decline_or (k := false) (typeIs_str s b u) ⟨_, ho, rfl⟩ (by decide) PySem.F.sub_dict_str PySem.F.slot_str_eq PySem.F.slot_dict_eq_refl
    (fun _ hq => call_meets PySem.F.slot_str_eq (typeIs_str s b u) PySem.F.entry_str_eq (PySem.F.args_str_eq_2 _ _) (dv_str_eq_dict b u l (.type "dict") es n dd sl) ⟨ho, hq⟩)
    (fun _ hq => call_meets PySem.F.slot_dict_eq_refl ⟨_, ho, rfl⟩ PySem.F.entry_dict_eq (PySem.F.args_dict_eq_2 _ _) (dv_dict_eq_str l es n dd sl b u) ⟨ho, hq⟩)
    (fun _ hq => wpAny_of_eq (rfl : isSame (.str b u) (.ref l) = pure false) hq) (.inr hu) h
theorem rc_dict_str (b : Str) (u : Tok) (ho : s.heap.get? l = some { cls := .type "dict", dict := dd, data := .dict es n, slots := sl }) (hu : A.units < cLine) : RcAt A s (.ref l) (.str b u) false := fun prog w E Q h =>
  rc_eq_decline_or (k := false) ⟨_, ho, rfl⟩ (typeIs_str s b u) (by decide) PySem.F.sub_str_dict PySem.F.slot_dict_eq PySem.F.slot_str_eq_refl
    (fun _ hq => call_meets PySem.F.slot_dict_eq ⟨_, ho, rfl⟩ PySem.F.entry_dict_eq (PySem.F.args_dict_eq_2 _ _) (dv_dict_eq_str l es n dd sl b u) ⟨ho, hq⟩)
    (fun _ hq => call_meets PySem.F.slot_str_eq_refl (typeIs_str s b u) PySem.F.entry_str_eq (PySem.F.args_str_eq_2 _ _) (dv_str_eq_dict b u l (.type "dict") es n dd sl) ⟨ho, hq⟩)
    (fun _ hq => wpAny_of_eq (rfl : isSame (.ref l) (.str b u) = pure false) hq) (.inr hu) h
theorem rn_str_dict (b : Str) (u : Tok) (ho : s.heap.get? l = some { cls := .type "dict", dict := dd, data := .dict es n, slots := sl }) (hu : A.units < cLine) : RcNeAt A s (.str b u) (.ref l) true := fun prog w E Q h =>
  rc_ne_decline_or (k := false) (typeIs_str s b u) ⟨_, ho, rfl⟩ (by decide) PySem.F.sub_dict_str PySem.F.slot_str_ne PySem.F.slot_dict_ne_refl
    (fun _ hq => call_meets PySem.F.slot_str_ne (typeIs_str s b u) PySem.F.entry_str_ne (PySem.F.args_str_ne_2 _ _) (dv_str_ne_dict b u l (.type "dict") es n dd sl) ⟨ho, hq⟩)
    (fun _ hq => call_meets PySem.F.slot_dict_ne_refl ⟨_, ho, rfl⟩ PySem.F.entry_dict_ne (PySem.F.args_dict_ne_2 _ _) (dv_dict_ne_str l es n dd sl b u) ⟨ho, hq⟩)
    (fun _ hq => wpAny_of_eq (rfl : isSame (.str b u) (.ref l) = pure false) hq) (.inr hu) h
theorem rn_dict_str (b : Str) (u : Tok) (ho : s.heap.get? l = some { cls := .type "dict", dict := dd, data := .dict es n, slots := sl }) (hu : A.units < cLine) : RcNeAt A s (.ref l) (.str b u) true := fun prog w E Q h =>
  rc_ne_decline_or (k := false) ⟨_, ho, rfl⟩ (typeIs_str s b u) (by decide) PySem.F.sub_str_dict PySem.F.slot_dict_ne PySem.F.slot_str_ne_refl
    (fun _ hq => call_meets PySem.F.slot_dict_ne ⟨_, ho, rfl⟩ PySem.F.entry_dict_ne (PySem.F.args_dict_ne_2 _ _) (dv_dict_ne_str l es n dd sl b u) ⟨ho, hq⟩)
    (fun _ hq => call_meets PySem.F.slot_str_ne_refl (typeIs_str s b u) PySem.F.entry_str_ne (PySem.F.args_str_ne_2 _ _) (dv_str_ne_dict b u l (.type "dict") es n dd sl) ⟨ho, hq⟩)
    (fun _ hq => wpAny_of_eq (rfl : isSame (.ref l) (.str b u) = pure false) hq) (.inr hu) h
end
/-- one is a text, the other one a dict -/
def TxDk (H : Hp) (x y : V) : Prop := (∃ z a o kvs, x = .str z ∧ y = .ref a ∧ H a = some (.frz o (.dK kvs))) ∨ ∃ z a o kvs, x = .ref a ∧ y = .str z ∧ H a = some (.frz o (.dK kvs))
theorem dk_obj {X : Cx} {pins : List (Addr × Obj)} {σ : L2.St} {H : Hp} {s : Shared} (I : Inv X pins σ H s) {a : Addr} {o : Obj} {kvs : List (Key × V)} (e : H a = some (.frz o (.dK kvs))) : ∃ es n, s.heap.get? a = some { cls := .type "dict", dict := none, data := .dict es n, slots := #[] } := by
  obtain ⟨_, _, vs, _, ⟨⟨c, d, dt, sl⟩, es, ep, ho, ⟨hc, hn, hs⟩, hd, _⟩⟩ := dk_rd I.hok (.inr ⟨o, e⟩)
  simp only at hc hn hs hd
  subst hc hn hs hd
  exact ⟨es, ep, ho⟩
theorem op_eqSD {X : Cx} (hu : X.A.units + 64 < cLine) : OpR X (compareOp .Eq) (fun x y H Q => TxDk H x y ∧ Q (.bl false) H) := by
  intro pins s σ H x y v u Q I rx ry h
  obtain ⟨h, q⟩ := h
  rcases h with ⟨z, a, o, kvs, rfl, rfl, e⟩ | ⟨z, a, o, kvs, rfl, rfl, e⟩
  · obtain ⟨t, rfl⟩ := rx
    cases ry
    obtain ⟨es, n, ho⟩ := dk_obj I e
    exact rc_str_dict z t ho (by omega) X.prog X.w _ _ ⟨.bl _, H, I, rfl, q⟩
  · obtain ⟨t, rfl⟩ := ry
    cases rx
    obtain ⟨es, n, ho⟩ := dk_obj I e
    exact rc_dict_str z t ho (by omega) X.prog X.w _ _ ⟨.bl _, H, I, rfl, q⟩
theorem op_neSD {X : Cx} (hu : X.A.units + 64 < cLine) : OpR X (compareOp .NotEq) (fun x y H Q => TxDk H x y ∧ Q (.bl true) H) := by
  intro pins s σ H x y v u Q I rx ry h
  obtain ⟨h, q⟩ := h
  rcases h with ⟨z, a, o, kvs, rfl, rfl, e⟩ | ⟨z, a, o, kvs, rfl, rfl, e⟩
  · obtain ⟨t, rfl⟩ := rx
    cases ry
    obtain ⟨es, n, ho⟩ := dk_obj I e
    exact rn_str_dict z t ho (by omega) X.prog X.w _ _ ⟨.bl _, H, I, rfl, q⟩
  · obtain ⟨t, rfl⟩ := ry
    cases rx
    obtain ⟨es, n, ho⟩ := dk_obj I e
    exact rn_dict_str z t ho (by omega) X.prog X.w _ _ ⟨.bl _, H, I, rfl, q⟩
/-- surely unlike, whatever stands within -/
def Off (K : PySem.W.Frag) (H : Hp) (x y : V) : Prop := TxDk H x y ∨ (∃ z a xs, x = .str z ∧ y = .ref a ∧ (SqL K H a xs ∨ SqT K H a xs)) ∨ (∃ z a xs, x = .ref a ∧ y = .str z ∧ (SqL K H a xs ∨ SqT K H a xs)) ∨
  (∃ a b xs ys, x = .ref a ∧ y = .ref b ∧ SqT K H a xs ∧ SqT K H b ys ∧ (xs = [] ∨ ys = []) ∧ xs.length ≠ ys.length) ∨ ∃ a b xs ys, x = .ref a ∧ y = .ref b ∧ SqL K H a xs ∧ SqL K H b ys ∧ xs.length ≠ ys.length
theorem op_eqOff {X : Cx} (hu : X.A.units + 64 < cLine) : OpR X (compareOp .Eq) (fun x y H Q => Off X.K H x y ∧ Q (.bl false) H) := by
  intro pins s σ H x y v u Q I rx ry h
  obtain ⟨h, q⟩ := h
  rcases h with h | ⟨z, a, xs, rfl, rfl, e⟩ | ⟨z, a, xs, rfl, rfl, e⟩ | ⟨a, b, xs, ys, rfl, rfl, e1, e2, em, hl⟩ | ⟨a, b, xs, ys, rfl, rfl, e1, e2, hl⟩
  · exact op_eqSD hu pins s σ H x y v u Q I rx ry ⟨h, q⟩
  · obtain ⟨t, rfl⟩ := rx
    cases ry
    rcases e with e | e
    · obtain ⟨its, r, pl, hz⟩ := I.list e
      exact RcAt.str_list z t pl.isList (by omega) X.prog X.w _ _ ⟨.bl _, H, I, rfl, q⟩
    · obtain ⟨its, r, pl, hz⟩ := I.tuple e
      exact RcAt.str_tuple z t pl (by omega) X.prog X.w _ _ ⟨.bl _, H, I, rfl, q⟩
  · obtain ⟨t, rfl⟩ := ry
    cases rx
    rcases e with e | e
    · obtain ⟨its, r, pl, hz⟩ := I.list e
      exact RcAt.list_str z t pl.isList (by omega) X.prog X.w _ _ ⟨.bl _, H, I, rfl, q⟩
    · obtain ⟨its, r, pl, hz⟩ := I.tuple e
      exact RcAt.tuple_str z t pl (by omega) X.prog X.w _ _ ⟨.bl _, H, I, rfl, q⟩
  · cases rx
    cases ry
    obtain ⟨its, r, pl, hz⟩ := I.tuple e1
    obtain ⟨its2, r2, pl2, hz2⟩ := I.tuple e2
    have l1 := r.length
    have l2 := r2.length
    have hm : min its.toArray.size its2.toArray.size = 0 := by
      rw [List.size_toArray, List.size_toArray]
      rcases em with rfl | rfl
      · simp at l1; omega
      · simp at l2; omega
    have hz : (its.toArray.size == its2.toArray.size) = false := by
      rw [List.size_toArray, List.size_toArray, beq_eq_false_iff_ne]
      omega
    have := RcAt.tuples (e := fun _ => true) (A := X.A) pl pl2 (by omega) (fun j h1 h2 => absurd (Nat.lt_min.mpr ⟨h1, h2⟩) (by omega))
    rw [hz, Bool.and_false] at this
    exact this X.prog X.w _ _ ⟨.bl _, H, I, rfl, q⟩
  · cases rx
    cases ry
    obtain ⟨its, r, pl, hz⟩ := I.list e1
    obtain ⟨its2, r2, pl2, hz2⟩ := I.list e2
    have l1 := r.length
    have l2 := r2.length
    exact RcAt.lists_lengths pl.isList pl2.isList (by rw [List.size_toArray, List.size_toArray, bne_iff_ne]; omega) (by omega) X.prog X.w _ _ ⟨.bl _, H, I, rfl, q⟩
theorem op_neOff {X : Cx} (hu : X.A.units + 64 < cLine) : OpR X (compareOp .NotEq) (fun x y H Q => Off X.K H x y ∧ Q (.bl true) H) := by
  intro pins s σ H x y v u Q I rx ry h
  obtain ⟨h, q⟩ := h
  rcases h with h | ⟨z, a, xs, rfl, rfl, e⟩ | ⟨z, a, xs, rfl, rfl, e⟩ | ⟨a, b, xs, ys, rfl, rfl, e1, e2, em, hl⟩ | ⟨a, b, xs, ys, rfl, rfl, e1, e2, hl⟩
  · exact op_neSD hu pins s σ H x y v u Q I rx ry ⟨h, q⟩
  · obtain ⟨t, rfl⟩ := rx
    cases ry
    rcases e with e | e
    · obtain ⟨its, r, pl, hz⟩ := I.list e
      exact RcNeAt.str_list z t pl.isList (by omega) X.prog X.w _ _ ⟨.bl _, H, I, rfl, q⟩
    · obtain ⟨its, r, pl, hz⟩ := I.tuple e
      exact RcNeAt.str_tuple z t pl (by omega) X.prog X.w _ _ ⟨.bl _, H, I, rfl, q⟩
  · obtain ⟨t, rfl⟩ := ry
    cases rx
    rcases e with e | e
    · obtain ⟨its, r, pl, hz⟩ := I.list e
      exact RcNeAt.list_str z t pl.isList (by omega) X.prog X.w _ _ ⟨.bl _, H, I, rfl, q⟩
    · obtain ⟨its, r, pl, hz⟩ := I.tuple e
      exact RcNeAt.tuple_str z t pl (by omega) X.prog X.w _ _ ⟨.bl _, H, I, rfl, q⟩
  · cases rx
    cases ry
    obtain ⟨its, r, pl, hz⟩ := I.tuple e1
    obtain ⟨its2, r2, pl2, hz2⟩ := I.tuple e2
    have l1 := r.length
    have l2 := r2.length
    have hm : min its.toArray.size its2.toArray.size = 0 := by
      rw [List.size_toArray, List.size_toArray]
      rcases em with rfl | rfl
      · simp at l1; omega
      · simp at l2; omega
    have hz : (its.toArray.size == its2.toArray.size) = false := by
      rw [List.size_toArray, List.size_toArray, beq_eq_false_iff_ne]
      omega
    have := RcNeAt.tuples (e := fun _ => true) (A := X.A) pl pl2 (by omega) (fun j h1 h2 => absurd (Nat.lt_min.mpr ⟨h1, h2⟩) (by omega))
    rw [hz, Bool.and_false, Bool.not_false] at this
    exact this X.prog X.w _ _ ⟨.bl _, H, I, rfl, q⟩
  · cases rx
    cases ry
    obtain ⟨its, r, pl, hz⟩ := I.list e1
    obtain ⟨its2, r2, pl2, hz2⟩ := I.list e2
    have l1 := r.length
    have l2 := r2.length
    exact RcNeAt.lists_lengths pl.isList pl2.isList (by rw [List.size_toArray, List.size_toArray, bne_iff_ne]; omega) (by omega) X.prog X.w _ _ ⟨.bl _, H, I, rfl, q⟩
theorem eq_str_dict {A : Around} {s : Shared} {l : Addr} {dd : Option Addr} {es : Array DictEntry} {n : Nat} {sl : Array (Option Value)} (b : Str) (u : Tok)
    (ho : s.heap.get? l = some { cls := .type "dict", dict := dd, data := .dict es n, slots := sl }) (hu : A.units < cLine) : EqAt A s (.str b u) (.ref l) false := fun prog w E Q h => by
  unfold eqBool
  refine wpAny_holding ?_
  refine wpAny_ite_split (fun hab => absurd (eq_of_beq hab) nofun) (fun _ => ?_)
  exact wpAny_bind (rc_str_dict b u ho hu prog w E _ (wpAny_truthy_bool h))
/-- a dict, a tuple, a list among texts: it is none of them -/
def DkIn (K : PySem.W.Frag) (H : Hp) (x y : V) : Prop := ∃ a b xs, x = .ref a ∧ ((∃ o kvs, H a = some (.frz o (.dK kvs))) ∨ ∃ zs, SqL K H a zs ∨ SqT K H a zs) ∧ y = .ref b ∧ SqL K H b xs ∧ ∀ v ∈ xs, ∃ z, v = V.str z
theorem eq_str_off {X : Cx} {pins : List (Addr × Obj)} {σ : L2.St} {H : Hp} {s : Shared} (I : Inv X pins σ H s) {a : Addr} (h : (∃ o kvs, H a = some (.frz o (.dK kvs))) ∨ ∃ zs, SqL X.K H a zs ∨ SqT X.K H a zs) {A : Around} (hu : A.units < cLine) (b : Str) (u : Tok) : EqAt A s (.str b u) (.ref a) false := by
  rcases h with ⟨o, kvs, e⟩ | ⟨zs, e | e⟩
  · obtain ⟨es, n, ho⟩ := dk_obj I e
    exact eq_str_dict b u ho hu
  · obtain ⟨its, r, pl, hz⟩ := I.list e
    exact EqAt.str_list b u pl.isList hu
  · obtain ⟨its, r, pl, hz⟩ := I.tuple e
    exact EqAt.str_tuple b u pl hu
theorem vals_strs : ∀ {xs : List V} {us : List Value}, Vals xs us → (∀ v ∈ xs, ∃ z, v = V.str z) → ∀ u ∈ us, ∃ z t, u = Value.str z t
  | _, _, .nil, _, u, hu => by cases hu
  | _, _, .cons r rs, h, u, hu => by
    rcases List.mem_cons.mp hu with rfl | hu
    · obtain ⟨z, rfl⟩ := h _ (List.mem_cons_self ..)
      obtain ⟨t, rfl⟩ := r
      exact ⟨z, t, rfl⟩
    · exact vals_strs rs (fun v hv => h v (List.mem_cons_of_mem _ hv)) u hu
theorem any_false (us : Array Value) : us.any (fun _ => false) = false := by simp
theorem op_inSD {X : Cx} (hu : X.A.units + 65 < cLine) : OpR X (compareOp .In) (fun x y H Q => DkIn X.K H x y ∧ Q (.bl false) H) := by
  intro pins s σ H x y v u Q I rx ry h
  obtain ⟨⟨a, b, xs, rfl, e, rfl, hs, hx⟩, q⟩ := h
  cases rx
  cases ry
  obtain ⟨its, rv, ⟨ol, m, hol, hc, _, hd⟩, _⟩ := I.list hs
  have hst := vals_strs rv hx
  refine in_listAt (fun _ => false) ⟨ol, hol, hc, m, hd⟩ (fun y hy => ?_) ?_
  · obtain ⟨z, t, rfl⟩ := hst y (by simpa using hy)
    exact eq_str_off I e (by have : X.A.in1.units = X.A.units + 1 := rfl; omega) z t
  · rw [any_false]
    exact ⟨.bl _, H, I, rfl, q⟩
theorem op_notInSD {X : Cx} (hu : X.A.units + 65 < cLine) : OpR X (compareOp .NotIn) (fun x y H Q => DkIn X.K H x y ∧ Q (.bl true) H) := by
  intro pins s σ H x y v u Q I rx ry h
  obtain ⟨⟨a, b, xs, rfl, e, rfl, hs, hx⟩, q⟩ := h
  cases rx
  cases ry
  obtain ⟨its, rv, ⟨ol, m, hol, hc, _, hd⟩, _⟩ := I.list hs
  have hst := vals_strs rv hx
  refine notIn_listAt (fun _ => false) ⟨ol, hol, hc, m, hd⟩ (fun y hy => ?_) ?_
  · obtain ⟨z, t, rfl⟩ := hst y (by simpa using hy)
    exact eq_str_off I e (by have : X.A.in1.units = X.A.units + 1 := rfl; omega) z t
  · rw [any_false]
    exact ⟨.bl _, H, I, rfl, q⟩
end DV

set_option maxHeartbeats 4000000
/-! Tuples made in the run, their objects known. -/
namespace DV
open PySem PySem.Spec PyProof.Rows L2
abbrev tupB (us : List Value) : Obj := { cls := .type "tuple", data := .seq us.toArray }
section
variable {X : Cx} {pins : List (Addr × Obj)} {σ : L2.St} {H : Hp} {s : Shared} {xs : List V} {us : List Value} {Q : VK}
/-- a tuple is laid behind all that stands -/
theorem lay_tupF (I : Inv X pins σ H s) (r : Vals xs us) (hz : xs.length ≤ sizeLine) (q : ∀ p (o : Obj), o.dict = none → H p = none → Q (.ref p) (upd H p (.frz o (.tup xs)))) : EP X pins σ Q (.ref s.heap.objs.size) { s with heap := s.heap.push (tupB us) } :=
  ⟨.ref s.heap.objs.size, _, I.laid (t' := s.toks) (fun b u e => Heap.get?_push_of_some _ e) (Nat.le_refl _) (tupF_ok hz r (Heap.get?_push_size _ rfl) rfl rfl), rfl, q _ (tupB us) rfl (I.hok.fresh (Nat.le_refl _))⟩
end
section
variable {X : Cx}
/-- divmod -/
theorem call_divmodF : CallR X (.builtin "divmod") (fun xs H Q => ∃ i j, xs = [.int i, .int j] ∧ CDiv i j ∧ ∀ p (o : Obj), o.dict = none → H p = none → Q (.ref p) (upd H p (.frz o (.tup [.int (i / j), .int (i % j)])))) := by
  intro pins s σ H xs us Q I r h
  obtain ⟨i, j, rfl, hij, q⟩ := h
  obtain ⟨a, b, rfl, ⟨t, rfl⟩, ⟨t', rfl⟩⟩ := vals2 r
  have j0 : 0 ≤ j := by have := hij.1; omega
  refine divmod_int (by have := hij.1; omega) ?_ (.inl (PyProof.noPylong_small (by have := hij.2; omega)))
  rw [Int.fdiv_eq_ediv_of_nonneg i j0, Int.fmod_eq_emod_of_nonneg i j0]
  exact lay_tupF (xs := [.int (i / j), .int (i % j)]) (us := [.int (i / j) s.toks, .int (i % j) (s.toks + 1)]) (s := { s with toks := s.toks + 2 }) (I.tok _) (.cons ⟨_, rfl⟩ (.cons ⟨_, rfl⟩ .nil)) (by show 2 ≤ sizeLine; decide) q
/-- tuple(x) -/
theorem call_tupleF : CallR X (.type "tuple") (fun xs H Q => ∃ p ys, xs = [.ref p] ∧ ((SqL X.K H p ys ∧ (ys.length ≤ sizeLine → ∀ l (o : Obj), o.dict = none → H l = none → Q (.ref l) (upd H l (.frz o (.tup ys))))) ∨ (SqT X.K H p ys ∧ Q (.ref p) H))) := by
  intro pins s σ H xs us Q I r h
  obtain ⟨p, ys, rfl, h⟩ := h
  rcases h with ⟨hl, q⟩ | ⟨ht, q⟩
  · obtain ⟨u, rfl, rx⟩ := vals1 r
    cases rx
    obtain ⟨its, rv, pl, hz⟩ := I.list hl
    refine call_tuple_list pl.isList (fun h' kp => ?_) (by rw [List.size_toArray, ← rv.length]; exact hz)
    exact lay_tupF (s := { s with heap := h' }) (I.kept (t' := s.toks) kp) rv hz (q hz)
  · exact call_tuple_of pins s σ H _ us Q I r ⟨p, ys, rfl, .inr ⟨ht, q⟩⟩
/-- t + u -/
theorem op_catS : OpR X (binaryOp .Add) (fun x y H Q => ∃ a b xs ys, x = V.ref a ∧ y = V.ref b ∧ SqT X.K H a xs ∧ SqT X.K H b ys ∧ xs.length + ys.length ≤ sizeLine ∧
    (xs = [] → Q (.ref b) H) ∧ (xs ≠ [] → ys = [] → Q (.ref a) H) ∧ (xs ≠ [] → ys ≠ [] → ∀ p (o : Obj), o.dict = none → H p = none → Q (.ref p) (upd H p (.frz o (.tup (xs ++ ys)))))) := by
  intro pins s σ H x y v u Q I rx ry h
  obtain ⟨a, b, xs, ys, rfl, rfl, ha, hb, hz, q0, q1, q2⟩ := h
  by_cases hx : xs = []
  · exact op_catA pins s σ H _ _ v u Q I rx ry ⟨a, b, xs, ys, rfl, rfl, ha, hb, hz, q0, q1, fun z => absurd hx z⟩
  cases rx
  cases ry
  obtain ⟨vs, r1, p1, _⟩ := I.tuple ha
  obtain ⟨ws, r2, p2, _⟩ := I.tuple hb
  refine HT.cat_tup p1 p2 (fun z => hx (r1.nil_iff.mp z)) (fun z => ⟨.ref a, H, I, rfl, q1 hx (r2.nil_iff.mp z)⟩) (fun z => ?_) (by rw [← r1.length, ← r2.length]; exact hz)
  exact lay_tupF I (r1.append r2) (by rw [List.length_append]; exact hz) (q2 hx fun e => z (r2.nil_iff.mpr e))
/-- t[lo:hi] -/
theorem sl_tupS : SlR X (fun x lo hi H Q => ∃ a xs, x = .ref a ∧ SqT X.K H a xs ∧
    (HT.sIx xs.length 0 lo = 0 ∧ HT.sIx xs.length xs.length hi = xs.length → Q (.ref a) H) ∧ (¬ (HT.sIx xs.length 0 lo = 0 ∧ HT.sIx xs.length xs.length hi = xs.length) → ∀ p (o : Obj), o.dict = none → H p = none → Q (.ref p) (upd H p (.frz o (.tup (cutV xs lo hi)))))) := by
  intro pins s σ H x v vl vu lo hi sl Q I rx hs pl pu h
  obtain ⟨a, xs, rfl, hx, q1, q2⟩ := h
  by_cases hw : HT.sIx xs.length 0 lo = 0 ∧ HT.sIx xs.length xs.length hi = xs.length
  · exact sl_tupA pins s σ H _ v vl vu lo hi sl Q I rx hs pl pu ⟨a, xs, rfl, hx, q1, fun z => absurd hw z⟩
  cases rx
  obtain ⟨its, r, ht, hz⟩ := I.tuple hx
  have hlen : its.toArray.size = xs.length := by rw [List.size_toArray]; exact r.length.symm
  refine ⟨"tuple", _, PyProof.Rows.slot_tuple_getitem.lookup, ht.typeIs, HT.getItem_tuple_cut ht hs pl pu (by rw [hlen]; exact hw) ?_ (by rw [hlen]; exact hz)⟩
  rw [hlen]
  exact lay_tupF I ((r.drop _).take _) (Nat.le_trans (cutV_length xs lo hi) hz) (q2 hw)
end
end DV

set_option maxHeartbeats 4000000
namespace DV
open PySem PySem.Spec PyProof.Rows L2
/-! Operators, built-ins, methods by values. -/
section
variable {X : Cx}
theorem dop_int {o : Value → Value → Sem Value} {gi : Int → Int → PyData} {gv : Int → Int → V} {C : Int → Int → Prop} [∀ i j, Decidable (C i j)] (h : OpR X o (rI C gv)) (hg : ∀ K H i j, Pp K H (gv i j) (gi i j)) {g : D → D → Sto → R D}
    (eg : ∀ d e S, g d e S = match d, e with
      | .py (.int i), .py (.int j) => if C i j then .ok (.py (gi i j)) S else .no
      | _, _ => .no) : DOp X o g := by
  refine ⟨_, h, fun x y d e H S ι E Q hS rx ry hw => ?_⟩
  rw [eg] at hw
  split at hw
  · split at hw
    · rename_i hc
      exact ⟨_, _, int_of rx, int_of ry, hc, hw _ _ _ (.refl hS) (.py (hg _ _ _ _))⟩
    · exact hw.elim
  · exact hw.elim
theorem dop_int0 {o : Value → Value → Sem Value} {gi : Int → Int → PyData} {gv : Int → Int → V} (h : OpR X o (rI0 gv)) (hg : ∀ K H i j, Pp K H (gv i j) (gi i j)) {g : D → D → Sto → R D}
    (eg : ∀ d e S, g d e S = match d, e with
      | .py (.int i), .py (.int j) => .ok (.py (gi i j)) S
      | _, _ => .no) : DOp X o g := by
  refine ⟨_, h, fun x y d e H S ι E Q hS rx ry hw => ?_⟩
  rw [eg] at hw
  split at hw
  · exact ⟨_, _, int_of rx, int_of ry, hw _ _ _ (.refl hS) (.py (hg _ _ _ _))⟩
  · exact hw.elim
theorem do_sub : DOp X (binaryOp .Sub) subD := dop_int0 op_sub (fun _ _ i j => .int (i - j)) fun d e S => by cases d with | obj _ => rfl | raw _ => rfl | py d => cases d <;> first | rfl | (cases e with | obj _ => rfl | raw _ => rfl | py e => cases e <;> rfl)
instance (i j : Int) : Decidable (CMul i j) := by unfold CMul; exact inferInstance
instance (i j : Int) : Decidable (CDiv i j) := by unfold CDiv; exact inferInstance
instance (i j : Int) : Decidable (CPow i j) := by unfold CPow; exact inferInstance
theorem do_mul : DOp X (binaryOp .Mult) mulD := dop_int op_mul (fun _ _ i j => .int (i * j)) fun d e S => by cases d with | obj _ => rfl | raw _ => rfl | py d => cases d <;> first | rfl | (cases e with | obj _ => rfl | raw _ => rfl | py e => cases e <;> rfl)
theorem do_fdiv : DOp X (binaryOp .FloorDiv) fdivD := dop_int op_fdiv (fun _ _ i j => .int (i / j)) fun d e S => by cases d with | obj _ => rfl | raw _ => rfl | py d => cases d <;> first | rfl | (cases e with | obj _ => rfl | raw _ => rfl | py e => cases e <;> rfl)
theorem do_mod : DOp X (binaryOp .Mod) modD := dop_int op_mod (fun _ _ i j => .int (i % j)) fun d e S => by cases d with | obj _ => rfl | raw _ => rfl | py d => cases d <;> first | rfl | (cases e with | obj _ => rfl | raw _ => rfl | py e => cases e <;> rfl)
theorem do_pow : DOp X (binaryOp .Pow) powD := dop_int op_pow (fun _ _ i j => .int (i ^ j.toNat)) fun d e S => by cases d with | obj _ => rfl | raw _ => rfl | py d => cases d <;> first | rfl | (cases e with | obj _ => rfl | raw _ => rfl | py e => cases e <;> rfl)
theorem do_gt : DOp X (compareOp .Gt) (cmpI fun i j => decide (j < i)) := dop_int0 op_gt (fun _ _ i j => .bl _) fun d e S => by cases d with | obj _ => rfl | raw _ => rfl | py d => cases d <;> first | rfl | (cases e with | obj _ => rfl | raw _ => rfl | py e => cases e <;> rfl)
theorem du_neg : DUn X (unaryOp .USub) negD := ⟨_, un_neg, fun x d H S ι E Q hS rx hw => by
  unfold negD at hw
  split at hw
  · exact ⟨_, int_of rx, hw _ _ _ (.refl hS) (.py (.int _))⟩
  · exact hw.elim⟩
/-! ### lists and tuples put together -/
theorem op_catF : OpR X (binaryOp .Add) (fun x y H Q => ∃ l b xs zs, x = .ref l ∧ y = .ref b ∧ SqL X.K H l xs ∧ SqL X.K H b zs ∧ xs.length + zs.length ≤ sizeLine ∧ ∀ p o, H p = none → Q (.ref p) (upd H p (.frz o (.lst (xs ++ zs))))) := by
  intro pins s σ H x y v u Q I rx ry h
  obtain ⟨l, b, xs, zs, rfl, rfl, hl, hb, hz, q⟩ := h
  cases rx
  cases ry
  obtain ⟨its, r, ⟨⟨c1, d1, dt1, s1⟩, n1, e1, hc1, hd1, hs1⟩, _⟩ := I.list hl
  obtain ⟨its2, r2, ⟨⟨c2, d2, dt2, s2⟩, n2, e2, hc2, hd2, hs2⟩, _⟩ := I.list hb
  simp only at hc1 hd1 hs1 hc2 hd2 hs2
  subst hc1 hd1 hs1 hc2 hd2 hs2
  refine concat_meets ⟨_, e1, rfl⟩ ⟨_, e2, rfl⟩ noFill_list_add seq_list_add PySem.F.slot_list_add PySem.F.entry_list_add (PySem.F.args_list_add_2 _ _) (list_addW l b its.toArray its2.toArray n1 n2 none none s1 s2 (by rw [List.size_toArray, List.size_toArray, ← r.length, ← r2.length]; exact hz)) ⟨e1, e2, ?_⟩
  have ea : its.toArray ++ its2.toArray = (its ++ its2).toArray := by simp
  rw [ea]
  have I2 := I.lnew (t' := s.toks) (r.append r2) (by rw [List.length_append]; exact hz)
  obtain ⟨o, I3⟩ := I2.lock upd_same trivial
  rw [upd_upd] at I3
  exact ⟨.ref _, _, I3, rfl, q _ o I.fresh⟩
theorem do_add : DOp X (binaryOp .Add) addD := by
  refine ⟨_, ((op_add (X := X)).or (op_add_str (X := X))).or ((op_catF (X := X)).or (op_catS (X := X))), fun x y d e H S ι E Q hS rx ry hw => ?_⟩
  unfold addD at hw
  split at hw
  · exact .inl (.inl ⟨_, _, int_of rx, int_of ry, hw _ _ _ (.refl hS) (.py (.int _))⟩)
  · split at hw
    · rename_i hz
      exact .inl (.inr ⟨_, _, str_of rx, str_of ry, hz, hw _ _ _ (.refl hS) (.py (.str _))⟩)
    · exact hw.elim
  · split at hw
    · rename_i xs ys S hz
      cases rx with
      | py rx =>
        cases rx with
        | lst h1 z1 a1 =>
          cases ry with
          | py ry =>
            cases ry with
            | lst h2 z2 a2 =>
              refine .inr (.inl ⟨_, _, _, _, rfl, rfl, h1.sq, h2.sq, by rw [a1.length, a2.length]; exact hz, fun p o hp => hw _ _ _ (.new hS hp) (.py (.lst (.inl ⟨o, upd_same⟩) (by rw [List.length_append]; exact hz) ?_))⟩)
              exact (a1.append a2).keep (.new hp)
    · exact hw.elim
  · split at hw
    · rename_i xs ys S hz
      cases rx with
      | py rx =>
        cases rx with
        | tup h1 z1 a1 =>
          cases ry with
          | py ry =>
            cases ry with
            | tup h2 z2 a2 =>
              refine .inr (.inr ⟨_, _, _, _, rfl, rfl, h1.sq, h2.sq, by rw [a1.length, a2.length]; exact hz, fun e0 => ?_, fun _ e0 => ?_, fun _ _ p o ho hp => hw _ _ _ (.new hS hp) (.py (.tup (.new ho) (by rw [List.length_append]; exact hz) ?_))⟩)
              · subst e0
                cases a1
                exact hw _ _ _ (.refl hS) (.py (.tup h2 z2 a2))
              · subst e0
                cases a2
                rw [List.append_nil] at hw
                exact hw _ _ _ (.refl hS) (.py (.tup h1 z1 a1))
              · exact (a1.append a2).keep (.new hp)
    · exact hw.elim
  · exact hw.elim
/-! ### == -/
theorem flat_scal {K : PySem.W.Frag} {H : Hp} {x y : V} {d e : PyData} {k : Bool} (rx : Pp K H x d) (ry : Pp K H y e) (h : flatD d e = some k) : scal x y = true ∧ decide (x = y) = k := by
  cases rx <;> cases ry <;> simp [flatD] at h <;> subst h <;> simp [scal]
theorem txdk_of {K : PySem.W.Frag} {H : Hp} {x y : V} {d e : PyData} (rx : Pp K H x d) (ry : Pp K H y e) (h : dkTx d e = true) : TxDk H x y := by
  cases rx <;> cases ry <;> simp [dkTx] at h
  · rename_i z a o kvs ds e _ _
    exact .inl ⟨_, _, _, _, rfl, rfl, e⟩
  · rename_i a o kvs ds e _ _ z
    exact .inr ⟨_, _, _, _, rfl, rfl, e⟩
theorem off_of {K : PySem.W.Frag} {H : Hp} {x y : V} {d e : PyData} (rx : Pp K H x d) (ry : Pp K H y e) (h : offB d e = true) : Off K H x y := by
  cases rx <;> cases ry
  case str.dic => exact .inl (txdk_of (.str _) (.dic ‹_› ‹_› ‹_›) rfl)
  case dic.str => exact .inl (txdk_of (.dic ‹_› ‹_› ‹_›) (.str _) rfl)
  case str.lst => exact .inr (.inl ⟨_, _, _, rfl, rfl, .inl (FL.sq ‹_›)⟩)
  case str.tup => exact .inr (.inl ⟨_, _, _, rfl, rfl, .inr (FT.sq ‹_›)⟩)
  case lst.str => exact .inr (.inr (.inl ⟨_, _, _, rfl, rfl, .inl (FL.sq ‹_›)⟩))
  case tup.str => exact .inr (.inr (.inl ⟨_, _, _, rfl, rfl, .inr (FT.sq ‹_›)⟩))
  case lst.lst h1 _ a1 _ _ _ h2 _ a2 =>
    have l1 := a1.length
    have l2 := a2.length
    exact .inr (.inr (.inr (.inr ⟨_, _, _, _, rfl, rfl, h1.sq, h2.sq, by simpa [offB, l1, l2] using h⟩)))
  case tup.tup ds1 h1 _ a1 _ _ ds2 h2 _ a2 =>
    have l1 := a1.length
    have l2 := a2.length
    refine .inr (.inr (.inr (.inl ⟨_, _, _, _, rfl, rfl, h1.sq, h2.sq, ?_⟩)))
    cases a1 <;> cases a2 <;> simp [offB] at h ⊢
  all_goals simp [offB, dkTx] at h
theorem do_eq {k : Nat} {E : XK} (o : Okx k X E) : DOp X (compareOp .Eq) eqD := by
  refine ⟨_, (op_eq (X := X)).or ((op_eqD (X := X) o.room.units).or (op_eqOff (X := X) o.room.units)), fun x y d e H S ι E Q hS rx ry hw => ?_⟩
  cases rx with
  | obj _ => exact hw.elim
  | raw _ => exact hw.elim
  | py rx =>
    cases ry with
    | obj _ => exact hw.elim
    | raw _ => exact hw.elim
    | py ry =>
      unfold eqD eqB at hw
      simp only at hw
      split at hw
      · rename_i k hk
        split at hk
        · rename_i k' hf
          cases hk
          obtain ⟨h1, h2⟩ := flat_scal rx ry hf
          refine .inl ⟨h1, ?_⟩
          rw [h2]
          exact hw _ _ _ (.refl hS) (.py (.bl _))
        · split at hk
          · rename_i hs
            cases hk
            exact .inr (.inl ⟨_, _, rx.dp (noDict_of hs.1), ry.dp (noDict_of hs.2), hs.1, hs.2, hw _ _ _ (.refl hS) (.py (.bl _))⟩)
          · split at hk
            · rename_i hd
              cases hk
              exact .inr (.inr ⟨off_of rx ry hd, hw _ _ _ (.refl hS) (.py (.bl _))⟩)
            · cases hk
      · exact hw.elim
theorem do_ne {k : Nat} {E : XK} (o : Okx k X E) : DOp X (compareOp .NotEq) neD := by
  refine ⟨_, (op_ne (X := X)).or ((op_neD (X := X) o.room.units).or (op_neOff (X := X) o.room.units)), fun x y d e H S ι E Q hS rx ry hw => ?_⟩
  cases rx with
  | obj _ => exact hw.elim
  | raw _ => exact hw.elim
  | py rx =>
    cases ry with
    | obj _ => exact hw.elim
    | raw _ => exact hw.elim
    | py ry =>
      unfold neD eqB at hw
      simp only at hw
      split at hw
      · rename_i k hk
        split at hk
        · rename_i k' hf
          cases hk
          obtain ⟨h1, h2⟩ := flat_scal rx ry hf
          refine .inl ⟨h1, ?_⟩
          rw [h2]
          exact hw _ _ _ (.refl hS) (.py (.bl _))
        · split at hk
          · rename_i hs
            cases hk
            exact .inr (.inl ⟨_, _, rx.dp (noDict_of hs.1), ry.dp (noDict_of hs.2), hs.1, hs.2, hw _ _ _ (.refl hS) (.py (.bl _))⟩)
          · split at hk
            · rename_i hd
              cases hk
              exact .inr (.inr ⟨off_of rx ry hd, hw _ _ _ (.refl hS) (.py (.bl _))⟩)
            · cases hk
      · exact hw.elim
theorem non_iff {K : PySem.W.Frag} {H : Hp} {x : V} {d : PyData} (r : Pp K H x d) : decide (x = .non) = isNon d := by
  cases r <;> simp [isNon]
theorem do_is : DOp X (compareOp .Is) isND := by
  refine ⟨_, op_isN, fun x y d e H S ι E Q hS rx ry hw => ?_⟩
  unfold isND at hw
  split at hw
  · cases ry with
    | py ry =>
      cases rx with
      | py rx =>
        cases ry
        exact ⟨rfl, by rw [non_iff rx]; exact hw _ _ _ (.refl hS) (.py (.bl _))⟩
  · exact hw.elim
theorem do_isnot : DOp X (compareOp .IsNot) notND := by
  refine ⟨_, op_notN, fun x y d e H S ι E Q hS rx ry hw => ?_⟩
  unfold notND at hw
  split at hw
  · cases ry with
    | py ry =>
      cases rx with
      | py rx =>
        cases ry
        exact ⟨rfl, by rw [non_iff rx]; exact hw _ _ _ (.refl hS) (.py (.bl _))⟩
  · exact hw.elim
/-! ### built-ins -/
theorem dc_len : DC X (.builtin "len") lenD := by
  refine ⟨_, (call_len_str (X := X)).or (call_len_seq (X := X)), fun xs ds H S ι E Q hS r hw => ?_⟩
  unfold lenD at hw
  split at hw
  · split at hw
    · rename_i hz
      cases r with
      | cons r rs =>
        cases rs
        exact .inl ⟨_, by rw [str_of r], hz, hw _ _ _ (.refl hS) (.py (.int _))⟩
    · exact hw.elim
  · split at hw
    · rename_i ds' hds
      cases r with
      | cons r rs =>
        cases rs
        obtain ⟨a, vs, rfl, hq, rr⟩ := seq_of hS r hds
        refine .inr ⟨a, vs, rfl, hq.imp id fun z => z.1.sq, ?_⟩
        rw [rr.length]
        exact hw _ _ _ (.refl hS) (.py (.int _))
    · exact hw.elim
  · exact hw.elim
theorem dc_max2 {k : Nat} {E : XK} (o : Okx k X E) : DC X (.builtin "max") max2D := by
  refine ⟨_, call_max2 o.calm, fun xs ds H S ι E Q hS r hw => ?_⟩
  unfold max2D at hw
  split at hw
  · cases r with
    | cons r rs =>
      cases rs with
      | cons r2 rs =>
        cases rs
        exact ⟨_, _, by rw [int_of r, int_of r2], hw _ _ _ (.refl hS) (.py (.int _))⟩
  · exact hw.elim
theorem dc_min2 {k : Nat} {E : XK} (o : Okx k X E) : DC X (.builtin "min") min2D := by
  refine ⟨_, call_min2 o.calm, fun xs ds H S ι E Q hS r hw => ?_⟩
  unfold min2D at hw
  split at hw
  · cases r with
    | cons r rs =>
      cases rs with
      | cons r2 rs =>
        cases rs
        exact ⟨_, _, by rw [int_of r, int_of r2], hw _ _ _ (.refl hS) (.py (.int _))⟩
  · exact hw.elim
theorem dc_abs : DC X (.builtin "abs") absD := by
  refine ⟨_, call_abs, fun xs ds H S ι E Q hS r hw => ?_⟩
  unfold absD at hw
  split at hw
  · cases r with
    | cons r rs =>
      cases rs
      exact ⟨_, by rw [int_of r], hw _ _ _ (.refl hS) (.py (.int _))⟩
  · exact hw.elim
theorem dc_divmod : DC X (.builtin "divmod") divmodD := by
  refine ⟨_, call_divmodF, fun xs ds H S ι E Q hS r hw => ?_⟩
  unfold divmodD at hw
  split at hw
  · split at hw
    · rename_i hz
      cases r with
      | cons r rs =>
        cases rs with
        | cons r2 rs =>
          cases rs
          exact ⟨_, _, by rw [int_of r, int_of r2], hz, fun p o ho hp => hw _ _ _ (.new hS hp) (.py (.tup (.new ho) (by show 2 ≤ sizeLine; decide) (.cons (.int _) (.cons (.int _) .nil))))⟩
    · exact hw.elim
  · exact hw.elim
theorem dc_tuple : DC X (.type "tuple") tupleD := by
  refine ⟨_, call_tupleF, fun xs ds H S ι E Q hS r hw => ?_⟩
  unfold tupleD at hw
  split at hw
  · split at hw
    · rename_i ds' hds
      split at hw
      · rename_i ps hp
        cases r with
        | cons r rs =>
          cases rs
          obtain ⟨a, vs, rfl, hq, rr⟩ := seq_of hS r hds
          have al := RdAll.pys rr hp
          rcases hq with hq | ⟨hq, qs, e, hz⟩
          · exact ⟨a, vs, rfl, .inl ⟨hq, fun z l o ho hl => hw _ _ _ (.new hS hl) (.py (.tup (.new ho) (by rw [← al.length]; exact z) (al.keep (.new hl))))⟩⟩
          · subst e
            refine ⟨a, vs, rfl, .inr ⟨hq.sq, hw _ _ _ (.refl hS) (.py (.tup hq ?_ al))⟩⟩
            simp only [seqOf] at hds
            cases hds
            rw [pysOf_length hp, List.length_map]
            exact hz
      · exact hw.elim
    · exact hw.elim
  · exact hw.elim
/-- a built-in that makes a new list -/
def DCL (X : Cx) (o : Value) (g : List D → Sto → R (List D)) : Prop := ∃ r, CallR X o r ∧ ∀ xs ds H S ι E Q, StR X.K ι H S → RdAll X.K ι H xs ds → Wp X.K X.mg E ι H (relL X.K H) (g ds S) Q → r xs H Q
theorem signs_rd {K : PySem.W.Frag} {ι : List Addr} {H : Hp} (l : List Nat) : RdAll K ι H (l.map fun c => V.str ⟨#[c]⟩) (l.map fun c => D.py (.str ⟨#[c]⟩)) := by
  induction l with
  | nil => exact .nil
  | cons c l ih => exact .cons (.py (.str _)) ih
theorem paired_ix {α β : Type} {G : α → β → Prop} : ∀ {l₁ : List α} {l₂ : List β}, l₁.length = l₂.length → (∀ (i : Nat) x y, l₁[i]? = some x → l₂[i]? = some y → G x y) → Paired G l₁ l₂
  | [], [], _, _ => .nil
  | _ :: _, [], h, _ => by cases h
  | [], _ :: _, h, _ => by cases h
  | a :: l, b :: m, h, q => .cons (q 0 a b rfl rfl) (paired_ix (Nat.succ.inj h) fun i x y e1 e2 => q (i + 1) x y (by simpa using e1) (by simpa using e2))
theorem items_signs {x : Str} {acc : Array Value} (h : ItemsOf (SignAt x) acc x.cps.size) : Vals (x.cps.toList.map fun c => V.str ⟨#[c]⟩) acc.toList := by
  refine paired_ix (by rw [List.length_map, Array.length_toList, Array.length_toList, h.1]) fun i v u e1 e2 => ?_
  rw [Array.getElem?_toList] at e2
  obtain ⟨c, t, h1, h2⟩ := h.2 i u e2
  rw [List.getElem?_map, Array.getElem?_toList, h1] at e1
  cases e1
  exact ⟨t, h2⟩
theorem call_listB : CallR X (.type "list") (fun xs H Q => ∃ p ys, xs = [.ref p] ∧ (SqL X.K H p ys ∨ SqT X.K H p ys) ∧ (ys.length ≤ sizeLine → ∀ l, H l = none → Q (.ref l) (upd H l (.lst ys)))) := by
  intro pins s σ H xs us Q I r h
  obtain ⟨p, ys, rfl, h1, h2⟩ := h
  have z : ys.length ≤ sizeLine := by
    rcases h1 with h1 | h1
    · obtain ⟨_, _, _, z⟩ := I.list h1
      exact z
    · obtain ⟨_, _, _, z⟩ := I.tuple h1
      exact z
  exact call_list_of pins s σ H _ us Q I r ⟨p, ys, rfl, h1, h2 z⟩
theorem call_list_strD {k : Nat} {E : XK} (o : Okx k X E) : CallR X (.type "list") (fun xs H Q => ∃ x, xs = [.str x] ∧ x.length ≤ sizeLine ∧ ∀ l, H l = none → Q (.ref l) (upd H l (.lst (x.cps.toList.map fun c => V.str ⟨#[c]⟩)))) := by
  intro pins s σ H xs us Q I r h
  obtain ⟨x, rfl, hz, q⟩ := h
  obtain ⟨u, rfl, ru⟩ := vals1 r
  obtain ⟨t, rfl⟩ := ru
  refine call_list_str (I.ok.hd o.calm) x t (fun h' tk acc' c' hk hS hacc => ?_) hz
  refine ⟨.ref _, _, I.laid (t' := tk) hk (Nat.le_refl _) ?_, rfl, q _ I.fresh⟩
  refine ⟨by rw [List.length_map, Array.length_toList]; exact hz, acc'.toList, c', items_signs hacc, ?_⟩
  simpa using hS
theorem dcl_list {k : Nat} {E : XK} (o : Okx k X E) : DCL X (.type "list") listD := by
  refine ⟨_, (call_list_strD o).or (call_listB (X := X)), fun xs ds H S ι E Q hS r hw => ?_⟩
  unfold listD at hw
  split at hw
  · split at hw
    · rename_i hz
      cases r with
      | cons r rs =>
        cases rs
        refine .inl ⟨_, by rw [str_of r], hz, fun l hl => hw _ _ _ (.new hS hl) ⟨l, _, hl, rfl, upd_same, hS.notin hl, by rw [List.length_map, Array.length_toList]; exact hz, signs_rd _⟩⟩
    · exact hw.elim
  · split at hw
    · rename_i ds' hds
      cases r with
      | cons r rs =>
        cases rs
        obtain ⟨a, vs, rfl, hq, rr⟩ := seq_of hS r hds
        exact .inr ⟨a, vs, rfl, hq.imp id fun z => z.1.sq, fun z l hl => hw _ _ _ (.new hS hl) ⟨l, _, hl, rfl, upd_same, hS.notin hl, z, RdAll.mono (List.prefix_refl _) (.new hl) rr⟩⟩
    · exact hw.elim
  · exact hw.elim
/-! ### the text of a value -/
mutual
theorem deep_dp {K : PySem.W.Frag} {ι : List Addr} {H : Hp} {S : Sto} (hS : StR K ι H S) : ∀ (n : Nat) {v : V} {d : D} {p : PyData}, Rd K ι H v d → deep S n d = some p → p.hasDict = false → Dp K H v p
  | 0, _, _, _, _, h, _ => by cases h
  | n + 1, v, .py d, p, r, h, q => by
    cases r with
    | py r => cases h; exact r.dp q
  | n + 1, v, .obj m, p, r, h, q => by
    cases r with
    | obj e =>
      simp only [deep] at h
      split at h
      · rename_i ds hd
        rw [Option.map_eq_some_iff] at h
        obtain ⟨ps, h1, h2⟩ := h
        subst h2
        cases hS.at_ _ _ _ hd e with
        | lst ha rr => exact .lst (.of ha) (deep_all hS n rr h1 (by rw [PyData.hasDict.eq_5] at q; exact q))
      · cases h
theorem deep_all {K : PySem.W.Frag} {ι : List Addr} {H : Hp} {S : Sto} (hS : StR K ι H S) (n : Nat) : ∀ {vs : List V} {ds : List D} {ps : List PyData}, RdAll K ι H vs ds → ds.mapM (deep S n) = some ps → PyData.hasDictAll ps = false → DpAll K H vs ps
  | _, [], _, .nil, h, _ => by
    simp at h
    subst h
    exact .nil
  | _, d :: ds, ps, .cons r rs, h, q => by
    rw [List.mapM_cons] at h
    simp only [Option.bind_eq_bind, Option.bind_eq_some_iff, Option.pure_def, Option.some.injEq] at h
    obtain ⟨p, h1, qs, h2, rfl⟩ := h
    rw [PyData.hasDictAll.eq_2, Bool.or_eq_false_iff] at q
    exact .cons (deep_dp hS n r h1 q.1) (deep_all hS n rs h2 q.2)
end
theorem call_reprD {k : Nat} {E : XK} (o : Okx k X E) : CallR X (.builtin "repr") (fun xs H Q => ∃ x p, xs = [x] ∧ Dp X.K H x p ∧ p.showable = true ∧ p.hasDict = false ∧ p.depth ≤ 60 ∧ p.shown.length ≤ sizeLine ∧ Q (.str p.shown) H) := by
  intro pins s σ H xs us Q I r h
  obtain ⟨x, p, rfl, hd, h1, h2, h3, h4, q⟩ := h
  obtain ⟨u, rfl, ru⟩ := vals1 r
  have hu := o.room.un
  cases hd with
  | non =>
    cases ru
    exact PySem.P.repr_of_none ⟨.str _, H, I.tok _, ⟨_, rfl⟩, by simpa only [PyData.shown] using q⟩
  | bl b =>
    cases ru
    exact PySem.P.repr_of_bool ⟨.str _, H, I.tok _, ⟨_, rfl⟩, by simpa only [PyData.shown] using q⟩
  | int i =>
    obtain ⟨t, rfl⟩ := ru
    exact PySem.P.repr_of_int (by simpa [PyData.showable] using h1) ⟨.str _, H, I.tok _, ⟨_, rfl⟩, by simpa only [PyData.shown] using q⟩
  | str z =>
    obtain ⟨t, rfl⟩ := ru
    exact PySem.P.repr_of_str ⟨.str _, H, I.tok _, ⟨_, rfl⟩, by simpa only [PyData.shown] using q⟩ (by simpa only [PyData.shown] using h4)
  | lst hq al =>
    have ru' := ru
    cases ru
    obtain ⟨as, hr⟩ := Dp.reads I _ _ _ (.lst hq al) ru'
    exact repr_of_reads' hr h1 (fun z => by rw [h2] at z; cases z) o.gd (by omega) (fun _ _ e => e) (fun h' u tk hk => ⟨.str _, H, I.kept (t' := tk) hk, ⟨_, rfl⟩, q⟩) h4
  | tup hq al =>
    have ru' := ru
    cases ru
    obtain ⟨as, hr⟩ := Dp.reads I _ _ _ (.tup hq al) ru'
    exact repr_of_reads' hr h1 (fun z => by rw [h2] at z; cases z) o.gd (by omega) (fun _ _ e => e) (fun h' u tk hk => ⟨.str _, H, I.kept (t' := tk) hk, ⟨_, rfl⟩, q⟩) h4
/-! ### methods of lists -/
theorem dm_append : DM X "list" "list.append" appendD := by
  refine ⟨_, mt_append, fun x xs d ds H S ι E Q hS rx r hw => ?_⟩
  unfold appendD at hw
  split at hw
  · split at hw
    · rename_i ds' hds
      split at hw
      · rename_i hz
        cases rx with
        | obj e =>
          cases hS.at_ _ _ _ hds e with
          | lst ha rr =>
            cases r with
            | cons r rs =>
              cases rs
              refine ⟨_, _, _, rfl, rfl, ha, by rw [rr.length]; exact hz, hw _ _ _ (.wr e ha (hS.set e ha (Paired.app rr (.cons r .nil)))) (.py .non)⟩
      · exact hw.elim
    · exact hw.elim
  · exact hw.elim
theorem ix_of_nat {i : Int} {n : Nat} (h0 : 0 ≤ i) (h1 : i.toNat < n) : seqIndex? i n = some i.toNat := by
  unfold seqIndex?
  have a : ¬ i < 0 := by omega
  have b : i < (n : Int) := by omega
  simp [a, h0, b]
theorem paired_erase {α β : Type} {G : α → β → Prop} : ∀ {l₁ : List α} {l₂ : List β} (i : Nat), Paired G l₁ l₂ → Paired G (l₁.eraseIdx i) (l₂.eraseIdx i)
  | _, _, _, .nil => .nil
  | _, _, 0, .cons _ t => t
  | _, _, i + 1, .cons q t => .cons q (paired_erase i t)
theorem paired_last {α β : Type} {G : α → β → Prop} : ∀ {l₁ : List α} {l₂ : List β}, Paired G l₁ l₂ → Paired G l₁.dropLast l₂.dropLast
  | _, _, .nil => .nil
  | _, _, .cons _ .nil => .nil
  | _, _, .cons q (.cons r t) => .cons q (paired_last (.cons r t))
theorem dm_pop : DM X "list" "list.pop" popD := by
  refine ⟨_, MtR.or (mt_pop (X := X)) (mt_popAt (X := X)), fun x xs d ds H S ι E Q hS rx r hw => ?_⟩
  unfold popD at hw
  split at hw
  · split at hw
    · rename_i ds' hds
      split at hw
      · rename_i d' hd'
        cases rx with
        | obj e =>
          cases hS.at_ _ _ _ hds e with
          | lst ha rr =>
            cases r
            obtain ⟨v, hv, rv⟩ := Paired.getR rr hd'
            exact .inl ⟨_, _, v, rfl, rfl, ha, by rw [rr.length]; exact hv, hw _ _ _ (.wr e ha (hS.set e ha (paired_last rr))) (rv.mono (List.prefix_refl _) (.list ha))⟩
      · exact hw.elim
    · exact hw.elim
  · split at hw
    · rename_i ds' hds
      split at hw
      · rename_i hi
        split at hw
        · rename_i d' hd'
          cases rx with
          | obj e =>
            cases hS.at_ _ _ _ hds e with
            | lst ha rr =>
              cases r with
              | cons r rs =>
                cases rs
                obtain ⟨v, hv, rv⟩ := Paired.getR rr hd'
                have hlt := (List.getElem?_eq_some_iff.mp hv).1
                exact .inr ⟨_, _, _, _, v, rfl, by rw [int_of r], ha, by omega, by omega, ix_of_nat hi.1 hlt, hv, hw _ _ _ (.wr e ha (hS.set e ha (paired_erase _ rr))) (rv.mono (List.prefix_refl _) (.list ha))⟩
        · exact hw.elim
      · exact hw.elim
    · exact hw.elim
  · exact hw.elim
/-! ### calls that make new lists; extend -/
variable {E : XK} {k : Nat} {e : Expr} {f : Ex} {es : List Expr} {fs fl : Ax} {pos p : Pos} {x : Str}
theorem dl_callTy {T : String} {gg : List D → Sto → R (List D)} (hc : DCL X (.type T) gg) (hm : X.mg x = none) (hv : bootBuiltins x = some (.type T)) (ha : DA X E (e :: es) fs) (hg : Gl X x := by rfl) (hn : x ≠ "__name__" := by decide) (hdb : (x == ("__debug__" : Str)) = false := by decide)
    (he : starEach (e :: es) X.env = (false, eval e X.env) :: starEach es X.env := by rfl) (hpl : (backTo pos (starEach es X.env)).any (·.1) = false := by rfl) : DL X E (.Call (.Name x p) (e :: es) [] pos) (callL gg fs) := by
  obtain ⟨l, t, pt, q⟩ := ha
  obtain ⟨r, hr, qr⟩ := hc
  refine ⟨_, pe_callTy hr hg hm hv pt hn hdb he hpl, fun σ H σd S ι Q hE hS h => ?_⟩
  refine q σ H σd S ι _ hE hS (Wp.bind0 h fun ds S1 _ vs H1 ι1 p1 r1 h1 => ?_)
  refine qr _ _ _ _ _ E _ p1.sto r1 ?_
  cases hgg : gg ds S1 with
  | no => rw [hgg] at h1; exact h1.elim
  | ex c S2 => rw [hgg] at h1; exact (Wp.re (rel := relL X.K H1) (Q := Q) p1 (show Wp X.K X.mg E ι H (relL X.K H1) (R.ex c S2) Q from h1))
  | ok ys S2 =>
    rw [hgg] at h1
    intro v H2 ι2 p2 r2
    obtain ⟨a, vs2, h0, rest⟩ := r2
    refine h1 v H2 ι2 (p1.trans p2) ⟨a, vs2, ?_, rest⟩
    cases q0 : H a with
    | none => rfl
    | some u => exact absurd h0 (p1.dom a (by rw [q0]; simp))
end
end DV

set_option maxHeartbeats 4000000
namespace DV
open PySem PySem.Spec PyProof.Rows L2
/-! More operators: in, index, isinstance, all, any, sum, slices. -/
/-! ### what they do -/
def isFlat : PyData → Bool
  | .none => true
  | .bool _ => true
  | .int _ => true
  | .str _ => true
  | _ => false
def isDk : PyData → Bool
  | .dict _ => true
  | _ => false
/-- a dict, a tuple, a list -/
def isSq : PyData → Bool
  | .dict _ => true
  | .tuple _ => true
  | .list _ => true
  | _ => false
def isSt : PyData → Bool
  | .str _ => true
  | _ => false
def inB (d : PyData) (e : PyData) : Option Bool := match e with
  | .list ds => if SeqAt.shaped d = true ∧ SeqAt.shaped (.list ds) = true then some (ds.any fun z => PyData.eqv z d) else if isSq d = true ∧ ds.all isSt = true then some false else if isFlat d = true ∧ ds.all isFlat = true then some (ds.any fun z => PyData.eqv z d) else none
  | .tuple ds => if isFlat d = true ∧ ds.all isFlat = true then some (ds.any fun z => PyData.eqv z d) else none
  | .str y => (match d with
    | .str x => (match x.cps.toList with
      | [c] => some (decide (c ∈ y.cps.toList))
      | _ => none)
    | _ => none)
  | _ => none
def inS (S : Sto) (x y : D) : Option Bool := match deep S 8 x, deep S 8 y with
  | some d, some e => inB d e
  | _, _ => none
def inD (x y : D) (S : Sto) : R D := match inS S x y with
  | some k => .ok (.py (.bool k)) S
  | none => .no
def notInD (x y : D) (S : Sto) : R D := match inS S x y with
  | some k => .ok (.py (.bool (!k))) S
  | none => .no
/-- the first place of an item -/
def placeOf (ds : List PyData) (d : PyData) : Option Nat := ds.findIdx? fun z => PyData.eqv z d
def indexD : D → List D → Sto → R D
  | x, [y], S => (match deep S 8 x, deep S 8 y with
    | some (.list ds), some d => if SeqAt.shaped (.list ds) = true ∧ SeqAt.shaped d = true then (match placeOf ds d with
      | some j => .ok (.py (.int (j : Nat))) S
      | none => .no) else .no
    | _, _ => .no)
  | _, _, _ => .no
def tyN : PyData → String
  | .none => "NoneType"
  | .bool _ => "bool"
  | .int _ => "int"
  | .str _ => "str"
  | .list _ => "list"
  | .tuple _ => "tuple"
  | .dict _ => "dict"
/-- is a value of class a one of class b -/
def isB (a b : String) : Bool := a == b || (a == "bool" && b == "int")
def isiD (T : String) : D → Sto → R D
  | .py d, S => .ok (.py (.bool (isB (tyN d) T))) S
  | .obj n, S => match S[n]? with
    | some (.lst _) => .ok (.py (.bool (isB "list" T))) S
    | _ => .no
  | .raw _, _ => .no
def boolsOf : List PyData → Option (List Bool)
  | [] => some []
  | .bool b :: ds => (boolsOf ds).map (b :: ·)
  | _ => none
def intsOf : List PyData → Option (List Int)
  | [] => some []
  | .int b :: ds => (intsOf ds).map (b :: ·)
  | _ => none
def allD : List D → Sto → R D
  | [.py (.list ds)], S => (match boolsOf ds with
    | some bs => .ok (.py (.bool (bs.all id))) S
    | none => .no)
  | _, _ => .no
def anyD : List D → Sto → R D
  | [.py (.list ds)], S => (match boolsOf ds with
    | some bs => .ok (.py (.bool (bs.any id))) S
    | none => .no)
  | _, _ => .no
def sumD : List D → Sto → R D
  | [.py (.list ds)], S => (match intsOf ds with
    | some bs => .ok (.py (.int bs.sum)) S
    | none => .no)
  | _, _ => .no
/-! ### that they do it -/
variable {X : Cx}
theorem eqV_eqv {K : PySem.W.Frag} {H : Hp} {x y : V} {d e : PyData} (rx : Pp K H x d) (ry : Pp K H y e) (hd : isFlat d = true) (he : isFlat e = true) : eqV y x = PyData.eqv e d := by
  cases rx <;> cases ry <;> simp [isFlat] at hd he <;> simp [eqV, PyData.eqv]
theorem isFlat_V {K : PySem.W.Frag} {H : Hp} {x : V} {d : PyData} (rx : Pp K H x d) (hd : isFlat d = true) : flatV x = true := by
  cases rx <;> simp [isFlat] at hd <;> rfl
theorem isFlat_all {K : PySem.W.Frag} {H : Hp} {x : V} {d : PyData} (rx : Pp K H x d) (hd : isFlat d = true) : ∀ {ys : List V} {ds : List PyData}, PpAll K H ys ds → ds.all isFlat = true → ys.all flatV = true ∧ inV x ys = ds.any fun z => PyData.eqv z d
  | _, _, .nil, _ => ⟨rfl, rfl⟩
  | _, _, .cons h hs, e => by
    rw [List.all_cons, Bool.and_eq_true] at e
    obtain ⟨h1, h2⟩ := isFlat_all rx hd hs e.2
    refine ⟨by rw [List.all_cons, isFlat_V h e.1, h1]; rfl, ?_⟩
    unfold inV at h2 ⊢
    rw [List.any_cons, List.any_cons, h2, eqV_eqv rx h hd e.1]
theorem eqV_eqvD {K : PySem.W.Frag} {H : Hp} {x y : V} {d e : PyData} (rx : Pp K H x d) (ry : Dp K H y e) (hd : isFlat d = true) (he : isFlat e = true) : eqV y x = PyData.eqv e d ∧ flatV y = true := by
  cases rx <;> cases ry <;> simp [isFlat] at hd he <;> simp [eqV, PyData.eqv, flatV]
theorem isFlat_allD {K : PySem.W.Frag} {H : Hp} {x : V} {d : PyData} (rx : Pp K H x d) (hd : isFlat d = true) : ∀ {ys : List V} {ds : List PyData}, DpAll K H ys ds → ds.all isFlat = true → ys.all flatV = true ∧ inV x ys = ds.any fun z => PyData.eqv z d
  | _, _, .nil, _ => ⟨rfl, rfl⟩
  | _, _, .cons h hs, e => by
    rw [List.all_cons, Bool.and_eq_true] at e
    obtain ⟨h1, h2⟩ := isFlat_allD rx hd hs e.2
    obtain ⟨h3, h4⟩ := eqV_eqvD rx h hd e.1
    refine ⟨by rw [List.all_cons, h4, h1]; rfl, ?_⟩
    unfold inV at h2 ⊢
    rw [List.any_cons, List.any_cons, h2, h3]
theorem flat_noDict : ∀ {ds : List PyData}, ds.all isFlat = true → PyData.hasDictAll ds = false
  | [], _ => PyData.hasDictAll.eq_1
  | d :: ds, h => by
    rw [List.all_cons, Bool.and_eq_true] at h
    rw [PyData.hasDictAll.eq_2, flat_noDict h.2]
    cases d <;> simp [isFlat] at h <;> simp [PyData.hasDict]
theorem Room.units65 {k : Nat} {A : Around} (h : Room k A) : A.units + 65 < cLine := by have := h.un; omega
theorem deep_py {K : PySem.W.Frag} {ι : List Addr} {H : Hp} {S : Sto} {x : V} {d : D} {p : PyData} (rx : Rd K ι H x d) (h : deep S 8 d = some p) : Pp K H x p ∨ ∃ ds, p = .list ds := by
  cases rx with
  | py rx =>
    have e := Option.some.inj h
    subst e
    exact .inl rx
  | raw a => cases h
  | obj e0 =>
    simp only [deep] at h
    split at h
    · rename_i es _
      cases hm : es.mapM (deep S 7) with
      | none => rw [hm] at h; cases h
      | some z => rw [hm] at h; cases h; exact .inr ⟨_, rfl⟩
    · cases h
theorem st_noDict : ∀ {ds : List PyData}, ds.all isSt = true → PyData.hasDictAll ds = false
  | [], _ => PyData.hasDictAll.eq_1
  | d :: ds, h => by
    rw [List.all_cons, Bool.and_eq_true] at h
    rw [PyData.hasDictAll.eq_2, st_noDict h.2]
    cases d <;> simp [isSt] at h
    simp [PyData.hasDict]
theorem st_all {K : PySem.W.Frag} {H : Hp} : ∀ {vs : List V} {ds : List PyData}, DpAll K H vs ds → ds.all isSt = true → ∀ v ∈ vs, ∃ z, v = V.str z
  | _, _, .nil, _, v, hv => by cases hv
  | _, _, .cons r rs, h, v, hv => by
    rw [List.all_cons, Bool.and_eq_true] at h
    rcases List.mem_cons.mp hv with rfl | hv
    · cases r <;> simp [isSt] at h
      exact ⟨_, rfl⟩
    · exact st_all rs h.2 v hv
theorem in_key {K : PySem.W.Frag} {ι : List Addr} {H : Hp} {S : Sto} {x y : V} {d e : D} {k : Bool} (hS : StR K ι H S) (rx : Rd K ι H x d) (ry : Rd K ι H y e) (h : inS S d e = some k) :
    (∃ p q, Dp K H x p ∧ Dp K H y (.list q) ∧ SeqAt.shaped p = true ∧ SeqAt.shaped (.list q) = true ∧ k = (q.any fun z => PyData.eqv z p)) ∨
    (∃ p xs, y = .ref p ∧ (SqL K H p xs ∨ SqT K H p xs) ∧ flatV x = true ∧ xs.all flatV = true ∧ k = inV x xs) ∨
    (∃ (c : Nat) (z : Str), x = .str ⟨#[c]⟩ ∧ y = .str z ∧ k = decide (c ∈ z.cps.toList)) ∨ (DkIn K H x y ∧ k = false) := by
  unfold inS at h
  split at h
  · rename_i p q hp hq
    cases q with
    | list ds =>
      simp only [inB] at h
      split at h
      · rename_i hs
        cases h
        have dx := deep_dp hS _ rx hp (noDict_of hs.1)
        have dy := deep_dp hS _ ry hq (noDict_of hs.2)
        exact .inl ⟨_, _, dx, dy, hs.1, hs.2, rfl⟩
      · split at h
        · rename_i hs
          cases h
          have dy := deep_dp hS _ ry hq (by rw [PyData.hasDict.eq_5]; exact st_noDict hs.2)
          have ax : ∃ a, x = V.ref a ∧ ((∃ o kvs, H a = some (.frz o (.dK kvs))) ∨ ∃ zs, SqL K H a zs ∨ SqT K H a zs) := by
            cases rx with
            | raw a => cases hp
            | obj e0 =>
              simp only [deep] at hp
              split at hp
              · rename_i es he
                cases hS.at_ _ _ _ he e0 with
                | lst ha rr => exact ⟨_, rfl, .inr ⟨_, .inl (.of ha)⟩⟩
              · cases hp
            | py rx =>
              have e := Option.some.inj hp
              subst e
              cases rx with
              | dic e _ _ => exact ⟨_, rfl, .inl ⟨_, _, e⟩⟩
              | lst e _ _ => exact ⟨_, rfl, .inr ⟨_, .inl e.sq⟩⟩
              | tup e _ _ => exact ⟨_, rfl, .inr ⟨_, .inr e.sq⟩⟩
              | _ => simp [isSq] at hs
          obtain ⟨a, rfl, ax⟩ := ax
          cases dy with
          | lst hL al => exact .inr (.inr (.inr ⟨⟨_, _, _, rfl, ax, rfl, hL, st_all al hs.2⟩, rfl⟩))
        · split at h
          · rename_i hs
            cases h
            have dy := deep_dp hS _ ry hq (by rw [PyData.hasDict.eq_5]; exact flat_noDict hs.2)
            have rx := (deep_py rx hp).resolve_right (by rintro ⟨ws, rfl⟩; simp [isFlat] at hs)
            cases dy with
            | lst hL al =>
              obtain ⟨z1, z2⟩ := isFlat_allD rx hs.1 al hs.2
              exact .inr (.inl ⟨_, _, rfl, .inl hL, isFlat_V rx hs.1, z1, z2.symm⟩)
          · cases h
    | tuple ds =>
      simp only [inB] at h
      split at h
      · rename_i hs
        cases h
        have ry := (deep_py ry hq).resolve_right (by rintro ⟨ws, e⟩; cases e)
        cases ry with
        | tup hT hz al =>
          have rx := (deep_py rx hp).resolve_right (by rintro ⟨ws, rfl⟩; simp [isFlat] at hs)
          obtain ⟨z1, z2⟩ := isFlat_all rx hs.1 al hs.2
          exact .inr (.inl ⟨_, _, rfl, .inr hT.sq, isFlat_V rx hs.1, z1, z2.symm⟩)
      · cases h
    | str y' =>
      cases p with
      | str x' =>
        simp only [inB] at h
        split at h
        · rename_i c hc
          cases h
          have rx := (deep_py rx hp).resolve_right (by rintro ⟨ws, e⟩; cases e)
          have ry := (deep_py ry hq).resolve_right (by rintro ⟨ws, e⟩; cases e)
          cases rx
          cases ry
          refine .inr (.inr (.inl ⟨c, y', ?_, rfl, rfl⟩))
          obtain ⟨a⟩ := x'
          obtain ⟨l⟩ := a
          have : l = [c] := hc
          subst this
          rfl
        · cases h
      | _ => cases h
    | _ => cases h
  · cases h
theorem do_in {k : Nat} {E : XK} (o : Okx k X E) : DOp X (compareOp .In) inD := by
  refine ⟨_, (op_inD (X := X) (Room.units65 o.room)).or ((op_in_seq (X := X)).or ((op_in_sign (X := X)).or (op_inSD (X := X) (Room.units65 o.room)))), fun x y d e H S ι E Q hS rx ry hw => ?_⟩
  unfold inD at hw
  split at hw
  · rename_i k hk
    have hq := hw _ _ _ (.refl hS) (.py (.bl k))
    rcases in_key hS rx ry hk with ⟨p, q, a, b, c, d, rfl⟩ | ⟨p, xs, a, b, c, d, rfl⟩ | ⟨c, z, a, b, rfl⟩ | ⟨a, rfl⟩
    · exact .inl ⟨p, q, a, b, c, d, hq⟩
    · exact .inr (.inl ⟨p, xs, a, b, c, d, hq⟩)
    · exact .inr (.inr (.inl ⟨c, z, a, b, hq⟩))
    · exact .inr (.inr (.inr ⟨a, hq⟩))
  · exact hw.elim
theorem do_notin {k : Nat} {E : XK} (o : Okx k X E) : DOp X (compareOp .NotIn) notInD := by
  refine ⟨_, (op_notInD (X := X) (Room.units65 o.room)).or ((op_notIn_seq (X := X)).or ((op_notIn_sign (X := X)).or (op_notInSD (X := X) (Room.units65 o.room)))), fun x y d e H S ι E Q hS rx ry hw => ?_⟩
  unfold notInD at hw
  split at hw
  · rename_i k hk
    have hq := hw _ _ _ (.refl hS) (.py (.bl (!k)))
    rcases in_key hS rx ry hk with ⟨p, q, a, b, c, d, rfl⟩ | ⟨p, xs, a, b, c, d, rfl⟩ | ⟨c, z, a, b, rfl⟩ | ⟨a, rfl⟩
    · exact .inl ⟨p, q, a, b, c, d, hq⟩
    · exact .inr (.inl ⟨p, xs, a, b, c, d, hq⟩)
    · exact .inr (.inr (.inl ⟨c, z, a, b, hq⟩))
    · exact .inr (.inr (.inr ⟨a, hq⟩))
  · exact hw.elim
theorem dp_list_ref {K : PySem.W.Frag} {H : Hp} {v : V} {ds : List PyData} (h : Dp K H v (.list ds)) : ∃ a, v = .ref a := by
  cases h <;> exact ⟨_, rfl⟩
theorem dm_index {k : Nat} {E : XK} (o : Okx k X E) : DM X "list" "list.index" indexD := by
  refine ⟨_, mt_indexD (X := X) (Room.units65 o.room), fun x xs d ds H S ι E Q hS rx r hw => ?_⟩
  unfold indexD at hw
  split at hw
  · split at hw
    · rename_i es p he hp
      split at hw
      · rename_i hs
        split at hw
        · rename_i j hj
          cases r with
          | cons r rs =>
            cases rs
            have dx := deep_dp hS _ rx he (noDict_of hs.1)
            obtain ⟨a, rfl⟩ := dp_list_ref dx
            unfold placeOf at hj
            obtain ⟨h1, h2, h3⟩ := List.findIdx?_eq_some_iff_getElem.mp hj
            refine ⟨a, _, p, es, j, es[j], rfl, rfl, dx, deep_dp hS _ r hp (noDict_of hs.2), hs.1, hs.2, List.getElem?_eq_getElem h1, h2, fun m z' hm hz => ?_, hw _ _ _ (.refl hS) (.py (.int _))⟩
            obtain ⟨h4, h5⟩ := List.getElem?_eq_some_iff.mp hz
            have := h3 m hm
            rw [h5] at this
            simpa using this
        · exact hw.elim
      · exact hw.elim
    · exact hw.elim
  · exact hw.elim
/-! ### isinstance -/
theorem ty_pp {K : PySem.W.Frag} {H : Hp} {x : V} {d : PyData} (r : Pp K H x d) : TyX K H x (.type (tyN d)) := by
  cases r with
  | non => exact .base .non
  | bl b => exact .base (.bl b)
  | int i => exact .base (.int i)
  | str x => exact .base (.str x)
  | lst h _ _ =>
    rcases h with ⟨o, h⟩ | ⟨o, its, n, h1, h2, _⟩
    · exact .base (.frz h)
    · exact .kList h1 h2
  | tup h _ _ =>
    rcases h with ⟨o, h, _⟩ | ⟨o, its, n, h1, h2, _⟩
    · exact .fTuple h
    · exact .kTuple h1 h2
  | dic h _ _ => exact .fDict h
theorem kit_base (K : PySem.W.Frag) (d : PyData) (T : String) (hT : T ∈ ["int", "bool", "str", "tuple", "list", "dict"]) : PySem.W.kitOne K (.type (tyN d)) (.type T) = some (isB (tyN d) T) := by
  simp only [List.mem_cons, List.not_mem_nil, or_false] at hT
  rcases hT with rfl | rfl | rfl | rfl | rfl | rfl <;> cases d <;> rfl
section
variable {E : XK} {e : Expr} {f : Ex} {pos p p2 : Pos}
theorem de_isi {T : String} (hm : X.mg "isinstance" = none) (hm2 : X.mg (Str.ofString T) = none) (ha : DE X E e f) (hT : T ∈ ["int", "bool", "str", "tuple", "list", "dict"] := by decide) (hg : Gl X "isinstance" := by rfl) (hg2 : Gl X (Str.ofString T) := by rfl) (hb : bootBuiltins (Str.ofString T) = some (.type T) := by rfl)
    (hnn : Str.ofString T ≠ "__name__" := by decide) (hdb : (Str.ofString T == ("__debug__" : Str)) = false := by decide)
    (he : starEach [e, .Name (Str.ofString T) p2] X.env = (false, eval e X.env) :: starEach [.Name (Str.ofString T) p2] X.env := by rfl) (he2 : starEach [.Name (Str.ofString T) p2] X.env = (false, eval (.Name (Str.ofString T) p2) X.env) :: starEach [] X.env := by rfl) (hpl : (backTo pos (starEach [.Name (Str.ofString T) p2] X.env)).any (·.1) = false := by rfl) :
    DE X E (.Call (.Name "isinstance" p) [e, .Name (Str.ofString T) p2] [] pos) (op1 (isiD T) f) := by
  obtain ⟨t, pt, q⟩ := ha
  refine ⟨_, pe_callB call_isi hg hm rfl (pa_cons pt (pa_cons (pe_bltn (v := .ty T) hg2 hm2 hb rfl hnn hdb) pa_nil he2) he) (by decide) (by decide) he hpl, fun σ H σd S ι Q hE hS h => ?_⟩
  refine q σ H σd S ι _ hE hS (Wp.bind0 h fun d S1 e1 v H1 ι1 p1 r1 h1 => ?_)
  show rIsi X.K [v, .ty T] H1 Q
  unfold isiD at h1
  split at h1
  · rename_i d'
    cases r1 with
    | py r1 => exact ⟨v, .ty T, _, _, _, rfl, .ty T, ty_pp r1, kit_base X.K d' T hT, h1 _ _ _ p1 (.py (.bl _))⟩
  · split at h1
    · rename_i n S es hes
      cases r1 with
      | obj ea =>
        cases p1.sto.at_ _ _ _ hes ea with
        | lst hl _ => exact ⟨_, .ty T, _, _, _, rfl, .ty T, .base (.lst hl), kit_base X.K (.list []) T hT, h1 _ _ _ p1 (.py (.bl _))⟩
    · exact h1.elim
  · exact h1.elim
end
/-! ### all, any, sum -/
theorem ints_V {K : PySem.W.Frag} {H : Hp} : ∀ {xs : List V} {ds : List PyData} {bs : List Int}, PpAll K H xs ds → intsOf ds = some bs → xs = bs.map V.int
  | _, _, bs, .nil, h => by cases h; rfl
  | _, _, bs, @PpAll.cons _ _ v vs d ds r rs, h => by
    cases r with
    | int b =>
      have h : Option.map (b :: ·) (intsOf ds) = some bs := h
      cases hb : intsOf ds with
      | none => rw [hb] at h; cases h
      | some bs' =>
        rw [hb] at h
        cases h
        rw [ints_V rs hb]
        rfl
    | _ => exact absurd h (by simp [intsOf])
theorem dc_sum {k : Nat} {E : XK} (o : Okx k X E) : DC X (.builtin "sum") sumD := by
  refine ⟨_, cr_sum o.calm, fun xs ds H S ι E Q hS r hw => ?_⟩
  unfold sumD at hw
  split at hw
  · split at hw
    · rename_i bs hbs
      cases r with
      | cons r rs =>
        cases rs
        cases r with
        | py r =>
          cases r with
          | lst h hz al => exact ⟨_, bs, rfl, ints_V al hbs ▸ h.sq, hw _ _ _ (.refl hS) (.py (.int _))⟩
    · exact hw.elim
  · exact hw.elim
/-! ### the module's constants -/
theorem de_gint {E : XK} {x : Str} {i : Int} {t : Tok} {pos : Pos} (hm : X.mg x = some (.int i t)) (hg : Gl X x := by rfl) (hdb : (x == ("__debug__" : Str)) = false := by decide) : DE X E (.Name x pos) (cE (.int i)) :=
  ⟨_, pe_glob (v := .int i) hg hm ⟨t, rfl⟩ hdb, fun σ H σd S ι Q hE hS h => h _ _ _ (.refl hS) (.py (.int i))⟩
end DV

set_option maxHeartbeats 4000000
namespace DV
open PySem PySem.Spec PyProof.Rows L2
/-! An error of the program's own whose base is an error of the program's own upon ValueError. -/
def allStr (es : Array DictEntry) : Bool := es.toList.all fun e => match e.key with
  | .str _ _ => true
  | _ => false
/-- a class's own dict has text keys and no __init__ -/
theorem nsOk_of {K : PySem.W.Frag} {N : Addr} {c : Value} {dd : Option Addr} {es : Array DictEntry} {ep : Nat} {sl : Array (Option Value)} (h : K.lookup N = some ⟨c, dd, .dict es ep, sl⟩) (ha : allStr es = true) : PySem.W.nsOkIn K N = true := by
  unfold PySem.W.nsOkIn
  rw [h]
  show (es.all _) = true
  rw [← Array.all_toList]
  exact ha
theorem exc_two {K : PySem.W.Frag} {C B N M : Addr} {cd cb : ClassData} {d1 d2 d3 d4 : Option Addr} {sl sb sn sm : Array (Option Value)} {c3 c4 : Value} {es em : Array DictEntry} {ep eq : Nat} {bm : List Value} {id : String} {a1 a2 a3 a4 a6 : Option Value}
    (h1 : K.lookup C = some ⟨.type "type", d1, .cls cd, sl⟩) (q1 : cd.mro = .ref C :: .ref B :: bm) (q2 : sl.toList = [a1, a2, a3, a4, some (.builtin id), a6]) (q3 : cd.hasDel = false) (q4 : cd.ns = N)
    (h2 : K.lookup N = some ⟨c3, d3, .dict es ep, sn⟩) (q5 : allStr es = true) (n1 : PySem.W.nsIn K N "__init__" = some none)
    (h3 : K.lookup B = some ⟨.type "type", d2, .cls cb, sb⟩) (q6 : cb.ns = M) (h4 : K.lookup M = some ⟨c4, d4, .dict em eq, sm⟩) (q7 : allStr em = true) (n2 : PySem.W.nsIn K M "__init__" = some none) (hb : PySem.W.tailIn K bm bm = true) : PySem.W.excIn K C bm id = true := by
  unfold PySem.W.excIn
  rw [h1]
  simp only [q1, q2, q3, q4]
  rw [nsOk_of h2 q5, n1, PySem.W.tailIn.eq_2, h3]
  simp only [q6]
  rw [nsOk_of h4 q7, n2, hb]
  simp
end DV

set_option maxHeartbeats 4000000
namespace DV
open PySem PySem.Spec PyProof.Rows L2
/-! Still more operators: slices, list(range(..)), sorted, join, tuples compared. -/
variable {X : Cx} {E : XK}
/-! ### slices -/
abbrev Px := En → Sto → R (Option Int)
def noP : Px := fun _ S => .ok none S
def someP (e : Ex) : Px := fun σ S => (e σ S).bind fun d S1 => match d with
  | .py (.int i) => .ok (some i) S1
  | _ => .no
def cutP {α : Type} (xs : List α) (lo hi : Option Int) : List α := (xs.drop (HT.sIx xs.length 0 lo)).take (HT.sIx xs.length xs.length hi - HT.sIx xs.length 0 lo)
/-- of tuples and texts -/
def sliceV (x : D) (lo hi : Option Int) (S : Sto) : R D := match x with
  | .py (.tuple ds) => .ok (.py (.tuple (cutP ds lo hi))) S
  | .py (.str z) => if z.length ≤ sizeLine then .ok (.py (.str (cutS z lo hi))) S else .no
  | _ => .no
def sliceE (a : Ex) (lo hi : Px) : Ex := fun σ S => (a σ S).bind fun x S1 => (lo σ S1).bind fun l S2 => (hi σ S2).bind fun h S3 => sliceV x l h S3
/-- of lists: a new list -/
def sliceL (a : Ex) (lo hi : Px) : Ax := fun σ S => (a σ S).bind fun x S1 => (lo σ S1).bind fun l S2 => (hi σ S2).bind fun h S3 => match seqOf S3 x with
  | some ds => (match x with
    | .py (.tuple _) => .no
    | _ => if ds.length ≤ sizeLine then .ok (cutP ds l h) S3 else .no)
  | none => .no
abbrev relP : List Addr → Hp → Option Int → Option Int → Prop := fun _ _ a b => a = b
def DP (X : Cx) (E : XK) (e : Option Expr) (f : Px) : Prop := ∃ t, PO X e t ∧ ∀ σ H σd S ι Q, EnR X.K ι H σ σd → StR X.K ι H S → Wp X.K X.mg E ι H relP (f σd S) Q → t σ H Q
theorem dp_none : DP X E none noP := ⟨_, po_none, fun σ H σd S ι Q hE hS h => h _ _ _ (.refl hS) rfl⟩
theorem dp_some {e : Expr} {f : Ex} (he : DE X E e f) : DP X E (some e) (someP f) := by
  obtain ⟨t, p, q⟩ := he
  refine ⟨_, po_some p, fun σ H σd S ι Q hE hS h => ?_⟩
  refine q σ H σd S ι _ hE hS (Wp.bind0 h fun d S1 _ v H1 ι1 p1 r1 h1 => ?_)
  split at h1
  · exact ⟨_, int_of r1, h1 _ _ _ p1 rfl⟩
  · exact h1.elim
theorem PpAll.drop {K : PySem.W.Frag} {H : Hp} : ∀ {vs : List V} {ds : List PyData} (n : Nat), PpAll K H vs ds → PpAll K H (vs.drop n) (ds.drop n)
  | _, _, 0, h => h
  | _, _, _ + 1, .nil => .nil
  | _, _, n + 1, .cons _ hs => PpAll.drop n hs
theorem PpAll.take {K : PySem.W.Frag} {H : Hp} : ∀ {vs : List V} {ds : List PyData} (n : Nat), PpAll K H vs ds → PpAll K H (vs.take n) (ds.take n)
  | _, _, 0, _ => .nil
  | _, _, _ + 1, .nil => .nil
  | _, _, n + 1, .cons h hs => .cons h (PpAll.take n hs)
theorem RdAll.drop {K : PySem.W.Frag} {ι : List Addr} {H : Hp} : ∀ {vs : List V} {ds : List D} (n : Nat), RdAll K ι H vs ds → RdAll K ι H (vs.drop n) (ds.drop n)
  | _, _, 0, h => h
  | _, _, _ + 1, .nil => .nil
  | _, _, n + 1, .cons _ hs => RdAll.drop n hs
theorem RdAll.take {K : PySem.W.Frag} {ι : List Addr} {H : Hp} : ∀ {vs : List V} {ds : List D} (n : Nat), RdAll K ι H vs ds → RdAll K ι H (vs.take n) (ds.take n)
  | _, _, 0, _ => .nil
  | _, _, _ + 1, .nil => .nil
  | _, _, n + 1, .cons h hs => .cons h (RdAll.take n hs)
theorem cut_len {α : Type} (xs : List α) (lo hi : Option Int) : (cutP xs lo hi).length ≤ xs.length := by
  unfold cutP
  rw [List.length_take, List.length_drop]
  omega
theorem cut_pp {K : PySem.W.Frag} {H : Hp} {vs : List V} {ds : List PyData} (h : PpAll K H vs ds) (lo hi : Option Int) : PpAll K H (cutV vs lo hi) (cutP ds lo hi) := by
  unfold cutV cutP
  rw [h.length]
  exact (h.drop _).take _
theorem cut_rd {K : PySem.W.Frag} {ι : List Addr} {H : Hp} {vs : List V} {ds : List D} (h : RdAll K ι H vs ds) (lo hi : Option Int) : RdAll K ι H (cutV vs lo hi) (cutP ds lo hi) := by
  unfold cutV cutP
  rw [h.length]
  exact (h.drop _).take _
theorem cut_all {α : Type} (xs : List α) (lo hi : Option Int) (h : HT.sIx xs.length 0 lo = 0 ∧ HT.sIx xs.length xs.length hi = xs.length) : cutP xs lo hi = xs := by
  unfold cutP
  rw [h.1, h.2]
  simp
section
variable {e : Expr} {lo hi : Option Expr} {f : Ex} {fl fh : Px} {pos p2 : Pos}
theorem de_slice (he : DE X E e f) (hl : DP X E lo fl) (hh : DP X E hi fh) : DE X E (.Subscript e (.Slice lo hi none p2) pos) (sliceE f fl fh) := by
  obtain ⟨t, p, q⟩ := he
  obtain ⟨tl, pl, ql⟩ := hl
  obtain ⟨th, ph, qh⟩ := hh
  refine ⟨_, pe_slice ((sl_tupS (X := X)).or sl_str) p pl ph, fun σ H σd S ι Q hE hS h => ?_⟩
  refine q σ H σd S ι _ hE hS (Wp.bind h fun x S1 _ v H1 ι1 p1 r1 h1 => ?_)
  refine ql σ H1 σd S1 ι1 _ (hE.mono p1.pre p1.keep) p1.sto (Wp.bind h1 fun l S2 _ l' H2 ι2 p2 rl h2 => ?_)
  refine qh σ H2 σd S2 ι2 _ ((hE.mono p1.pre p1.keep).mono p2.pre p2.keep) p2.sto (Wp.bind h2 fun u S3 _ u' H3 ι3 p3 ru h3 => ?_)
  cases rl
  cases ru
  have r3 := (r1.mono p2.pre p2.keep).mono p3.pre p3.keep
  unfold sliceV at h3
  split at h3
  · rename_i ds _
    cases r3 with
    | py r3 =>
      cases r3 with
      | tup hT hz al =>
        have hc := cut_pp al l u
        have hcl := cut_len ds l u
        refine .inl ⟨_, _, rfl, hT.sq, fun ha => h3 _ _ _ (.refl p3.sto) (.py ?_), fun _ p o ho hp => h3 _ _ _ (.new p3.sto hp) (.py (.tup (.new ho) (Nat.le_trans hcl hz) (hc.keep (.new hp))))⟩
        rw [al.length] at ha
        rw [cut_all ds l u ha]
        exact .tup hT hz al
  · split at h3
    · rename_i hz
      exact .inr ⟨_, str_of r3, hz, h3 _ _ _ (.refl p3.sto) (.py (.str _))⟩
    · exact h3.elim
  · exact h3.elim
theorem dl_slice (he : DE X E e f) (hl : DP X E lo fl) (hh : DP X E hi fh) : DL X E (.Subscript e (.Slice lo hi none p2) pos) (sliceL f fl fh) := by
  obtain ⟨t, p, q⟩ := he
  obtain ⟨tl, pl, ql⟩ := hl
  obtain ⟨th, ph, qh⟩ := hh
  refine ⟨_, pe_slice sl_list p pl ph, fun σ H σd S ι Q hE hS h => ?_⟩
  refine q σ H σd S ι _ hE hS (Wp.bind0 h fun x S1 _ v H1 ι1 p1 r1 h1 => ?_)
  refine ql σ H1 σd S1 ι1 _ (hE.mono p1.pre p1.keep) p1.sto (Wp.bind0 (Wp.re p1 h1) fun l S2 _ l' H2 ι2 p2 rl h2 => ?_)
  cases rl
  refine qh σ H2 σd S2 ι2 _ ((hE.mono p1.pre p1.keep).mono p2.pre p2.keep) p2.sto (Wp.bind0 (Wp.re p2 h2) fun u S3 _ u' H3 ι3 p3 ru h3 => ?_)
  cases ru
  have r3 := (r1.mono p2.pre p2.keep).mono p3.pre p3.keep
  have pp := (p1.trans p2).trans p3
  have old : ∀ {b : Addr}, H3 b = none → H b = none := fun {b} hb => by
    cases q0 : H b with
    | none => rfl
    | some w => exact absurd hb (pp.dom b (by rw [q0]; simp))
  have fin : ∀ (a : Addr) (vs : List V) (ds : List D), v = .ref a → SqL X.K H3 a vs → RdAll X.K ι3 H3 vs ds → vs.length ≤ sizeLine → Wp X.K X.mg E ι2 H2 (relL X.K H) (R.ok (cutP ds l u) S3) Q → rSlL X.K v l u H3 Q := fun a vs ds e hL rr hz hw => by
    refine ⟨a, vs, e, hL, fun p hp => hw _ _ _ (p3.trans (.new p3.sto hp)) ⟨p, _, old hp, rfl, upd_same, p3.sto.notin hp, ?_, RdAll.mono (List.prefix_refl _) (.new hp) (cut_rd rr l u)⟩⟩
    refine Nat.le_trans ?_ hz
    unfold cutV
    rw [List.length_take, List.length_drop]
    omega
  cases r3 with
  | py r3 =>
    cases r3 with
    | lst hF hz al => exact fin _ _ _ rfl hF.sq (.of_pys al) (by rw [al.length]; exact hz) (by simpa [seqOf, hz] using h3)
    | tup hT hz al => exact h3.elim
    | _ => exact h3.elim
  | raw a => exact h3.elim
  | obj e0 =>
    simp only [seqOf] at h3
    split at h3
    · rename_i ds hds
      split at hds
      · rename_i ds' hs
        cases hds
        cases p3.sto.at_ _ _ _ hs e0 with
        | lst ha rr =>
          split at h3
          · rename_i hz
            exact fin _ _ _ rfl (.inl (.inl ha)) rr (by rw [rr.length]; exact hz) h3
          · exact h3.elim
      · cases hds
    · exact h3.elim
end
/-! ### list(range(..)) -/
theorem rg_rd {K : PySem.W.Frag} {ι : List Addr} {H : Hp} (a : Int) : ∀ l : List Nat, RdAll K ι H (l.map fun (i : Nat) => V.int (a + (i : Int))) (l.map fun (k : Nat) => D.py (.int (a + (k : Int))))
  | [] => .nil
  | i :: l => .cons (.py (.int _)) (rg_rd a l)
section
variable {a b : Expr} {f g : Ex} {pos p pos2 p2 : Pos}
theorem dl_lrg1 (hc : X.calm = true) (hml : X.mg "list" = none) (hmr : X.mg "range" = none) (ha : DE X E a f) (hgl : Gl X "list" := by rfl) (hgr : Gl X "range" := by rfl)
    (hs : starEach [(.Call (.Name "range" p2) [a] [] pos2)] X.env = (false, eval (.Call (.Name "range" p2) [a] [] pos2) X.env) :: starEach [] X.env := by rfl)
    (hs2 : starEach [a] X.env = (false, eval a X.env) :: starEach [] X.env := by rfl) : DL X E (.Call (.Name "list" p) [.Call (.Name "range" p2) [a] [] pos2] [] pos) (rng1I f) := by
  obtain ⟨t, pt, q⟩ := ha
  refine ⟨_, pe_listRg hc hgl hml (prg_1 hgr hmr pt hs2) hs, fun σ H σd S ι Q hE hS h => ?_⟩
  refine q σ H σd S ι _ hE hS (Wp.bind0 h fun d S1 _ v H1 ι1 p1 r1 h1 => ?_)
  split at h1
  · rename_i j _
    split at h1
    · rename_i hj
      have ez : rgV 0 j = (List.range j.toNat).map fun (i : Nat) => V.int (0 + (i : Int)) := by
        unfold rgV
        rw [Int.sub_zero]
      refine ⟨j, int_of r1, ⟨by omega, by omega, by omega, by omega, by omega⟩, fun q hq => h1 _ _ _ (p1.trans (.new p1.sto hq)) ⟨q, _, ?_, rfl, upd_same, p1.sto.notin hq, ?_, ?_⟩⟩
      · cases q0 : H q with
        | none => rfl
        | some w => exact absurd hq (p1.dom q (by rw [q0]; simp))
      · rw [ez, List.length_map, List.length_range]
        have := hj.2
        show j.toNat ≤ 16777216
        omega
      · rw [ez]
        exact rg_rd 0 _
    · exact h1.elim
  · exact h1.elim
end
/-! ### sorted -/
theorem dints_V {K : PySem.W.Frag} {H : Hp} : ∀ {xs : List V} {ds : List PyData} {bs : List Int}, DpAll K H xs ds → intsOf ds = some bs → xs = bs.map V.int
  | _, _, bs, .nil, h => by cases h; rfl
  | _, _, bs, @DpAll.cons _ _ v vs d ds r rs, h => by
    cases r with
    | int b =>
      have h : Option.map (b :: ·) (intsOf ds) = some bs := h
      cases hb : intsOf ds with
      | none => rw [hb] at h; cases h
      | some bs' =>
        rw [hb] at h
        cases h
        rw [dints_V rs hb]
        rfl
    | _ => exact absurd h (by simp [intsOf])
theorem ints_noDict : ∀ {ds : List PyData} {bs : List Int}, intsOf ds = some bs → PyData.hasDictAll ds = false
  | [], _, _ => PyData.hasDictAll.eq_1
  | d :: ds, bs, h => by
    cases d with
    | int b =>
      have h : Option.map (b :: ·) (intsOf ds) = some bs := h
      cases hb : intsOf ds with
      | none => rw [hb] at h; cases h
      | some bs' =>
        rw [PyData.hasDictAll.eq_2, ints_noDict hb]
        simp [PyData.hasDict]
    | _ => exact absurd h (by simp [intsOf])
def sortI (ns : List Int) : List Int := ns.mergeSort fun a b => decide (a ≤ b)
def sortedD : List D → Sto → R (List D)
  | [d], S => (match deep S 8 d with
    | some (.list ds) => (match intsOf ds with
      | some ns => if ns.length < 1000000 then .ok ((sortI ns).map fun i => D.py (.int i)) S else .no
      | none => .no)
    | _ => .no)
  | _, _ => .no
theorem sortI_eq {ns ms : List Int} (hp : ms.Perm ns) (hs : ms.Pairwise (· ≤ ·)) : ms = sortI ns := by
  unfold sortI
  refine List.Perm.eq_of_pairwise (le := fun a b : Int => a ≤ b) (fun a b _ _ h1 h2 => Int.le_antisymm h1 h2) hs ?_ (hp.trans (List.mergeSort_perm _ _).symm)
  have := List.pairwise_mergeSort (le := fun a b : Int => decide (a ≤ b)) (fun a b c h1 h2 => by simp at *; omega) (fun a b => by simp; omega) ns
  exact this.imp fun h => by simpa using h
theorem ints_rd {K : PySem.W.Frag} {ι : List Addr} {H : Hp} : ∀ l : List Int, RdAll K ι H (l.map V.int) (l.map fun i => D.py (.int i))
  | [] => .nil
  | i :: l => .cons (.py (.int _)) (ints_rd l)
theorem dcl_sorted {k : Nat} (o : Okx k X E) : DCL X (.builtin "sorted") sortedD := by
  refine ⟨_, cr_sortedI (X := X), fun xs ds H S ι E Q hS r hw => ?_⟩
  unfold sortedD at hw
  split at hw
  · split at hw
    · rename_i ds hd
      split at hw
      · rename_i ns hns
        split at hw
        · rename_i hz
          cases r with
          | cons r rs =>
            cases rs
            have dx := deep_dp hS _ r hd (by rw [PyData.hasDict.eq_5]; exact ints_noDict hns)
            cases dx with
            | lst hL al =>
              refine ⟨_, ns, rfl, dints_V al hns ▸ hL, fun ms p hp hs hn => hw _ _ _ (.new hS hn) ⟨p, _, hn, rfl, upd_same, hS.notin hn, ?_, ?_⟩⟩
              · rw [List.length_map, hp.length_eq]
                exact Nat.le_of_lt (Nat.lt_of_lt_of_le hz (by decide))
              · rw [sortI_eq hp hs]
                exact ints_rd _
        · exact hw.elim
      · exact hw.elim
    · exact hw.elim
  · exact hw.elim
/-! ### join -/
/-! ### < of whole numbers and of tuples of them -/
def ltD : D → D → Sto → R D
  | .py (.int i), .py (.int j), S => .ok (.py (.bool (decide (i < j)))) S
  | .py (.tuple a), .py (.tuple b), S => (match intsOf a, intsOf b with
    | some ns, some ms => .ok (.py (.bool (HT.lexLt ns ms))) S
    | _, _ => .no)
  | _, _, _ => .no
theorem do_ltX {k : Nat} (o : Okx k X E) : DOp X (compareOp .Lt) ltD := by
  refine ⟨_, (op_lt (X := X)).or (op_ltT (X := X) (by have := o.room.units; omega)), fun x y d e H S ι E Q hS rx ry hw => ?_⟩
  unfold ltD at hw
  split at hw
  · exact .inl ⟨_, _, int_of rx, int_of ry, hw _ _ _ (.refl hS) (.py (.bl _))⟩
  · split at hw
    · rename_i ns ms h1 h2
      cases rx with
      | py rx =>
        cases ry with
        | py ry =>
          cases rx with
          | tup hx hz al =>
            cases ry with
            | tup hy hz2 bl => exact .inr ⟨_, _, ns, ms, rfl, rfl, ints_V al h1 ▸ hx.sq, ints_V bl h2 ▸ hy.sq, hw _ _ _ (.refl hS) (.py (.bl _))⟩
    · exact hw.elim
  · exact hw.elim
theorem dl_callB {x : Str} {p pos : Pos} {e : Expr} {es : List Expr} {fs : Ax} {id : String} {gg : List D → Sto → R (List D)} (hc : DCL X (.builtin id) gg) (hm : X.mg x = none) (hv : bootBuiltins x = some (.builtin id)) (ha : DA X E (e :: es) fs) (hg : Gl X x := by rfl) (hn : x ≠ "__name__" := by decide) (hdb : (x == ("__debug__" : Str)) = false := by decide)
    (he : starEach (e :: es) X.env = (false, eval e X.env) :: starEach es X.env := by rfl) (hpl : (backTo pos (starEach es X.env)).any (·.1) = false := by rfl) : DL X E (.Call (.Name x p) (e :: es) [] pos) (callL gg fs) := by
  obtain ⟨l, t, pt, q⟩ := ha
  obtain ⟨r, hr, qr⟩ := hc
  refine ⟨_, pe_callB hr hg hm hv pt hn hdb he hpl, fun σ H σd S ι Q hE hS h => ?_⟩
  refine q σ H σd S ι _ hE hS (Wp.bind0 h fun ds S1 _ vs H1 ι1 p1 r1 h1 => ?_)
  refine qr _ _ _ _ _ E _ p1.sto r1 ?_
  cases hgg : gg ds S1 with
  | no => rw [hgg] at h1; exact h1.elim
  | ex c S2 => rw [hgg] at h1; exact (Wp.re (rel := relL X.K H1) (Q := Q) p1 (show Wp X.K X.mg E ι H (relL X.K H1) (R.ex c S2) Q from h1))
  | ok ys S2 =>
    rw [hgg] at h1
    intro v H2 ι2 p2 r2
    obtain ⟨a, vs2, h0, rest⟩ := r2
    refine h1 v H2 ι2 (p1.trans p2) ⟨a, vs2, ?_, rest⟩
    cases q0 : H a with
    | none => rfl
    | some u => exact absurd h0 (p1.dom a (by rw [q0]; simp))
/-! ### max and min of a list of whole numbers -/
def maxI : List Int → Int
  | [] => 0
  | x :: xs => xs.foldl max x
def minI : List Int → Int
  | [] => 0
  | x :: xs => xs.foldl min x
theorem fold_max : ∀ (xs : List Int) (x : Int), (xs.foldl max x = x ∨ xs.foldl max x ∈ xs) ∧ x ≤ xs.foldl max x ∧ ∀ y ∈ xs, y ≤ xs.foldl max x
  | [], x => ⟨.inl rfl, Int.le_refl _, by simp⟩
  | z :: xs, x => by
    obtain ⟨h1, h2, h3⟩ := fold_max xs (max x z)
    rw [List.foldl_cons]
    refine ⟨?_, by omega, fun y hy => ?_⟩
    · rcases h1 with h1 | h1
      · rw [h1]
        by_cases h : x ≤ z
        · right
          rw [show max x z = z by omega]
          exact List.mem_cons_self ..
        · left
          omega
      · exact .inr (List.mem_cons_of_mem _ h1)
    · rcases List.mem_cons.mp hy with rfl | hy
      · omega
      · exact h3 y hy
theorem maxI_eq {ns : List Int} {m : Int} (h0 : 0 < ns.length) (h1 : m ∈ ns) (h2 : ∀ y, y ∈ ns → y ≤ m) : m = maxI ns := by
  cases ns with
  | nil => cases h1
  | cons x xs =>
    obtain ⟨a, b, c⟩ := fold_max xs x
    have hm : maxI (x :: xs) ∈ x :: xs := by
      rcases a with a | a
      · show xs.foldl max x ∈ _
        rw [a]
        exact List.mem_cons_self ..
      · exact List.mem_cons_of_mem _ a
    have h3 := h2 _ hm
    have h4 : m ≤ xs.foldl max x := by
      rcases List.mem_cons.mp h1 with rfl | h
      · exact b
      · exact c m h
    exact Int.le_antisymm h4 h3
def maxD : List D → Sto → R D
  | [.py (.list ds)], S => (match intsOf ds with
    | some ns => if 0 < ns.length then .ok (.py (.int (maxI ns))) S else .no
    | none => .no)
  | _, _ => .no
def minD : List D → Sto → R D
  | [.py (.list ds)], S => (match intsOf ds with
    | some ns => if 0 < ns.length then .ok (.py (.int (minI ns))) S else .no
    | none => .no)
  | _, _ => .no
theorem dc_max {k : Nat} (o : Okx k X E) : DC X (.builtin "max") maxD := by
  refine ⟨_, cr_max o.calm, fun xs ds H S ι E Q hS r hw => ?_⟩
  unfold maxD at hw
  split at hw
  · split at hw
    · rename_i bs hbs
      split at hw
      · rename_i h0
        cases r with
        | cons r rs =>
          cases rs
          cases r with
          | py r =>
            cases r with
            | lst h hz al => exact ⟨_, bs, rfl, ints_V al hbs ▸ h.sq, h0, fun m h1 h2 => maxI_eq h0 h1 h2 ▸ hw _ _ _ (.refl hS) (.py (.int _))⟩
      · exact hw.elim
    · exact hw.elim
  · exact hw.elim
end DV

set_option maxHeartbeats 4000000
namespace DV
open PySem PySem.Spec PyProof.Rows L2
/-! Methods of texts that make new lists; insert. -/
variable {X : Cx} {E : XK}
def methSL (g : D → List D → Sto → R (List D)) (o : Ex) (a : Ax) : Ax := fun σ S => (o σ S).bind fun x S1 => match x with
  | .py (.str _) => (a σ S1).bind fun ds S2 => g x ds S2
  | _ => .no
section
variable {o e : Expr} {es : List Expr} {f : Ex} {fs : Ax} {name : Str} {id : String} {apos cpos : Pos} {gg : D → List D → Sto → R (List D)}
end
end DV

set_option maxHeartbeats 4000000
namespace PySem
open Sem (wp)
theorem dv_args_sum2 (a b : Value) : argsOk "sum" ⟨[a, b], []⟩ := by unfold argsOk; kernel_rfl
section
variable {prog : Program} {w : World} {A : Around} {R : Result → Shared → Prop} {I : Addr} {fp wr : List Addr} {n : Nat} {P : Nat → Value → Prop} {St : Nat → Heap → Prop}
def preLists (lst : Nat → List Value) : Nat → List Value
  | 0 => []
  | n + 1 => preLists lst n ++ lst n
def KeptBut (wr : List Addr) (h0 h : Heap) : Prop := ∀ b o, b ∉ wr → h0.get? b = some o → h.get? b = some o
def TotL (h0 : Heap) (lst : Nat → List Value) (t0 : Addr) (i : Nat) (h : Heap) (t : Addr) : Prop :=
  (i = 0 ∧ t = t0) ∨ (h0.get? t = none ∧ h.get? t = some { cls := .type "list", data := .seq (preLists lst i).toArray })
theorem TotL.isList {h0 h : Heap} {lst : Nat → List Value} {t0 t : Addr} {i : Nat} (x : TotL h0 lst t0 i h t) (h1 : h.IsList t0 #[]) : h.IsList t (preLists lst i).toArray := by
  rcases x with ⟨rfl, rfl⟩ | ⟨_, e⟩
  · exact h1
  · exact ⟨_, e, rfl, _, rfl⟩
theorem TotL.kept {h0 h h' : Heap} {lst : Nat → List Value} {t0 t : Addr} {i : Nat} (x : TotL h0 lst t0 i h t) (k : ∀ o, h.get? t = some o → h'.get? t = some o) : TotL h0 lst t0 i h' t := by
  rcases x with ⟨rfl, rfl⟩ | ⟨e0, e⟩
  · exact .inl ⟨rfl, rfl⟩
  · exact .inr ⟨e0, k _ e⟩
theorem codeAny_sum_loopL {h0 : Heap} {t0 : Addr} (W : Walks prog w A.in1 I fp wr n P St) (hin : ∀ i h, St i h → ∀ b ∈ fp, b < h.objs.size) (lst : Nat → List Value)
    (hval : ∀ i v, P i v → ∃ c, v = .ref c ∧ ∀ h : Heap, KeptBut wr h0 h → h.IsList c (lst i).toArray) (S : Addr) (hSf : S ∉ fp)
    (hsz : ∀ i, i ≤ n → (preLists lst i).length ≤ sizeLine) (hS0 : h0.get? S = none) (ht0 : ∀ h, KeptBut wr h0 h → h.IsList t0 #[]) :
    ∀ (k i : Nat) (s : Shared) (t : Addr) (c : Nat), n - i = k → i ≤ n → St i s.heap → KeptBut wr h0 s.heap →
    s.heap.get? S = some { cls := .type "list", dict := none, data := .seq #[.ref t] c, slots := #[] } → TotL h0 lst t0 i s.heap t → t ≠ S → t ∉ wr →
    (∀ h' tk t', KeptBut wr h0 h' → TotL h0 lst t0 n h' t' → R (.ok (.ret (.ref t'))) { s with heap := h', toks := tk }) →
    codeAny (model prog w) A (.builtin "sum.loop" ⟨[.ref I, .ref S, rawInt 2, rawInt 0], []⟩) R s := by
  have hSw : S ∉ wr := fun h => hSf (W.sub _ h)
  intro k
  induction k with
  | zero =>
    intro i s t c hk hi hst hkp hS ht htS htf hR
    have hin : i = n := by omega
    subst hin
    refine codeAny_builtin F.entry_sum_loop ?_
    rw [Around.under_plainId F.plain_sum_loop _]
    show wpAny _ A.in1 (seqItems? (.ref S) >>= _) _ _ s
    refine wpAny_bind (wpAny_seqItems hS rfl ?_)
    show wpAny _ A.in1 (tryCatch (pyNext (.ref I)) _ >>= _) _ _ s
    refine wpAny_bind (wpAny_tryCatch (W.done s _ _ hst fun h' tk hk' => ?_))
    exact wpAny_pure (hR h' tk t (fun b o hbw e => hk' b o hbw (hkp b o hbw e)) (ht.kept fun o e => hk' _ _ htf e))
  | succ k ih =>
    intro i s t c hk hi hst hkp hS ht htS htf hR
    have hlt : i < n := by omega
    refine codeAny_builtin F.entry_sum_loop ?_
    rw [Around.under_plainId F.plain_sum_loop _]
    show wpAny _ A.in1 (seqItems? (.ref S) >>= _) _ _ s
    refine wpAny_bind (wpAny_seqItems hS rfl ?_)
    show wpAny _ A.in1 (tryCatch (pyNext (.ref I)) _ >>= _) _ _ s
    refine wpAny_bind (wpAny_tryCatch (W.item i s _ _ hlt hst fun v h' tk hP hst' hk' => ?_))
    obtain ⟨cv, rfl, hcv⟩ := hval i v hP
    have hS' := hk' S _ hSw hS
    have kp' : KeptBut wr h0 h' := fun b o hbw e => hk' b o hbw (hkp b o hbw e)
    obtain ⟨⟨cls2, dd2, data2, sl2⟩, ho2, hc2, n2, hd2⟩ := hcv h' kp'
    obtain ⟨⟨cls, dd, data, sl⟩, ho, hc, n1, hd⟩ := (ht.kept fun o e => hk' _ _ htf e).isList (ht0 h' kp')
    simp only at hc hd hc2 hd2
    subst hc hd hc2 hd2
    show wpAny _ A.in1 ((holding [Value.ref cv] (binaryOp .Add (.ref t) (.ref cv))).attempt >>= _) _ _ _
    have hz := hsz (i + 1) hlt
    rw [preLists, List.length_append] at hz
    have e : (preLists lst i).toArray ++ (lst i).toArray = (preLists lst (i + 1)).toArray := by simp [preLists]
    have fpl := hin _ _ hst'
    have hSl := Heap.lt_size hS'
    refine wpAny_bind (wpAny_attempt (wpAny_holding (concat_meets ⟨_, ho, rfl⟩ ⟨_, ho2, rfl⟩ noFill_list_add seq_list_add F.slot_list_add F.entry_list_add (F.args_list_add_2 _ _) (PyProof.Rows.list_addW t cv _ _ n1 n2 dd dd2 sl sl2 (by simpa using hz)) ⟨ho, ho2, ?_⟩)))
    rw [e]
    generalize hO : ({ cls := Value.type "list", data := Data.seq (preLists lst (i + 1)).toArray } : Obj) = O
    have hS1 : (h'.push O).get? S = _ := Heap.get?_push_of_some O hS'
    show wpAny _ A.in1 (updateSeq S (fun _ => #[.ref h'.objs.size]) >>= _) _ _ _
    refine wpAny_bind ?_
    refine wpAny_updateSeq hS1 rfl ?_
    have hS2 := Heap.get?_update_self (Obj.mapSeq fun _ => #[Value.ref h'.objs.size]) hS1 rfl
    refine wpAny_bind (wpAny_letGo ?_)
    refine wpAny_bind ?_
    have hne : h'.objs.size ≠ S := Nat.ne_of_gt hSl
    have up : ∀ (b : Addr) (o : Obj), b ≠ S → h'.get? b = some o → (((h'.push O).update S (Obj.mapSeq fun _ => #[Value.ref h'.objs.size])).update S (Obj.mapSeq fun _ => #[Value.ref h'.objs.size])).get? b = some o := fun b o hb e =>
      (Heap.get?_update_other _ _ (Ne.symm hb)).trans ((Heap.get?_update_other _ _ (Ne.symm hb)).trans (Heap.get?_push_of_some O e))
    refine wpAny_updateSeq hS2 rfl (wpAny_pure ⟨plainId_quiet F.plain_sum_loop _, ih (i + 1) _ h'.objs.size _ (by omega) hlt (W.frame _ _ _ hst' fun b hb o e => up b o (fun h => hSf (h ▸ hb)) e) (fun b o hbw e => up b o (fun h => by rw [h, hS0] at e; cases e) (kp' b o hbw e)) (Heap.get?_update_self _ hS2 rfl) (.inr ⟨?_, ?_⟩) hne (fun h => Nat.lt_irrefl _ (fpl _ (W.sub _ h))) fun h'' tk'' t'' hk'' ht'' => hR h'' tk'' t'' hk'' ht''⟩)
    · cases q : h0.get? h'.objs.size with
      | none => rfl
      | some o =>
        have hw : h'.objs.size ∉ wr := fun h => Nat.lt_irrefl _ (fpl _ (W.sub _ h))
        exact absurd (Heap.lt_size (kp' _ _ hw q)) (Nat.lt_irrefl _)
    · subst hO
      exact (Heap.get?_update_other _ _ (Ne.symm hne)).trans ((Heap.get?_update_other _ _ (Ne.symm hne)).trans (Heap.get?_push_size _ rfl))
end
section
variable {prog : Program} {w : World} {A : Around} {E : Value → Shared → Prop} {s : Shared}
theorem sum_lists {l b : Addr} {its : Array Value} {ws : List (List Value)} {Q : Value → Shared → Prop} (hh : A.handled = none) (hl : s.heap.IsList l its) (hb : s.heap.IsList b #[])
    (hv : ∀ i v, its[i]? = some v → ∃ c, v = .ref c ∧ s.heap.IsList c (ws.getD i []).toArray) (hsz : ∀ i, i ≤ its.size → (preLists (fun i => ws.getD i []) i).length ≤ sizeLine)
    (h : ∀ h' tk t', (∀ b o, s.heap.get? b = some o → h'.get? b = some o) → TotL s.heap (fun i => ws.getD i []) b its.size h' t' → Q (.ref t') { s with heap := h', toks := tk }) :
    wpAny (model prog w) A (call (.builtin "sum") [.ref l, .ref b]) Q E s := by
  refine call_function_tree F.kind_sum F.plain_sum F.entry_sum (dv_args_sum2 _ _) ?_
  unfold Builtin.«sum»
  simp only [List.length_cons, List.length_nil]
  rw [if_neg (by decide)]
  refine wpAny_bind (wpAny_of_eq (show Builtin.Builtins.bindParams "sum" ["start"] 0 ⟨[.ref b], []⟩ = pure [some (.ref b)] from rfl) ?_)
  refine wpAny_bind (L2.iter_any hl fun s₂ e2 st hne => ?_)
  subst e2
  refine wpAny_bind (wpAny_pure ?_)
  simp only [List.forIn_cons, List.forIn_nil]
  generalize hIt : ({ cls := Value.type "list_iterator", data := .fields #[.ref l, .int 0 0] } : Obj) = It at st ⊢
  have hb2 : (s.heap.push It).IsList b #[] := hb.push _
  have ty : ∀ U, isSubtype (.type "list") (.type U) = pure false → ∀ (Q' : Bool → Shared → Prop) (E' : Value → Shared → Prop), Q' false { s with heap := s.heap.push It } → wpAny (model prog w) A.in1 (isInstance (.ref b) (.type U)) Q' E' { s with heap := s.heap.push It } := fun U hU Q' E' q => by
    obtain ⟨o, e, e1, _⟩ := hb2
    exact wpAny_isInstance (T := "list") ⟨o, e, e1⟩ hU q
  refine wpAny_bind (wpAny_bind (wpAny_bind (ty "str" (by rw [isSubtype_type]; kernel_rfl) _ _ ?_)))
  simp only [Bool.false_eq_true, if_false]
  refine wpAny_pure (wpAny_bind (wpAny_bind (ty "bytes" (by rw [isSubtype_type]; kernel_rfl) _ _ ?_)))
  simp only [Bool.false_eq_true, if_false]
  refine wpAny_pure (wpAny_bind (wpAny_bind (ty "bytearray" (by rw [isSubtype_type]; kernel_rfl) _ _ ?_)))
  simp only [Bool.false_eq_true, if_false]
  refine wpAny_pure (wpAny_pure ?_)
  refine wpAny_bind (wpAny_newObj_type ?_)
  have hll : l < s.heap.objs.size := by obtain ⟨_, e, _⟩ := hl; exact Heap.lt_size e
  have hbl : b < s.heap.objs.size := by obtain ⟨_, e, _⟩ := hb; exact Heap.lt_size e
  have hps : (s.heap.push It).objs.size = s.heap.objs.size + 1 := by simp [Heap.push]
  have big : ∀ x : Addr, x < s.heap.objs.size → x ≠ (s.heap.push It).objs.size ∧ x ≠ s.heap.objs.size := fun x hx => by
    rw [hps]
    exact ⟨Nat.ne_of_lt (Nat.lt_succ_of_lt hx), Nat.ne_of_lt hx⟩
  have W := Walks.list (prog := prog) (w := w) (A := A.in1) hh s.heap.objs.size l hne its
  have up : ∀ (b : Addr) (o o2 : Obj), s.heap.get? b = some o → ((s.heap.push It).push o2).get? b = some o := fun b o o2 e => Heap.get?_push_of_some _ (Heap.get?_push_of_some _ e)
  refine wpAny_pure ⟨plainId_quiet F.plain_sum_loop _, codeAny_sum_loopL (h0 := s.heap) (t0 := b) W (fun i h st b hb => ?_) (fun i => ws.getD i []) (fun i v hP => ?_) (s.heap.push It).objs.size ?_ hsz ?_ (fun h k => ?_) its.size 0 _ b 0 rfl (Nat.zero_le _)
    (W.frame _ _ _ st fun b _ o e => Heap.get?_push_of_some _ e) (fun b o _ e => up b o _ e) (Heap.get?_push_size _ rfl) (.inl ⟨rfl, rfl⟩) (big b hbl).1 ?_ fun h' tk t' hk ht => ?_⟩
  · simp only [List.mem_cons, List.not_mem_nil, or_false] at hb
    rcases hb with rfl | rfl
    · obtain ⟨⟨_, e, _⟩, _⟩ := st
      exact Heap.lt_size e
    · obtain ⟨_, ⟨_, e, _⟩⟩ := st
      exact Heap.lt_size e
  · obtain ⟨c, rfl, o, e, e2⟩ := hv i v hP
    exact ⟨c, rfl, fun h k => ⟨o, k _ _ (fun hm => by
      simp only [List.mem_cons, List.not_mem_nil, or_false] at hm
      subst hm
      exact absurd (Heap.lt_size e) (Nat.lt_irrefl _)) e, e2⟩⟩
  · intro hm
    simp only [List.mem_cons, List.not_mem_nil, or_false] at hm
    rcases hm with hm | hm
    · rw [hps] at hm
      exact absurd hm (Nat.succ_ne_self _)
    · exact (big l hll).1 hm.symm
  · cases q : s.heap.get? (s.heap.push It).objs.size with
    | none => rfl
    | some o => exact absurd rfl (big _ (Heap.lt_size q)).1
  · obtain ⟨o, e, e2⟩ := hb
    exact ⟨o, k _ _ (fun hm => by
      simp only [List.mem_cons, List.not_mem_nil, or_false] at hm
      exact (big b hbl).2 hm) e, e2⟩
  · intro hm
    simp only [List.mem_cons, List.not_mem_nil, or_false] at hm
    exact (big b hbl).2 hm
  · exact h h' tk t' (fun b o e => hk b o (fun hm => by
      simp only [List.mem_cons, List.not_mem_nil, or_false] at hm
      exact (big b (Heap.lt_size e)).2 hm) e) ht
end
end PySem
namespace DV
open PySem PySem.Spec PyProof.Rows L2
variable {X : Cx} {E : XK}
theorem Vals.ref2 {a b : Addr} {us : List Value} (r : Vals [V.ref a, V.ref b] us) : us = [Value.ref a, Value.ref b] := by
  cases r with
  | cons h t =>
    cases t with
    | cons h2 t =>
      cases t
      cases h
      cases h2
      rfl
def rSumL (K : PySem.W.Frag) : List V → Hp → VK → Prop := fun vs H Q => ∃ (a b : Addr) (xs : List V) (Ls : List (List V)), vs = [V.ref a, V.ref b] ∧ SqL K H a xs ∧ SqL K H b [] ∧ Paired (fun v l => ∃ c, v = V.ref c ∧ SqL K H c l) xs Ls ∧
  Ls.flatten.length ≤ sizeLine ∧ (∀ p, H p = none → Q (.ref p) (upd H p (.lst Ls.flatten))) ∧ (xs = [] → Q (.ref b) H)
theorem lists_of {pins : List (Addr × Obj)} {s : Shared} {σ : L2.St} {H : Hp} (I : Inv X pins σ H s) : ∀ {xs : List V} {Ls : List (List V)} {its : List Value}, Vals xs its → Paired (fun v l => ∃ c, v = V.ref c ∧ SqL X.K H c l) xs Ls →
    ∃ ws : List (List Value), ws.length = its.length ∧ Vals Ls.flatten ws.flatten ∧ ∀ (i : Nat) (v : Value), its[i]? = some v → ∃ c, v = .ref c ∧ s.heap.IsList c (ws.getD i []).toArray
  | _, _, _, .nil, .nil => ⟨[], rfl, .nil, fun i v e => by simp at e⟩
  | _, _, _, .cons r rs, .cons h hs => by
    obtain ⟨ws, h1, h2, h3⟩ := lists_of I rs hs
    obtain ⟨c, rfl, hc⟩ := h
    obtain ⟨its, rv, hl, _⟩ := I.list hc
    cases r
    refine ⟨its :: ws, by simp [h1], ?_, fun i v e => ?_⟩
    · exact rv.append h2
    · cases i with
      | zero =>
        simp at e
        subst e
        exact ⟨c, rfl, hl.isList⟩
      | succ i => exact h3 i v (by simpa using e)
theorem pre_take (ws : List (List Value)) : ∀ n, n ≤ ws.length → preLists (fun i => ws.getD i []) n = (ws.take n).flatten
  | 0, _ => by simp [preLists]
  | n + 1, h => by
    have hn : n < ws.length := h
    rw [preLists, pre_take ws n (by omega), List.take_succ_eq_append_getElem hn, List.flatten_append]
    simp [hn]
theorem cr_sumL (hc : X.calm = true) : CallR X (.builtin "sum") (rSumL X.K) := by
  intro pins s σ H vs us Q I r h
  obtain ⟨a, b, xs, Ls, rfl, hs, hb, hp, hz, q1, q2⟩ := h
  obtain ⟨its, rv, hl, _⟩ := I.list hs
  obtain ⟨ib, rb, hlb, _⟩ := I.list hb
  cases rb
  obtain ⟨ws, w1, w2, w3⟩ := lists_of I rv hp
  rw [Vals.ref2 r]
  have hlen : ws.flatten.length = Ls.flatten.length := w2.length.symm
  refine sum_lists (ws := ws) (I.ok.hd hc) hl.isList hlb.isList (fun i v e => w3 i v (by simpa using e)) (fun i hi => ?_) fun h' tk t' hk ht => ?_
  · have hi : i ≤ ws.length := by simpa [w1] using hi
    rw [pre_take ws i hi]
    have e : ws.flatten.length = (ws.take i).flatten.length + (ws.drop i).flatten.length := by rw [← List.length_append, ← List.flatten_append, List.take_append_drop]
    exact Nat.le_trans (by rw [e]; exact Nat.le_add_right _ _) (hlen ▸ hz)
  · have en : its.toArray.size = ws.length := by simp [w1]
    rw [en] at ht
    rcases ht with ⟨h0, rfl⟩ | ⟨h0, h1⟩
    · have hx : xs = [] := by
        have := rv.length
        exact List.eq_nil_of_length_eq_zero (by omega)
      exact ⟨.ref _, H, I.kept hk, rfl, q2 hx⟩
    · rw [pre_take ws _ (Nat.le_refl _), List.take_length] at h1
      exact ⟨.ref _, upd H t' (.lst Ls.flatten), I.laidN hk h0 (I.hok.gone h0) ⟨hz, ws.flatten, 0, w2, h1⟩, rfl, q1 t' (I.hok.gone h0)⟩
/-- sum(lists, []) -/
def listsOf : List PyData → Option (List (List PyData))
  | [] => some []
  | .list l :: ds => (listsOf ds).map (l :: ·)
  | _ => none
def sumL (f : Ex) : Ax := fun σ S => (f σ S).bind fun d S1 => match d with
  | .py (.list ds) => (match listsOf ds with
    | some Ls => if Ls.flatten.length ≤ sizeLine then .ok (Ls.flatten.map .py) S1 else .no
    | none => .no)
  | _ => .no
theorem lists_V {K : PySem.W.Frag} {H H' : Hp} (k : Keep H H') : ∀ {xs : List V} {ds : List PyData} {Ls : List (List PyData)}, PpAll K H xs ds → listsOf ds = some Ls → ∃ Vs : List (List V), Paired (fun v l => ∃ c, v = V.ref c ∧ SqL K H' c l) xs Vs ∧ PpAll K H' Vs.flatten Ls.flatten
  | _, _, _, .nil, h => by cases h; exact ⟨[], .nil, .nil⟩
  | _, _, Ls, @PpAll.cons _ _ v vs d ds r rs, h => by
    cases r with
    | @lst a xs l hF hz al =>
      have h : Option.map (l :: ·) (listsOf ds) = some Ls := h
      cases hb : listsOf ds with
      | none => rw [hb] at h; cases h
      | some Ls' =>
        rw [hb] at h
        cases h
        obtain ⟨Vs, h1, h2⟩ := lists_V k rs hb
        exact ⟨xs :: Vs, .cons ⟨a, rfl, (hF.keep k).sq⟩ h1, (al.keep k).append h2⟩
    | _ => exact absurd h (by simp [listsOf])
theorem dl_sumL {e : Expr} {f : Ex} {p pos lpos : Pos} (o : X.calm = true) (hm : X.mg "sum" = none) (he : DE X E e f) (hg : Gl X "sum" := by rfl)
    (hs1 : starEach [e, .List [] lpos] X.env = (false, eval e X.env) :: starEach [.List [] lpos] X.env := by rfl)
    (hs2 : starEach [.List [] lpos] X.env = (false, eval (.List [] lpos) X.env) :: starEach [] X.env := by rfl) (hpl : (backTo pos (starEach [.List [] lpos] X.env)).any (·.1) = false := by rfl) :
    DL X E (.Call (.Name "sum" p) [e, .List [] lpos] [] pos) (sumL f) := by
  obtain ⟨t, pt, q⟩ := he
  obtain ⟨t2, pt2, q2⟩ := dl_lst (X := X) (E := E) (pos := lpos) da_nil
  refine ⟨_, pe_callB (cr_sumL o) hg hm rfl (pa_cons pt (pa_cons pt2 pa_nil hs2) hs1) (by decide) (by decide) hs1 hpl, fun σ H σd S ι Q hE hS h => ?_⟩
  refine q σ H σd S ι _ hE hS (Wp.bind0 h fun d S1 e1 v H1 ι1 p1 r1 h1 => ?_)
  split at h1
  · rename_i ds
    split at h1
    · rename_i Ls hLs
      split at h1
      · rename_i hz
        cases r1 with
        | py r1 =>
          cases r1 with
          | @lst a xs _ hF hz1 al =>
            have old : ∀ {H2 : Hp} {b : Addr}, (∀ b, H b ≠ none → H2 b ≠ none) → H2 b = none → H b = none := fun {H2 b} k hb => by
              cases q0 : H b with
              | none => rfl
              | some w => exact absurd hb (k b (by rw [q0]; simp))
            refine q2 σ H1 σd S1 ι1 _ (hE.mono p1.pre p1.keep) p1.sto (show Wp X.K X.mg E ι1 H1 (relL X.K H1) (R.ok [] S1) _ from fun v2 H2 ι2 p2 r2 => ?_)
            obtain ⟨b, ws, b0, rfl, hb, bn, _, rws⟩ := r2
            cases rws
            obtain ⟨Vs, g1, g2⟩ := lists_V p2.keep al hLs
            have gl := g2.length
            refine ⟨a, b, xs, Vs, rfl, (hF.keep p2.keep).sq, .inl (.inl hb), g1, by rw [gl]; exact hz, fun p hp => ?_, fun hx => ?_⟩
            · refine h1 _ _ _ ((p1.trans p2).trans (.new p2.sto hp)) ⟨p, _, old (p1.trans p2).dom hp, rfl, upd_same, p2.sto.notin hp, by rw [gl]; exact hz, .of_pys (g2.keep (.new hp))⟩
            · subst hx
              cases al
              cases hLs
              exact h1 _ _ _ (p1.trans p2) ⟨b, [], old p1.dom b0, rfl, hb, bn, Nat.zero_le _, .nil⟩
      · exact h1.elim
    · exact h1.elim
  · exact h1.elim
end DV

set_option maxHeartbeats 4000000
namespace DV
open PySem PySem.Spec PyProof.Rows L2
/-! A list turned about; insert. -/
variable {X : Cx} {E : XK}
def revL (a : Ex) : Ax := fun σ S => (a σ S).bind fun x S1 => match x with
  | .py (.list ds) => .ok (ds.reverse.map .py) S1
  | _ => .no
theorem PpAll.rev {K : PySem.W.Frag} {H : Hp} : ∀ {vs : List V} {ds : List PyData}, PpAll K H vs ds → PpAll K H vs.reverse ds.reverse
  | _, _, .nil => .nil
  | _, _, .cons h hs => by
    rw [List.reverse_cons, List.reverse_cons]
    exact (PpAll.rev hs).append (.cons h .nil)
section
variable {e : Expr} {f : Ex} {k : Nat} {pos p1 p2 p3 : Pos}
end
end DV

set_option maxHeartbeats 4000000
namespace DV
open PySem PySem.Spec PyProof.Rows L2
/-! is True; int of a truth; in of a tuple of tuples; not in range. -/
variable {X : Cx} {E : XK}
theorem bl_of {K : PySem.W.Frag} {ι : List Addr} {H : Hp} {v : V} {b : Bool} (r : DV.Rd K ι H v (.py (.bool b))) : v = .bl b := by
  cases r with
  | py r => cases r; rfl
def intD : List D → Sto → R D
  | [.py (.bool b)], S => .ok (.py (.int (if b then 1 else 0))) S
  | [.py (.int i)], S => .ok (.py (.int i)) S
  | _, _ => .no
theorem dc_int : DC X (.type "int") intD := by
  refine ⟨_, call_int1 (X := X), fun xs ds H S ι E Q hS r hw => ?_⟩
  unfold intD at hw
  split at hw
  · cases r with
    | cons r rs =>
      cases rs
      exact .inr ⟨_, by rw [bl_of r], hw _ _ _ (.refl hS) (.py (.int _))⟩
  · cases r with
    | cons r rs =>
      cases rs
      exact .inl ⟨_, by rw [int_of r], hw _ _ _ (.refl hS) (.py (.int _))⟩
  · exact hw.elim
/-! ### in of a tuple, deep -/
/-! ### not in range -/
section
variable {a : Expr} {f : Ex} {j : Int} {kk : Nat} {p p1 pos pos2 : Pos}
end
end DV

set_option maxHeartbeats 4000000
namespace L2
open PySem PySem.Spec PyProof.Rows
end L2
namespace DV
open PySem PySem.Spec PyProof.Rows L2
variable {X : Cx} {E : XK}
section
variable {a : Expr} {f : Ex} {k1 k2 : Nat} {p p1 p2 p3 p4 pos : Pos}
end
end DV

set_option maxHeartbeats 4000000
namespace DV
open PySem PySem.Spec PyProof.Rows L2
/-! Dicts that are never changed: dict(pairs), d[k]. -/
variable {X : Cx} {E : XK}
def keyOf : PyData → Option Key
  | .int i => some (.inl i)
  | .str x => some (.inr x)
  | _ => none
@[simp] theorem keyOf_keyP (k : Key) : keyOf (keyP k) = some k := by cases k <;> rfl
def pairsOf : List PyData → Option (List (Key × PyData))
  | [] => some []
  | .tuple [k, v] :: ds => (match keyOf k, pairsOf ds with
    | some k, some r => some ((k, v) :: r)
    | _, _ => none)
  | _ => none
def dictF (f : Ex) : Ex := fun σ S => (f σ S).bind fun d S1 => match d with
  | .py (.list ds) => (match pairsOf ds with
    | some kv => if (kv.map Prod.fst).Nodup then .ok (.py (.dict (kv.map fun p => (keyP p.1, p.2)))) S1 else .no
    | none => .no)
  | _ => .no
def tFzD (t : TE) : TE := fun σ H Q => t σ H fun v H1 => ∃ a kvs, v = .ref a ∧ H1 a = some (.dK kvs) ∧ ∀ o, Q v (upd H1 a (.frz o (.dK kvs)))
theorem pe_frzD {e : Expr} {t : TE} (p : PE X e t) : PE X e (tFzD t) := by
  refine ⟨fun pins s σ H Q I h => thn (p.run pins s σ H _ I h) fun u s1 ⟨v, H1, I1, r, a, xs, ev, ha, q⟩ => ?_⟩
  obtain ⟨o, I2⟩ := I1.lock ha trivial
  exact ⟨v, _, I2, r, q o⟩
section
variable {e i : Expr} {f g : Ex} {p pos : Pos}
def dlook : List (PyData × PyData) → Key → Option PyData
  | [], _ => none
  | (p, d) :: r, k => if keyOf p = some k then some d else dlook r k
def dgetF (a b : Ex) : Ex := fun σ S => (a σ S).bind fun x S1 => (b σ S1).bind fun y S2 => match x, y with
  | .py (.dict kvs), .py k => (match keyOf k with
    | some k => (match dlook kvs k with
      | some d => .ok (.py d) S2
      | none => .no)
    | none => .no)
  | _, _ => .no
end
end DV

set_option maxHeartbeats 4000000
namespace DV
open PySem PySem.Spec PyProof.Rows L2
/-! insert; == of lists that may be changed; count of whole numbers and truths. -/
variable {X : Cx} {E : XK}
end DV

set_option maxHeartbeats 4000000
namespace DV
open PySem PySem.Spec PyProof.Rows L2
/-! < of data that are alike, place by place, nested. -/
section
variable {X : Cx} {E : XK}
def ltOk (d e : PyData) : Prop := PySem.W.alike d e = true ∧ isNon d = false ∧ d.hasDict = false ∧ e.hasDict = false ∧ d.depth ≤ 60
instance (d e : PyData) : Decidable (ltOk d e) := by unfold ltOk; infer_instance
end
end DV

set_option maxHeartbeats 4000000
namespace DV
open PySem PySem.Spec PyProof.Rows L2
/-! A def that is called upon an error that is handled: what it tells by the error's class. -/
section
variable {X : Cx}
/-- xs.count(x) -/
def countD : D → List D → Sto → R D
  | x, [y], S => (match deep S 8 x, deep S 8 y with
    | some (.list es), some p => if SeqAt.shaped (.list es) = true ∧ SeqAt.shaped p = true then .ok (.py (.int ((es.countP fun z => PyData.eqv z p : Nat) : Int))) S else .no
    | _, _ => .no)
  | _, _, _ => .no
def rCountD (K : PySem.W.Frag) : V → List V → Hp → VK → Prop := fun x xs H Q => ∃ (b : Addr) (y : V) (p : PyData) (es : List PyData), x = .ref b ∧ xs = [y] ∧ Dp K H (.ref b) (.list es) ∧ Dp K H y p ∧ SeqAt.shaped (.list es) = true ∧ SeqAt.shaped p = true ∧
  Q (.int ((es.countP fun z => PyData.eqv z p : Nat) : Int)) H
theorem mt_countD (hu : X.A.units + 65 < cLine) : MtR X "list.count" (rCountD X.K) := by
  intro pins s σ H x xs v us Q I rx rxs h
  obtain ⟨b, y, p, es, rfl, rfl, hb, hy, sh, sp, q⟩ := h
  cases rx
  cases rxs with
  | cons r0 r1 =>
    cases r1
    obtain ⟨ys, rd⟩ := Dp.reads I p y _ hy r0
    have lay : PyData.canLayAll0 es = true := SeqAt.canLay_of_shaped sh
    cases hb with
    | lst hl al =>
      obtain ⟨us, ru, ⟨⟨c1, d1, t1, s1⟩, m, e1, e2, e3, e4⟩, le⟩ := I.list hl
      simp only at e2 e4
      subst e2 e4
      obtain ⟨zs, all⟩ := Dp.readsAll I es _ us al ru
      have mp : us.map (SeqAt.readOf s.heap) = es := SeqAt.readsAll_map es us zs lay all
      refine call_meets PySem.F.slot_list_count ⟨_, e1, rfl⟩ PySem.F.entry_list_count (PySem.F.args_list_count_2 _ _) (SeqAt.list_countAt b us.toArray m d1 s1 _ (fun u => PyData.eqv (SeqAt.readOf s.heap u) p))
        ⟨e1, SeqAt.items_eqAt (vs := us.toArray) all rd lay (SeqAt.canLay_of_shaped sp) (room_in_shaped sp hu), ?_⟩
      have ec : us.toArray.toList.countP (fun u => PyData.eqv (SeqAt.readOf s.heap u) p) = es.countP fun z => PyData.eqv z p := by
        rw [← mp, List.countP_map]
        rfl
      rw [ec]
      exact ⟨.int _, H, I.tok _, ⟨_, rfl⟩, q⟩
theorem dm_countU (hu : X.A.units + 65 < cLine) : DM X "list" "list.count" countD := by
  refine ⟨_, mt_countD (X := X) hu, fun x xs d ds H S ι E Q hS rx r hw => ?_⟩
  unfold countD at hw
  split at hw
  · split at hw
    · rename_i es p he hp
      split at hw
      · rename_i hs
        cases r with
        | cons r rs =>
          cases rs
          have dx := deep_dp hS _ rx he (noDict_of hs.1)
          obtain ⟨a, rfl⟩ := dp_list_ref dx
          exact ⟨a, _, p, es, rfl, rfl, dx, deep_dp hS _ r hp (noDict_of hs.2), hs.1, hs.2, hw _ _ _ (.refl hS) (.py (.int _))⟩
      · exact hw.elim
    · exact hw.elim
  · exact hw.elim
theorem dm_count {k : Nat} {E : XK} (o : Okx k X E) : DM X "list" "list.count" countD := dm_countU (Room.units65 o.room)
theorem dm_indexU (hu : X.A.units + 65 < cLine) : DM X "list" "list.index" indexD := by
  refine ⟨_, mt_indexD (X := X) hu, fun x xs d ds H S ι E Q hS rx r hw => ?_⟩
  unfold indexD at hw
  split at hw
  · split at hw
    · rename_i es p he hp
      split at hw
      · rename_i hs
        split at hw
        · rename_i j hj
          cases r with
          | cons r rs =>
            cases rs
            have dx := deep_dp hS _ rx he (noDict_of hs.1)
            obtain ⟨a, rfl⟩ := dp_list_ref dx
            unfold placeOf at hj
            obtain ⟨h1, h2, h3⟩ := List.findIdx?_eq_some_iff_getElem.mp hj
            refine ⟨a, _, p, es, j, es[j], rfl, rfl, dx, deep_dp hS _ r hp (noDict_of hs.2), hs.1, hs.2, List.getElem?_eq_getElem h1, h2, fun m z' hm hz => ?_, hw _ _ _ (.refl hS) (.py (.int _))⟩
            obtain ⟨h4, h5⟩ := List.getElem?_eq_some_iff.mp hz
            have := h3 m hm
            rw [h5] at this
            simpa using this
        · exact hw.elim
      · exact hw.elim
    · exact hw.elim
  · exact hw.elim
/-- != of whole numbers, texts, truths -/
def neFD : D → D → Sto → R D
  | .py d, .py e, S => (match flatD d e with
    | some k => .ok (.py (.bool (!k))) S
    | none => .no)
  | _, _, _ => .no
theorem do_neF : DOp X (compareOp .NotEq) neFD := by
  refine ⟨_, op_ne (X := X), fun x y d e H S ι E Q hS rx ry hw => ?_⟩
  cases rx with
  | obj _ => exact hw.elim
  | raw _ => exact hw.elim
  | py rx =>
    cases ry with
    | obj _ => exact hw.elim
    | raw _ => exact hw.elim
    | py ry =>
      unfold neFD at hw
      simp only at hw
      split at hw
      · rename_i k hf
        obtain ⟨h1, h2⟩ := flat_scal rx ry hf
        refine ⟨h1, ?_⟩
        rw [h2]
        exact hw _ _ _ (.refl hS) (.py (.bl _))
      · exact hw.elim
end
/-! ### isinstance of the error that is handled -/
/-- the name in slot i holds the thing at a: the answer is b -/
def isaE (a i : Nat) (b : Bool) : Ex := fun σ S => match σ[i]? with
  | some (some (.raw a')) => if a' = a then .ok (.py (.bool b)) S else .no
  | _ => .no
section
variable {X : Cx} {E : XK} {a D : Addr} {oe : Obj} {pos p p1 p2 : Pos} {x y : Str}
theorem call_isH {u : Value} {b : Bool} (C : ExcC X.K D) (hp : (a, oe) ∈ X.pn) (hz : Zc (.ref D) none oe) (hf : ∃ vs, oe.data = .fields vs) (e : PySem.W.kitOne X.K (.ref D) u = some b) :
    CallR X (.builtin "isinstance") (fun xs H Q => ∃ c : V, xs = [.ref a, c] ∧ (∀ w, RelV c w → w = u) ∧ Q (.bl b) H) := by
  intro pins s σ H xs us Q I r h
  obtain ⟨c, rfl, hc, q⟩ := h
  cases r with
  | cons r0 r =>
    cases r with
    | cons r1 r =>
      cases r
      cases r0
      cases hc _ r1
      have at_ := (I.pin (a, oe) (List.mem_append_left _ hp)).1
      have inst : PySem.W.InstAt s.heap a oe D none := by
        obtain ⟨vs, hv⟩ := hf
        obtain ⟨k1, k2, k3, k4⟩ := oe
        obtain ⟨z1, z2⟩ := hz
        dsimp only at z1 z2 hv
        subst z1 z2 hv
        exact ⟨at_, rfl, rfl, trivial⟩
      refine PySem.W.kia_one (PySem.W.handS_kitx_exc C.hg C.hk C.hs C.hd C.ha C.hn C.ht C.hm) I.kIn inst e (fun z => nomatch z) fun tk => ?_
      exact ⟨.bl b, H, I.kept (t' := tk) fun _ _ z => z, rfl, q⟩
theorem de_isa {u : Value} {cv : V} {b : Bool} (i : Nat) (C : ExcC X.K D) (hp : (a, oe) ∈ X.pn) (hz : Zc (.ref D) none oe) (hf : ∃ vs, oe.data = .fields vs) (e : PySem.W.kitOne X.K (.ref D) u = some b)
    (hc : ∃ t, PE X (.Name y p2) t ∧ ∀ σ H Q, Q cv H → t σ H Q) (hcv : ∀ w, RelV cv w → w = u) (hm : X.mg "isinstance" = none) (hN : X.N[i]? = some x := by rfl) (hv : Vis X.env.scope x := by first | exact Or.inl rfl | exact Or.inr (Or.inl rfl) | exact Or.inr (Or.inr rfl))
    (hd : (x == ("__debug__" : Str)) = false := by decide) (hcd : (x == ("__classdict__" : Str)) = false := by decide) (hg : Gl X "isinstance" := by rfl)
    (he : starEach [.Name x p1, .Name y p2] X.env = (false, eval (.Name x p1) X.env) :: starEach [.Name y p2] X.env := by rfl) (he2 : starEach [.Name y p2] X.env = (false, eval (.Name y p2) X.env) :: starEach [] X.env := by rfl) (hpl : (backTo pos (starEach [.Name y p2] X.env)).any (·.1) = false := by rfl) :
    DE X E (.Call (.Name "isinstance" p) [.Name x p1, .Name y p2] [] pos) (isaE a i b) := by
  obtain ⟨tc, pc, qc⟩ := hc
  refine ⟨_, pe_callB (call_isH C hp hz hf e) hg hm rfl (pa_cons (pe_var (i := i) hN hv hd hcd) (pa_cons pc pa_nil he2) he) (by decide) (by decide) he hpl, fun σ H σd S ι Q hE hS h => ?_⟩
  unfold isaE at h
  split at h
  · rename_i a' hs
    split at h
    · rename_i ea
      subst ea
      obtain ⟨v, hv, rv⟩ := hE.at_ i _ hs
      cases rv
      exact ⟨.ref a', hv, qc _ _ _ ⟨cv, rfl, hcv, h _ _ _ (.refl hS) (.py (.bl b))⟩⟩
    · exact h.elim
  · exact h.elim
theorem cls_own {C : Addr} (hm : X.mg y = some (.ref C)) (hg : Gl X y := by rfl) (hd : (y == ("__debug__" : Str)) = false := by decide) : ∃ t, PE X (.Name y p2) t ∧ ∀ σ H Q, Q (V.ref C) H → t σ H Q :=
  ⟨_, pe_glob (v := V.ref C) hg hm (show RelV (V.ref C) (Value.ref C) from rfl) hd, fun σ H Q q => q⟩
theorem cls_bltn {T : String} (hm : X.mg y = none) (hb : bootBuiltins y = some (.type T) := by rfl) (hg : Gl X y := by rfl) (hn : y ≠ "__name__" := by decide) (hd : (y == ("__debug__" : Str)) = false := by decide) : ∃ t, PE X (.Name y p2) t ∧ ∀ σ H Q, Q (V.ty T) H → t σ H Q :=
  ⟨_, pe_bltn (v := .ty T) hg hm hb rfl hn hd, fun σ H Q q => q⟩
end
/-! ### such a def's promise -/
/-- called upon an error of the class c that is handled it tells the text t -/
def WordD (P : Program) (w : World) (K : PySem.W.Frag) (mg : Str → Option Value) (base : Heap) (k : Nat) (f : Addr) (c t : Str) : Prop :=
  ∀ (A : Around) (outer : List Env) (s : Shared) (H : Hp) (Q : VK) (a : Addr) (oe : Obj), L2H.RoomH k A → L2H.PinOk outer H s (a, oe) → Zc (clsV mg c) none oe → (∃ vs, oe.data = .fields vs) → Env0 P w K mg base A outer s H →
    (∃ ι S, StR K ι H S ∧ ∀ H' ι', Post K ι H ι' H' S → Q (.str t) H') → codeAny (model P w) A (.call (.ref f) ⟨[.ref a], []⟩) (CR C8.CX0 outer P w H s Q C8.E0) s
section
variable {P : Program} {w : World} {K : PySem.W.Frag} {mg : Str → Option Value} {base : Heap}
theorem word_ok {x qual e : Str} {st : Stmt} {f D : Addr} {fd : FuncData} {N : List Str} {k : Nat} {c t : Str} {b : Addr → Sx} (F : L2.Fun K x qual st f fd) (Sc : FnScope N [e] (defScope st)) (hb : Binds K fd [e] []) (hD : clsV mg c = .ref D)
    (hbody : ∀ (cdv : Value) (A : Around) (outer : List Env) (s : Shared) (H : Hp) (a : Addr) (oe : Obj), Zc (.ref D) none oe → (∃ vs, oe.data = .fields vs) → (A.deeper (envOfC qual (defScope st) s.heap.objs.size f cdv)).units + 65 < cLine →
      DSs (L2H.cxH C8.CX0 P w K mg base N qual (defScope st) f cdv A outer s H C8.E0 (a, oe)) C8.E0 (defBody st) (b a))
    (res : ∀ (a : Addr) (S : Sto), b a (init N.length [.raw a]) S = .rt (.py (.str t)) S) : WordD P w K mg base (k + 1) f c t := by
  obtain ⟨oc, od, kV, doc, pm, an, cdv, ct, osl, rfl, lk, hcd⟩ := F.ex
  intro A outer s H Q a oe hr hpin hz hf e0 hq
  rw [hD] at hz
  obtain ⟨ι, S, hS, hq⟩ := hq
  have KX : K.In s.heap := e0.mod.kin.keeps fun b o e => (e0.bs b o e).1
  have lim : s.heap.NoLimit := e0.mod.nolimit.keeps fun b o e => (e0.bs b o e).1
  have bind := hb s [.ref a] KX rfl
  rw [List.append_nil] at bind
  have hkind : ∀ y ∈ [e].zip [Value.ref a], (defScope st).names.lookup y.1 = some .local ∨ ((defScope st).names.lookup y.1 = some .cell ∧ ((cellsFrom (s.heap.objs.size + 1) (defScope st).names []).lookup y.1).isSome = true) := fun ⟨n, v⟩ hy => by
    rcases Sc.par n (List.of_mem_zip hy).1 with q | q
    · exact .inl q
    · exact .inr ⟨q, PySem.W.cellsFrom_some _ _ _ (.inl q)⟩
  refine codeAny_call_function hr.depth (KX _ _ lk) rfl Sc.co Sc.gen rfl (PySem.W.codeRec_of KX hcd) (bind _ _ _ _ ?_)
  refine wpAny_newFunctionEnv_cells Sc.kind hkind fun env he s1 xx => ?_
  subst he
  refine ⟨lim.keeps xx.toInCall.keep, codeAny_func ?_⟩
  have hr2 := (L2H.RoomH.deeper hr (envOfC qual (defScope st) s.heap.objs.size f cdv)).un
  obtain ⟨tt, ht, hd⟩ := hbody cdv A outer s H a oe hz hf (by omega)
  have I : Inv (L2H.cxH C8.CX0 P w K mg base N qual (defScope st) f cdv A outer s H C8.E0 (a, oe)) [] (L2.start N [.ref a]) H s1 := L2H.inv_startH Sc hpin e0 rfl (.cons rfl .nil) xx
  refine wpAny_mono (ht.run [] s1 (L2.start N [.ref a]) H { nx := fun _ H' => Q .non H', rt := Q } I (hd _ _ _ S ι _ (init_rel N (.cons (.raw a) .nil)) hS ?_)) (fun fl s' hs => ?_) fun e s' hs => hs
  · rw [res a S]
    intro v H' ι' pp rv
    rw [str_of rv]
    exact hq H' ι' pp
  · have fin : ∀ {σ' : L2.St} {H' : Hp} {v : V} {u : Value}, Inv (L2H.cxH C8.CX0 P w K mg base N qual (defScope st) f cdv A outer s H C8.E0 (a, oe)) [] σ' H' s' → RelV v u → Q v H' → CE outer P w H s Q u s' :=
      fun {σ' H' v u} J rv q => ⟨v, H', J.os, J.bare, J.base, J.hok, rv, q⟩
    cases fl with
    | ret u =>
      obtain ⟨v, σ', H', J, rv, q⟩ := hs
      exact fin J rv q
    | next =>
      obtain ⟨σ', H', J, q⟩ := hs
      exact fin (v := V.non) (u := Value.none) J rfl q
    | brk =>
      obtain ⟨_, _, _, q⟩ := hs
      exact False.elim q
    | cont =>
      obtain ⟨_, _, _, q⟩ := hs
      exact False.elim q
end
end DV

set_option maxHeartbeats 4000000
namespace DV
open PySem PySem.Spec PyProof.Rows L2
/-! A lambda without parameters, handed to a def that calls it and tells what its value shows, or a word of its error. -/
def saidR (W : List (Str × Str)) (r : R D) : R D := match r with
  | .ok d S => reprD [d] S
  | .ex c S => (match W.lookup c with
    | some t => .ok (.py (.str t)) S
    | none => .no)
  | .no => .no
/-- the table of a def that makes lambdas stands in the store -/
def tabIn (P : Nat) (q : Str) (S : Sto) : Prop := ∃ i : Nat, S[i]? = some (.tab P q)
open Classical in
noncomputable def saidE (P : Nat) (q : Str) (W : List (Str × Str)) (f : Ex) : Ex := fun σ S => if tabIn P q S then saidR W (f σ S) else .no
/-! ### the lambda's body -/
section
variable {X : Cx} {E : XK} {k : Nat}
theorem okx_lam {A : Around} {outer : List Env} {s : Shared} {H : Hp} {scope : Scope} {f c' : Addr} (nd : X.N.Nodup) (hr : Room k (A.deeper (LamX.lamEnv X scope s.heap.objs.size f c'))) (hg : A.guards = some []) : Okx k (LamX.lamCx X A outer s H E scope f c') E where
  calm := rfl
  nd := nd
  room := hr
  gd := hg
  take := takes_of rfl rfl rfl rfl
  pass := passes_call (takes_of rfl rfl rfl rfl) fun _ _ _ _ h => h
  own := passes_of rfl
/-- what is wanted of an expression that does f upon data -/
def wishE (K : PySem.W.Frag) (mg : Str → Option Value) (fx : Ex) (E : XK) : TE := fun σ H Q => ∃ σd S ι, EnR K ι H σ σd ∧ StR K ι H S ∧ Wp K mg E ι H (relD K) (fx σd S) Q
theorem pe_wish {e : Expr} {fx : Ex} (h : DE X E e fx) : PE X e (wishE X.K X.mg fx E) := by
  obtain ⟨t, p, q⟩ := h
  exact ⟨fun pins s σ H Q I ⟨σd, S, ι, hE, hS, hw⟩ => p.run pins s σ H Q I (q σ H σd S ι Q hE hS hw)⟩
/-- x(), x the lambda that the def got: Y is that def's context (within its try) -/
theorem pe_lam {pins : List (Addr × Obj)} {σ : L2.St} {H : Hp} {s : Shared} {Ng : List Str} {qg : Str} {sg : Scope} {g f c' : Addr} {cdg pm ctv : Value} {params : Arguments} {body : Expr} {scope : Scope} {i : Nat} {x : Str} {pn : List (Addr × Obj)} {xe : Value → Shared → Prop} {W : WX} {tb : XK → TE} {p1 p2 : Pos} {Eg : XK}
    (I : Inv X pins σ H s) (L : LamX.LamS X.env.scope scope) (hf : s.heap.get? f = some (PySem.W.kla_obj "<lambda>" (X.env.qual ++ "<lambda>") params body scope (cloFrom X.env.cells scope.names []) pm c' ctv)) (hn : H f = none) (hr : f ∉ frs X.stack)
    (hb : bindArgs (PySem.W.kla_fn "<lambda>" (X.env.qual ++ "<lambda>") params body scope (cloFrom X.env.cells scope.names []) pm (.ref c') ctv) ⟨[], []⟩ = pure [])
    (tk : Takes ((cxOf C8.CX0 X.prog X.w X.K X.mg X.base Ng qg sg g cdg X.A X.stack s H Eg).tr pn xe) W) (rm : Room (k + 1) (X.A.deeper (envOfC qg sg s.heap.objs.size g cdg))) (gd : X.A.guards = some [])
    (hbody : ∀ (A : Around) (outer : List Env) (s : Shared) (H : Hp) (E : XK), Room k (A.deeper (LamX.lamEnv X scope s.heap.objs.size f c')) → A.guards = some [] → PE (LamX.lamCx X A outer s H E scope f c') body (tb E))
    (hN : Ng[i]? = some x) (hv : Vis sg x) (hd : (x == ("__debug__" : Str)) = false) (hcd : (x == ("__classdict__" : Str)) = false) :
    PE ((cxOf C8.CX0 X.prog X.w X.K X.mg X.base Ng qg sg g cdg X.A X.stack s H Eg).tr pn xe) (.Call (.Name x p1) [] [] p2)
      (fun σ2 H2 Q => σ2[i]? = some (some (.ref f)) ∧ H2 c' = some (LamX.CodeO c' (X.env.qual ++ "<lambda>")) ∧ tb (WE W σ2) σ H2 Q) := by
  refine ⟨fun pins2 s2 σ2 H2 Q I2 h => ?_⟩
  obtain ⟨hslot, hcode, hwish⟩ := h
  have rd := (pe_var (pos := p1) (i := i) hN hv hd hcd).run pins2 s2 σ2 H2 (fun v H' => v = .ref f ∧ H' = H2) I2 ⟨.ref f, hslot, rfl, rfl⟩
  refine wpAny_Call_Name_kw (thn rd fun u s3 ⟨v, H3, I3, rv, ev, eH⟩ => ?_)
  subst ev
  rw [eH] at I3
  cases (show u = Value.ref f from rv)
  have there := I3.base.keep f _ hf hn hr (fun z => nomatch (show f ∈ ([] : List Addr) from z))
  refine PySem.W.callWith_F0 ⟨_, _, _, _, there⟩ ?_
  obtain ⟨⟨o3, flds, tq, e1, e2, e3⟩, _, _⟩ := I3.hok c' _ hcode
  have run : codeAny (model X.prog X.w) (X.A.deeper (envOfC qg sg s.heap.objs.size g cdg)) (.call (.ref f) ⟨[], []⟩) (CR (L2.CX X.prog X.w) (envOfC qg sg s.heap.objs.size g cdg :: X.stack) X.prog X.w H2 s3 Q (WE W σ2)) s3 := by
    refine PySem.W.kla_callFunE rm.depth there rfl L.co L.gen rfl ⟨c', o3, flds, tq, rfl, e1, e2, e3⟩ ?_
    rw [hb]
    refine wpAny_pure (wpAny_newFunctionEnv (fun y m => (L.own y m).2) (fun y m => absurd m (by simp)) (fun hh ns bs => ⟨I3.nolimit.fresh _ bs, ?_⟩) L.kind)
    show codeAny _ _ (.expr body (LamX.lamEnv X scope s3.heap.objs.size f c')) _ _
    have kept : ∀ b o, s3.heap.get? b = some o → hh.get? b = some o := fun b o e => bs.extBut b o (Nat.ne_of_lt (Heap.lt_size e)) (Heap.get?_push_of_some _ e)
    have un : Un (frs X.stack) [] H H2 s.heap s3.heap := I3.base
    have J := LamX.lam_start2 (A := X.A.deeper (envOfC qg sg s.heap.objs.size g cdg)) (outer := envOfC qg sg s.heap.objs.size g cdg :: X.stack) (E := WE W σ2) (f := f) (c' := c') (tk := s3.toks + ([] : List (Str × Value)).length) I L I3.env0 rm.hd un ns kept
    refine PySem.W.kla_codeExpr (wpAny_mono ((hbody _ _ s3 H2 (WE W σ2) (rm.deeper _) gd).run [] _ _ H2 Q J hwish) (fun v s' hq => ?_) fun e s' hq => hq)
    obtain ⟨v', H', J', rv', q⟩ := hq
    exact ⟨v', H', J'.os, J'.bare, J'.base, J'.hok, rv', q⟩
  refine wpAny_call (codeAny_mono run fun r s' hq => ?_)
  match r, hq with
  | .error e, hq => exact passAt tk σ2 pins2 H2 s3 e s' I3 hq
  | .ok (.ret u), hq => exact I3.after hq
  | .ok .next, hq => exact hq.elim
  | .ok .brk, hq => exact hq.elim
  | .ok .cont, hq => exact hq.elim
end
/-! ### the lambda is made -/
/-- what the heap knows behind a lambda's making: as much as ahead, or its code object, newly told by the table at P -/
def MadeL (H H1 : Hp) (P c' : Addr) (q : Str) : Prop := H1 = H ∨ ∃ ps more, H P = some (.tbl ps) ∧ H c' = none ∧ H1 = upd (upd H P (.tbl (ps ++ more))) c' (LamX.CodeO c' q)
theorem MadeL.at_ {H H1 : Hp} {P c' : Addr} {q : Str} (m : MadeL H H1 P c' q) {b : Addr} {o : HO} (e : H b = some o) : H1 b = some o ∨ (b = P ∧ ∃ ps, H1 b = some (.tbl ps)) := by
  rcases m with rfl | ⟨ps, more, h1, h2, rfl⟩
  · exact .inl e
  · have ne : b ≠ c' := ne_of_none e h2
    rw [upd_ne ne]
    by_cases hb : b = P
    · subst hb
      exact .inr ⟨rfl, _, upd_same⟩
    · rw [upd_ne hb]
      exact .inl e
section
variable {X : Cx} {pins : List (Addr × Obj)} {σ : L2.St} {H : Hp} {s : Shared}
theorem lam_mk {c P : Addr} {params : Arguments} {body : Expr} {scope : Scope} {pos : Pos} {E Q : Value → Shared → Prop} (I : Inv X pins σ H s) (TB : LamX.TabB X.base X.mg c P) (hcode : X.env.code = .ref c)
    (tb : LamX.TabS H P (X.env.qual ++ "<lambda>")) (hdef : defaultsOf params X.env = ([], [])) (hfree : ∀ y ∈ scope.names, y.2 = .free → ∃ c, X.env.cells.lookup y.1 = some c)
    (h : ∀ (f c' : Addr) (pm ctv : Value) (H1 : Hp) (s' : Shared), Inv X pins σ H1 s' → MadeL H H1 P c' (X.env.qual ++ "<lambda>") → LamX.TabS H1 P (X.env.qual ++ "<lambda>") →
      s'.heap.get? f = some (PySem.W.kla_obj "<lambda>" (X.env.qual ++ "<lambda>") params body scope (cloFrom X.env.cells scope.names []) pm c' ctv) → H1 f = none → f ∉ frs X.stack → H1 c' = some (LamX.CodeO c' (X.env.qual ++ "<lambda>")) → Q (.ref f) s') :
    wpAny (model X.prog X.w) X.A (eval (.Lambda params body scope pos) X.env) Q E s := by
  obtain ⟨ps, hP, tr, am⟩ := tb
  have atP : s.heap.get? P = some { cls := .none, data := .fields ps } := I.hok P _ hP
  have noFr : ∀ f, s.heap.objs.size ≤ f → f ∉ frs X.stack := fun f hf z => by
    rcases List.mem_cons.mp (I.stkSub _ z) with e | e
    · have := I.lt
      rw [← e] at this
      exact absurd hf (Nat.not_le_of_lt this)
    · exact I.nofs hf e
  refine PySem.W.kla_eval hdef ?_
  cases hc : codeAmong pos ps.toList with
  | some cv =>
    obtain ⟨c', rfl, hco⟩ := am pos cv hc
    refine PySem.W.kla_makeFunctionHit (mg := X.mg) (c := c) (P := P) (ps := ps) (closure_ok hfree) I.ok.glob (I.mod.glob.keeps I.bk) hcode (TB.code.keeps I.bk) atP tr hc (TB.bm.keeps I.bk) fun ctv h' tk kp sz => ?_
    have J : Inv X pins σ H { s with heap := h'.push (PySem.W.kla_obj "<lambda>" (X.env.qual ++ "<lambda>") params body scope (cloFrom X.env.cells scope.names []) ((X.mg "__name__").getD .none) c' ctv), toks := tk } :=
      I.kept fun b o e => Heap.get?_push_of_some _ (kp b o e)
    exact h h'.objs.size c' _ ctv H _ J (.inl rfl) ⟨ps, hP, tr, am⟩ (Heap.get?_push_size _ rfl) (I.hok.fresh sz) (noFr _ sz) hco
  | none =>
    refine PySem.W.kla_makeFunction (mg := X.mg) (c := c) (P := P) (ps := ps) (closure_ok hfree) I.ok.glob (I.mod.glob.keeps I.bk) hcode (TB.code.keeps I.bk) atP tr hc TB.gP (TB.bm.keeps I.bk) fun c' ctv h' tk kp ge lt rec_ htb => ?_
    obtain ⟨c2, oc, flds, tq, ec, hoc, hd, hv⟩ := rec_
    cases ec
    have sz : s.heap.objs.size ≤ h'.objs.size := Nat.le_trans ge (Nat.le_of_lt lt)
    have nC : H c' = none := I.hok.fresh ge
    have nPC : P ≠ c' := ne_of_none hP nC
    have J := LamX.inv_table (t' := tk) (more := #[rawInt pos.line, rawInt pos.col, .ref c']) (h' := h'.push (PySem.W.kla_obj "<lambda>" (X.env.qual ++ "<lambda>") params body scope (cloFrom X.env.cells scope.names []) ((X.mg "__name__").getD .none) c' ctv)) I hP
      (fun b o hb e => Heap.get?_push_of_some _ (kp b o hb e)) (Heap.get?_push_of_some _ htb) ge ⟨oc, flds, tq, Heap.get?_push_of_some _ hoc, hd, hv⟩
    refine h h'.objs.size c' _ ctv _ _ J (.inr ⟨ps, _, hP, nC, rfl⟩) ⟨_, by rw [upd_ne nPC, upd_same], ?_, fun p' cv hcv => ?_⟩ (Heap.get?_push_size _ rfl) ?_ (noFr _ sz) upd_same
    · have el : (ps ++ #[rawInt pos.line, rawInt pos.col, Value.ref c']).toList = ps.toList ++ [rawInt pos.line, rawInt pos.col, .ref c'] := by simp
      rw [el]
      exact PySem.TriplesOk_snoc _ _ _ _ tr
    · have el : (ps ++ #[rawInt pos.line, rawInt pos.col, Value.ref c']).toList = ps.toList ++ [rawInt pos.line, rawInt pos.col, .ref c'] := by simp
      rw [el] at hcv
      rcases LamX.among_app _ tr hcv with z | rfl
      · obtain ⟨c0, e1, e2⟩ := am p' cv z
        refine ⟨c0, e1, ?_⟩
        have n1 : c0 ≠ c' := ne_of_none e2 nC
        have n2 : c0 ≠ P := fun w => by
          rw [w, hP] at e2
          exact LamX.codeO_ne ps (Option.some.inj e2).symm
        rw [upd_ne n1, upd_ne n2]
        exact e2
      · exact ⟨c', rfl, upd_same⟩
    · have n1 : h'.objs.size ≠ c' := Nat.ne_of_gt lt
      have n2 : h'.objs.size ≠ P := Nat.ne_of_gt (Nat.lt_of_lt_of_le (Heap.lt_size atP) sz)
      rw [upd_ne n1, upd_ne n2]
      exact I.hok.fresh sz
end
/-- what was told of the heap is told behind it -/
theorem MadeL.keep {H H1 : Hp} {P c' : Addr} {q : Str} (m : MadeL H H1 P c' q) (tb : LamX.TabS H P q) : Keep H H1 := by
  obtain ⟨ps, hP, _, _⟩ := tb
  refine ⟨fun b xs e => ?_, fun b o u e => ?_⟩
  · rcases m.at_ e with z | ⟨rfl, _⟩
    · exact z
    · rw [hP] at e
      cases e
  · rcases m.at_ e with z | ⟨rfl, _⟩
    · exact z
    · rw [hP] at e
      cases e
theorem MadeL.post {K : PySem.W.Frag} {ι : List Addr} {S : Sto} {H H1 : Hp} {P c' : Addr} {q : Str} (m : MadeL H H1 P c' q) (hS : StR K ι H S) (h0 : tabIn P q S) (tb1 : LamX.TabS H1 P q) : Post K ι H ι H1 S := by
  obtain ⟨i0, h0⟩ := h0
  have tb := hS.tb i0 P q h0
  have kp := m.keep tb
  obtain ⟨ps, hP, _, _⟩ := tb
  have lst : ∀ (b : Addr) (vs : MO), H b = some vs.ho → H1 b = some vs.ho := fun b vs e => by
    rcases m.at_ e with z | ⟨rfl, _⟩
    · exact z
    · rw [hP] at e
      cases vs <;> cases e
  have dom : ∀ b, H b ≠ none → H1 b ≠ none := fun b e => by
    obtain ⟨o, e⟩ := Option.ne_none_iff_exists'.mp e
    rcases m.at_ e with z | ⟨_, _, z⟩
    · rw [z]
      simp
    · rw [z]
      simp
  refine ⟨List.prefix_refl _, kp, ⟨hS.len, hS.nd, fun n a e => dom a (hS.there n a e), fun n o a e1 e2 => (hS.at_ n o a e1 e2).mono (List.prefix_refl _) kp (lst a), fun n P' q' e => ?_⟩, fun b vs n e => ⟨lst b (.lst vs) e, n⟩, dom⟩
  by_cases hn : n = i0
  · subst hn
    rw [h0] at e
    cases e
    exact tb1
  have ad : ∀ (m P0 : Nat) (q0 : Str), S[m]? = some (.tab P0 q0) → ι[m]? = some P0 := fun m P0 q0 e => by
    have hm : m < ι.length := by rw [hS.len]; exact (List.getElem?_eq_some_iff.mp e).1
    have e1 := List.getElem?_eq_getElem hm
    have z := hS.at_ m _ _ e e1
    generalize ι[m] = a at z e1
    cases z
    exact e1
  have ne : P' ≠ P := fun z => hn (nodup_at hS.nd (ad n P' q' e) (z ▸ ad i0 P q h0))
  obtain ⟨ps, h1, h2, h3⟩ := hS.tb n P' q' e
  have to : ∀ (b : Addr) (o : HO), H b = some o → b ≠ P → H1 b = some o := fun b o e hb => by
    rcases m.at_ e with z | ⟨z, _⟩
    · exact z
    · exact absurd z hb
  refine ⟨ps, to _ _ h1 ne, h2, fun pos cv hc => ?_⟩
  obtain ⟨c, e1, e2⟩ := h3 pos cv hc
  refine ⟨c, e1, to _ _ e2 fun z => ?_⟩
  rw [z, hP] at e2
  exact LamX.codeO_ne _ (Option.some.inj e2).symm
/-! ### the def that calls it -/
section
variable {X : Cx} {E : XK} {k kw : Nat}
/-- the suite: return word(e) -/
theorem pe_word {a : Addr} {oe : Obj} {cls : Value} {d : Option Addr} {pn : List (Addr × Obj)} {W : List (Str × Str)} {xw e : Str} {fw : Addr} {fdw : FuncData} {ew : Str} {i : Nat} {p1 p2 p3 : Pos} (hr : Room kw X.A) (at_ : At X.K X.mg xw fw fdw [ew])
    (hW : ∀ c t, W.lookup c = some t → WordD X.prog X.w X.K X.mg X.base kw fw c t) (hz : Zc cls d oe) (hf : ∃ vs, oe.data = .fields vs) (hg : Gl X xw) (hdb : (xw == ("__debug__" : Str)) = false) (hN : X.N[i]? = some e) (hv : Vis X.env.scope e) (hd : (e == ("__debug__" : Str)) = false) (hcd : (e == ("__classdict__" : Str)) = false)
    (he : starEach [.Name e p1] X.env = (false, eval (.Name e p1) X.env) :: starEach [] X.env) (hpl : (backTo p3 (starEach [] X.env)).any (·.1) = false) :
    PE (X.suite a ((a, oe) :: pn)) (.Call (.Name xw p2) [.Name e p1] [] p3) (fun σ H Q => σ[i]? = some (some (.ref a)) ∧ d = none ∧ ∃ c t, cls = clsV X.mg c ∧ W.lookup c = some t ∧ ∃ ι S, StR X.K ι H S ∧ ∀ H' ι', Post X.K ι H ι' H' S → Q (.str t) H') := by
  refine ⟨fun pins s σ H Q I h => ?_⟩
  obtain ⟨hs, rfl, c, t, rfl, hl, ι, S, hS, hq⟩ := h
  have rd := (pa_cons (X := X.suite a ((a, oe) :: pn)) (pe_var (pos := p1) (i := i) hN hv hd hcd) pa_nil he).run p3 pins s σ H (fun vs H' => vs = [.ref a] ∧ H' = H) I ⟨.ref a, hs, rfl, rfl⟩
  refine wpAny_Call_Name_kw (ld_glob (X := X.suite a ((a, oe) :: pn)) I hg at_.g ?_ hdb)
  refine PySem.W.callWith_K (h₀ := X.base) I.ok.mod.kin at_.kp (thn rd fun us s1 ⟨vs, H1, I1, r1, e1, e2⟩ => ⟨I1.kIn, ?_⟩) he hpl
  subst e1
  rw [e2] at I1
  cases r1 with
  | cons r0 r1 =>
    cases r1
    cases r0
    obtain ⟨g1, g2, g3, g4, g5⟩ := I1.pin (a, oe) (List.mem_append_left _ (List.mem_cons_self ..))
    have pin : L2H.PinOk X.stack H s1 (a, oe) := ⟨g1, g2, fun m => (List.mem_cons.mp (I1.stkSub a m)).elim g3 g4, g5⟩
    refine wpAny_call (codeAny_mono (hW c t hl (X.A.mark (some (.ref a))) X.stack s1 H Q a oe ⟨hr.dp, hr.un⟩ pin hz hf I1.env0 ⟨ι, S, hS, hq⟩) fun r s' hq => ?_)
    match r, hq with
    | .error e, hq => exact hq.elim
    | .ok (.ret u), hq => exact I1.after hq
    | .ok .next, hq => exact hq.elim
    | .ok .brk, hq => exact hq.elim
    | .ok .cont, hq => exact hq.elim
theorem WordD.up {P : Program} {w : World} {K : PySem.W.Frag} {mg : Str → Option Value} {base : Heap} {j k : Nat} {f : Addr} {c t : Str} (h : WordD P w K mg base j f c t) (l : j ≤ k) : WordD P w K mg base k f c t :=
  fun A outer s H Q a oe hr => h A outer s H Q a oe (hr.mono l)
/-- x(lambda: body), x: try: return repr(a()) / except G as e: return word(e) -/
theorem de_said {xs xw xg a e ew : Str} {st : Stmt} {g fw G cL P : Addr} {fd fdw : FuncData} {q : Str} {W : List (Str × Str)} {params : Arguments} {body : Expr} {scope : Scope} {p lpos pos r1 r2 r3 r4 r5 r6 r7 r8 r9 r10 r11 r12 : Pos} {fx : Ex}
    (o : Okx (k + 2) X E) (F : L2.Fun X.K xs xs st g fd) (Sc : FnScope [a, e] [a] (defScope st)) (at_ : At X.K X.mg xs g fd [a])
    (hbd : defBody st = [.Try [.Return (some (.Call (.Name "repr" r1) [.Call (.Name a r2) [] [] r3] [] r4)) r5] [.ExceptHandler (some (.Name xg r6)) (some e) [.Return (some (.Call (.Name xw r7) [.Name e r8] [] r9)) r10] r11] [] [] r12])
    (atw : At X.K X.mg xw fw fdw [ew]) (hW : ∀ c t, W.lookup c = some t → WordD X.prog X.w X.K X.mg X.base kw fw c t) (hkw : kw ≤ k + 1) (mG : X.mg xg = some (.ref G)) (hG : ∀ c t, W.lookup c = some t → PySem.W.exmOne X.K (clsV X.mg c) (.ref G) = some true)
    (mrepr : X.mg "repr" = none) (hcode : X.env.code = .ref cL) (TB : LamX.TabB X.base X.mg cL P) (hq : q = X.env.qual ++ "<lambda>") (hL : LamX.lamSB X.env.scope scope = true)
    (hfx : ∀ (A : Around) (outer : List Env) (s : Shared) (H : Hp) (E : XK) (f c' : Addr), Okx k (LamX.lamCx X A outer s H E scope f c') E → DE (LamX.lamCx X A outer s H E scope f c') E body fx)
    (hdef : defaultsOf params X.env = ([], []) := by rfl) (hb : ∀ (q : Str) (cl : List (Str × Addr)) (pm cv ctv : Value), bindArgs (PySem.W.kla_fn "<lambda>" q params body scope cl pm cv ctv) ⟨[], []⟩ = pure [] := by intros; rfl)
    (hg : Gl X xs := by rfl) (hdb : (xs == ("__debug__" : Str)) = false := by decide) (s1 : (defScope st).names.lookup ("repr" : Str) = some .globalImplicit := by rfl) (s2 : (defScope st).names.lookup xg = some .globalImplicit := by rfl) (s3 : (defScope st).names.lookup xw = some .globalImplicit := by rfl)
    (s4 : (defScope st).names.lookup a = some .local := by rfl) (s5 : (defScope st).names.lookup e = some .local := by rfl) (d1 : (xg == ("__debug__" : Str)) = false := by decide) (d2 : (xw == ("__debug__" : Str)) = false := by decide) (d3 : (a == ("__debug__" : Str)) = false := by decide) (d4 : (e == ("__debug__" : Str)) = false := by decide)
    (d5 : (a == ("__classdict__" : Str)) = false := by decide) (d6 : (e == ("__classdict__" : Str)) = false := by decide) : DE X E (.Call (.Name xs p) [.Lambda params body scope lpos] [] pos) (saidE P q W fx) := by
  refine ⟨fun σ H Q => ∃ σd S ι, EnR X.K ι H σ σd ∧ StR X.K ι H S ∧ Wp X.K X.mg E ι H (relD X.K) (saidE P q W fx σd S) Q, ⟨fun pins s σ H Q I h => ?_⟩, fun σ H σd S ι Q hE hS h => ⟨σd, S, ι, hE, hS, h⟩⟩
  obtain ⟨σd, S, ι, hE, hS, hw⟩ := h
  unfold saidE at hw
  split at hw
  · rename_i h0
    subst hq
    · have tb := hS.tb _ _ _ h0.choose_spec
      have L := LamX.lamS_by hL
      refine wpAny_Call_Name_kw (ld_glob I hg at_.g ?_ hdb)
      refine PySem.W.callWith_K (h₀ := X.base) I.ok.mod.kin at_.kp ?_ (by rfl) (by rfl)
      show wpAny _ _ (spliced ((false, eval (.Lambda params body scope lpos) X.env) :: backTo pos (starEach [] X.env))) _ _ s
      refine Calls.spliced_cons (lam_mk I TB hcode tb hdef (L.has I.ok) fun f c' pm ctv H1 s1' I1 made tb1 hf hn hfr hco => ?_)
      refine Calls.spliced_nil ⟨I1.kIn, ?_⟩
      have P1 := made.post hS h0 tb1
      have hE1 : EnR X.K ι H1 σ σd := hE.mono P1.pre P1.keep
      have hw1 : Wp X.K X.mg E ι H1 (relD X.K) (saidR W (fx σd S)) Q := Wp.re P1 hw
      obtain ⟨oc, od, kV, doc, pmd, an, cdv, ct, osl, rfl, lk, hcd⟩ := F.ex
      have bind := at_.b s1' [.ref f] I1.kIn rfl
      rw [List.append_nil] at bind
      have rc : codeAny (model X.prog X.w) X.A (.call (.ref g) ⟨[.ref f], []⟩) (CR C8.CX0 X.stack X.prog X.w H1 s1' Q C8.E0) s1' := by
        refine LamX.run_ofS (N := [a, e]) (ps := [a]) (us := [.ref f]) (vs := [.ref f]) lk hcd Sc (o.room.mono (Nat.le_refl _)) I1.env0 bind (.cons rfl .nil) rfl fun hr' => ?_
        rw [hbd]
        let Y : Cx := (cxOf C8.CX0 X.prog X.w X.K X.mg X.base [a, e] xs (defScope st) g cdv X.A X.stack s1' H1 C8.E0).nox
        have okz : ∀ (pn : List (Addr × Obj)) (xe : Value → Shared → Prop), PassesOwn (model X.prog X.w) Y.A Y.env xe → Okx (k + 1) (Y.tr pn xe) C8.E0 := fun pn xe own =>
          { calm := rfl, nd := Sc.nd, room := hr', gd := o.gd, pass := passes_call LamX.takes0 (fun _ _ _ _ h => h), take := LamX.takes0, own := own }
        have try_ := ps_try_as (X := Y) (x := xg) (n := e) (c := .ref G) (i := 1) (np := r6) (pos := r12) (pos' := r11) (Wout := fun _ _ _ _ => False)
          (tb := fun W' => fun D σ2 H2 => σ2[0]? = some (some (.ref f)) ∧ H2 c' = some (LamX.CodeO c' (X.env.qual ++ "<lambda>")) ∧ wishE X.K X.mg fx (WE W' σ2) σ H2 fun v H3 => ∃ p, Dp X.K H3 v p ∧ p.showable = true ∧ p.hasDict = false ∧ p.depth ≤ 60 ∧ p.shown.length ≤ sizeLine ∧ D.rt (.str p.shown) H3)
          (ts := fun a' cls d => fun D σ2 H2 => σ2[1]? = some (some (.ref a')) ∧ d = none ∧ ∃ c t, cls = clsV X.mg c ∧ W.lookup c = some t ∧ ∃ ι S, StR X.K ι H2 S ∧ ∀ H' ι', Post X.K ι H2 ι' H' S → D.rt (.str t) H')
          (body := [.Return (some (.Call (.Name "repr" r1) [.Call (.Name a r2) [] [] r3] [] r4)) r5]) (b₀ := .Return (some (.Call (.Name xw r7) [.Name e r8] [] r9)) r10) (suite := [])
          rfl rfl Sc.nd rfl s5 ⟨s2, d1, .inl mG⟩ LamX.takes0 (fun W' pn xe tk own => ?_) (fun a' oe cls d pn hz hf => ?_)
        · refine ⟨_, PSs.nox (pss_one try_), rfl, hco, σd, S, ι, hE1, P1.sto, ?_⟩
          unfold saidR at hw1
          cases hr1 : fx σd S with
          | no =>
            rw [hr1] at hw1
            exact hw1.elim
          | ok d S1 =>
            rw [hr1] at hw1
            intro v H3 ι3 pp rv
            unfold reprD at hw1
            simp only at hw1
            split at hw1
            · rename_i p hp
              split at hw1
              · rename_i hc
                exact ⟨p, deep_dp pp.sto _ rv hp hc.2.1, hc.1, hc.2.1, hc.2.2.1, hc.2.2.2, hw1 _ _ _ pp (.py (.str _))⟩
              · exact hw1.elim
            · exact hw1.elim
          | ex c S1 =>
            rw [hr1] at hw1
            simp only at hw1
            intro H3 ι3 pp
            cases hl : W.lookup c with
            | none =>
              rw [hl] at hw1
              exact hw1.elim
            | some t =>
              rw [hl] at hw1
              exact ⟨true, hG c t hl, fun _ a' na => ⟨rfl, rfl, c, t, rfl, hl, ι3, S1, pp.sto, fun H4 ι4 p4 => hw1 _ _ _ (pp.trans p4) (.py (.str t))⟩, fun z => nomatch z⟩
        · have act := pe_lam (Eg := C8.E0) (W := W') (tb := wishE X.K X.mg fx) (p1 := r2) (p2 := r3) (i := 0) I1 L hf hn hfr (hb _ _ _ _ _) tk hr' o.gd (fun A outer s H E hr2 hg2 => pe_wish (hfx A outer s H E f c' (okx_lam o.nd hr2 hg2))) rfl (.inl s4) d3 d5
          have cal := pe_callB (X := Y.tr pn xe) (x := "repr") (p := r1) (pos := r4) (call_reprD (okz pn xe own)) s1 mrepr rfl (pa_cons act pa_nil) (by decide) (by decide)
          have ret := pss_one (ps_ret (pos := r5) cal)
          refine ⟨fun pins2 s2 σ2 H2 N I2 h => ret.run pins2 s2 σ2 H2 N I2 ?_⟩
          obtain ⟨k1, k2, σ3, S3, ι3, k3, k4, k5⟩ := h
          exact ⟨k1, k2, σ3, S3, ι3, k3, k4, k5.mono fun v H3 ⟨p, e1, e2, e3, e4, e5, e6⟩ => ⟨v, p, rfl, e1, e2, e3, e4, e5, e6⟩⟩
        · have wd := pe_word (X := Y) (a := a') (oe := oe) (cls := cls) (d := d) (pn := pn) (W := W) (e := e) (i := 1) (p1 := r8) (p2 := r7) (p3 := r9) (kw := k + 1) hr' atw (fun c t h => (hW c t h).up hkw) hz hf s3 d2 rfl (.inl s5) d4 d6 rfl rfl
          have ret := pss_one (ps_ret (pos := r10) wd)
          exact ⟨fun pins2 s2 σ2 H2 N I2 h => ret.run pins2 s2 σ2 H2 N I2 h⟩
      refine wpAny_call (codeAny_mono rc fun r s' hq => ?_)
      match r, hq with
      | .error e, hq => exact hq.elim
      | .ok (.ret u), hq => exact I1.after hq
      | .ok .next, hq => exact hq.elim
      | .ok .brk, hq => exact hq.elim
      | .ok .cont, hq => exact hq.elim
  · exact hw.elim
end
end DV

set_option maxHeartbeats 4000000
namespace DV
open PySem PySem.Spec PyProof.Rows L2
/-! The end of a law whose def makes lambdas: its table of code objects is number 0 of the store. -/
section
variable {P : Program} {w : World} {K : PySem.W.Frag} {mg : Str → Option Value} {base : Heap}
/-- dfn, where the code object is known -/
theorem dfnT {x qual : Str} {st : Stmt} {f cL : Addr} {fd : FuncData} {N ps : List Str} {k : Nat} {b : Sx} (F : L2.Fun K x qual st f fd) (hc : fd.code = .ref cL) (S : FnScope N ps (defScope st))
    (hbody : ∀ (A : Around) (outer : List Env) (s : Shared) (H : Hp) (E : XK), Okx k (cxOf (L2.CX P w) P w K mg base N qual (defScope st) f (.ref cL) A outer s H E) E →
      DSs (cxOf (L2.CX P w) P w K mg base N qual (defScope st) f (.ref cL) A outer s H E) E (defBody st) b) : FnD P w K mg base (k + 1) f fd ps (fnF N.length b) := by
  obtain ⟨oc, od, kV, doc, pm, an, cdv, ct, osl, rfl, lk, hcd⟩ := F.ex
  have ec : cdv = .ref cL := hc
  subst ec
  refine ⟨fun A outer s H args us vs Q E hr hg e0 hb r hsp => ?_⟩
  obtain ⟨hl, ι, Sd, ds, hS, rr, hw⟩ := hsp
  have KX : K.In s.heap := e0.mod.kin.keeps fun b o e => (e0.bs b o e).1
  have lim : s.heap.NoLimit := e0.mod.nolimit.keeps fun b o e => (e0.bs b o e).1
  have hkind : ∀ y ∈ ps.zip us, (defScope st).names.lookup y.1 = some .local ∨ ((defScope st).names.lookup y.1 = some .cell ∧ ((cellsFrom (s.heap.objs.size + 1) (defScope st).names []).lookup y.1).isSome = true) := fun ⟨n, v⟩ hy => by
    rcases S.par n (List.of_mem_zip hy).1 with q | q
    · exact .inl q
    · exact .inr ⟨q, PySem.W.cellsFrom_some _ _ _ (.inl q)⟩
  refine codeAny_call_function hr.depth (KX _ _ lk) rfl S.co S.gen rfl (PySem.W.codeRec_of KX hcd) (hb _ _ _ _ ?_)
  refine wpAny_newFunctionEnv_cells S.kind hkind fun env he s1 xx => ?_
  subst he
  refine ⟨lim.keeps xx.toInCall.keep, codeAny_func ?_⟩
  obtain ⟨t, ht, hq⟩ := hbody A outer s H E (okx_def S hr hg)
  have I : Inv (cxOf (L2.CX P w) P w K mg base N qual (defScope st) f (.ref cL) A outer s H E) [] (start N vs) H s1 := inv_start S hr.hd e0 hl r xx
  refine wpAny_mono (ht.run [] s1 (start N vs) H _ I (hq _ _ _ _ _ _ (init_rel N rr) hS (WpF.fn hS hw))) (fun fl s' hs => ?_) fun e s' hs => hs
  have fin : ∀ {σ' : L2.St} {H' : Hp} {v : V} {u : Value}, Inv (cxOf (L2.CX P w) P w K mg base N qual (defScope st) f (.ref cL) A outer s H E) [] σ' H' s' → RelV v u → Q v H' → CE outer P w H s Q u s' :=
    fun {σ' H' v u} J rv q => ⟨v, H', J.os, J.bare, J.base, J.hok, rv, q⟩
  cases fl with
  | ret u =>
    obtain ⟨v, σ', H', J, rv, q⟩ := hs
    exact fin J rv q
  | next =>
    obtain ⟨σ', H', J, q⟩ := hs
    exact fin (v := V.non) (u := Value.none) J rfl q
  | brk =>
    obtain ⟨_, _, _, q⟩ := hs
    exact False.elim q
  | cont =>
    obtain ⟨_, _, _, q⟩ := hs
    exact False.elim q
end
end DV

set_option maxHeartbeats 4000000
namespace L2
open PySem PySem.Spec PyProof.Rows
section
variable {X : Cx}
/-- lists put together: a new list -/
theorem op_catN : OpR X (binaryOp .Add) (fun x y H Q => ∃ l b xs zs, x = V.ref l ∧ y = V.ref b ∧ SqL X.K H l xs ∧ SqL X.K H b zs ∧ xs.length + zs.length ≤ sizeLine ∧ ∀ p, H p = none → Q (.ref p) (upd H p (.lst (xs ++ zs)))) := by
  intro pins s σ H x y v u Q I rx ry h
  obtain ⟨l, b, xs, zs, rfl, rfl, hl, hb, hz, q⟩ := h
  cases rx
  cases ry
  obtain ⟨us, ru, ⟨⟨c1, d1, t1, s1⟩, m1, e1, f1, g1, h1⟩, _⟩ := I.list hl
  obtain ⟨ws, rw_, ⟨⟨c2, d2, t2, s2⟩, m2, e2, f2, g2, h2⟩, _⟩ := I.list hb
  simp only at f1 g1 h1 f2 g2 h2
  subst f1 g1 h1 f2 g2 h2
  have sz : us.toArray.size + ws.toArray.size ≤ sizeLine := by
    rw [List.size_toArray, List.size_toArray, ← ru.length, ← rw_.length]
    exact hz
  refine concat_meets ⟨_, e1, rfl⟩ ⟨_, e2, rfl⟩ noFill_list_add seq_list_add PySem.F.slot_list_add PySem.F.entry_list_add (PySem.F.args_list_add_2 _ _) (list_addW l b us.toArray ws.toArray m1 m2 none none s1 s2 sz) ⟨e1, e2, ?_⟩
  have ea : us.toArray ++ ws.toArray = (us ++ ws).toArray := by simp
  rw [ea]
  exact ⟨.ref _, _, I.lnew (t' := s.toks) (ru.append rw_) (by rw [List.length_append]; exact hz), rfl, q _ I.fresh⟩
/-- a text times a whole number of 2 and more -/
theorem op_repS : OpR X (binaryOp .Mult) (fun x y H Q => ∃ (z : Str) (k : Int), x = V.str z ∧ y = V.int k ∧ 2 ≤ k ∧ k ≤ 1000 ∧ 1 ≤ z.length ∧ z.length ≤ 1000 ∧ Q (.str ⟨(List.replicate k.toNat z.cps).foldl (· ++ ·) #[]⟩) H) := by
  intro pins s σ H x y v u Q I rx ry h
  obtain ⟨z, k, rfl, rfl, k0, k1, z0, z1, q⟩ := h
  obtain ⟨tz, rfl⟩ := rx
  obtain ⟨tk, rfl⟩ := ry
  have n1 : ¬ k < 1 := by omega
  have ne : (k == 1 || z.length == 0) = false := by
    have a1 : (k == 1) = false := beq_eq_false_iff_ne.mpr (by omega)
    have a2 : (z.length == 0) = false := beq_eq_false_iff_ne.mpr (by omega)
    rw [a1, a2]
    rfl
  refine PySem.P.mul_str ?_ (fun _ _ => ?_) (fun _ _ => ?_) ?_
  · have a1 : ¬ k < -(2 ^ 63 : Int) := by omega
    have a2 : ¬ k ≥ 2 ^ 63 := by omega
    rw [decide_eq_false a1, decide_eq_false a2]
    rfl
  · have a1 : (1000 : Int) ≤ (2 ^ 63 - 1) / k := Int.le_ediv_of_mul_le (by omega) (by omega)
    omega
  · have : z.length * k.toNat ≤ 1000 * 1000 := Nat.mul_le_mul z1 (by omega)
    have sl : (sizeLine : Nat) = 16777216 := sizeLine_eq
    exact decide_eq_false (by omega)
  · rw [if_neg n1, ne, if_neg Bool.false_ne_true]
    refine ⟨?_, .str _, H, I.tok _, ⟨_, rfl⟩, q⟩
    show (List.foldl (fun x1 x2 => x1 ++ x2) #[] (List.replicate k.toNat z.cps)).size ≤ sizeLine
    have sz : ∀ (m : Nat) (acc : Array Nat), (List.foldl (fun x1 x2 => x1 ++ x2) acc (List.replicate m z.cps)).size = acc.size + m * z.cps.size := by
      intro m
      induction m with
      | zero => simp
      | succ m ih =>
        intro acc
        rw [List.replicate_succ, List.foldl_cons, ih, Array.size_append, Nat.succ_mul]
        omega
    rw [sz]
    have : k.toNat * z.cps.size ≤ 1000 * 1000 := Nat.mul_le_mul (by omega) z1
    have sl : (sizeLine : Nat) = 16777216 := sizeLine_eq
    simp
    omega
end
end L2
namespace DV
open PySem PySem.Spec PyProof.Rows L2
section
variable {X : Cx} {E : XK} {a b e : Expr} {f g : Ex} {pos p1 p2 p3 : Pos}
/-- a text times 2 and more -/
def mulSD : D → D → Sto → R D
  | .py (.str z), .py (.int k), S => if 2 ≤ k ∧ k ≤ 1000 ∧ 1 ≤ z.length ∧ z.length ≤ 1000 then .ok (.py (.str ⟨(List.replicate k.toNat z.cps).foldl (· ++ ·) #[]⟩)) S else .no
  | _, _, _ => .no
theorem do_mulS : DOp X (binaryOp .Mult) mulSD := by
  refine ⟨_, op_repS (X := X), fun x y d e H S ι E Q hS rx ry hw => ?_⟩
  unfold mulSD at hw
  split at hw
  · split at hw
    · rename_i h
      exact ⟨_, _, str_of rx, int_of ry, h.1, h.2.1, h.2.2.1, h.2.2.2, hw _ _ _ (.refl hS) (.py (.str _))⟩
    · exact hw.elim
  · exact hw.elim
/-- a text turned about -/
def revS (a : Ex) : Ex := fun σ S => (a σ S).bind fun x S1 => match x with
  | .py (.str z) => if z.length ≤ sizeLine then .ok (.py (.str ⟨z.cps.toList.reverse.toArray⟩)) S1 else .no
  | _ => .no
/-- the items of a list -/
def lstOf (S : Sto) : D → Option (List D)
  | .py (.list ds) => some (ds.map .py)
  | .obj n => match S[n]? with
    | some (.lst ds) => some ds
    | _ => none
  | _ => none
theorem lst_of {K : PySem.W.Frag} {ι : List Addr} {H : Hp} {S : Sto} {v : V} {d : D} {ds : List D} (hS : StR K ι H S) (r : Rd K ι H v d) (h : lstOf S d = some ds) : ∃ a vs, v = .ref a ∧ SqL K H a vs ∧ RdAll K ι H vs ds := by
  cases r with
  | py r =>
    cases r with
    | lst hf hz hs =>
      cases h
      exact ⟨_, _, rfl, hf.sq, .of_pys hs⟩
    | _ => cases h
  | raw a => cases h
  | obj e =>
    rename_i n a
    simp only [lstOf] at h
    split at h
    · rename_i ds' he
      cases h
      cases hS.at_ _ _ _ he e with
      | lst ha rr => exact ⟨a, _, rfl, .of ha, rr⟩
    · cases h
/-- a new list: two lists put together -/
def catL (a b : Ex) : Ax := fun σ S => (a σ S).bind fun x S1 => (b σ S1).bind fun y S2 => match lstOf S2 x, lstOf S2 y with
  | some xs, some ys => if xs.length + ys.length ≤ sizeLine then .ok (xs ++ ys) S2 else .no
  | _, _ => .no
theorem dl_cat (ha : DE X E a f) (hb : DE X E b g) : DL X E (.BinOp a .Add b pos) (catL f g) := by
  obtain ⟨t, p, q⟩ := ha
  obtain ⟨u, pu, qu⟩ := hb
  refine ⟨_, pe_op (op_catN (X := X)) p pu, fun σ H σd S ι Q hE hS h => ?_⟩
  refine q σ H σd S ι _ hE hS (Wp.bind0 h fun d S1 _ v H1 ι1 p1 r1 h1 => ?_)
  refine qu σ H1 σd S1 ι1 _ (hE.mono p1.pre p1.keep) p1.sto ?_
  cases hg : g σd S1 with
  | no => rw [hg] at h1; exact h1.elim
  | ex c S2 => rw [hg] at h1; exact Wp.re (rel := relL X.K H) (Q := Q) p1 (show Wp X.K X.mg E ι H (relL X.K H) (R.ex c S2) Q from h1)
  | ok e S2 =>
    rw [hg, bind_ok] at h1
    intro w H2 ι2 p2 r2
    split at h1
    · rename_i xs ys hx hy
      split at h1
      · rename_i hz
        obtain ⟨l, vs, rfl, hl, al⟩ := lst_of p2.sto (r1.mono p2.pre p2.keep) hx
        obtain ⟨m, ws, rfl, hm, bl⟩ := lst_of p2.sto r2 hy
        have hz' : vs.length + ws.length ≤ sizeLine := by rw [al.length, bl.length]; exact hz
        refine ⟨l, m, vs, ws, rfl, rfl, hl, hm, hz', fun o no => ?_⟩
        have pp := p1.trans p2
        refine h1 _ _ _ (pp.trans (.new p2.sto no)) ⟨o, vs ++ ws, ?_, rfl, upd_same, p2.sto.notin no, by rw [List.length_append]; exact hz', RdAll.mono (List.prefix_refl _) (.new no) (Paired.app al bl)⟩
        cases q0 : H o with
        | none => rfl
        | some u => exact absurd no (pp.dom o (by rw [q0]; simp))
      · exact h1.elim
    · exact h1.elim
/-- a new list: a list so many times -/
def repL (a b : Ex) : Ax := fun σ S => (a σ S).bind fun x S1 => (b σ S1).bind fun y S2 => match lstOf S2 x, y with
  | some xs, .py (.int k) => if -1000 ≤ k ∧ k ≤ 1000 ∧ xs.length ≤ 1000 then .ok (List.replicate k.toNat xs).flatten S2 else .no
  | _, _ => .no
/-- {} and {x: n} -/
theorem de_dict0 : DE X E (.Dict [] [] pos) (cE (.dict [])) := by
  refine ⟨_, pe_frzD pe_dnewK, fun σ H σd S ι Q hE hS h => ?_⟩
  intro a na
  refine ⟨a, [], rfl, upd_same, fun o => ?_⟩
  rw [upd_upd]
  exact h _ _ _ (.new hS na) (.py (.dic (kvs := []) (ds := []) upd_same (by simp) .nil))
def dict1E (i : Nat) (n : Int) : Ex := fun σ S => match σ[i]? with
  | some (some (.py (.str z))) => .ok (.py (.dict [(.str z, .int n)])) S
  | _ => .no
theorem de_dict1 (i : Nat) {x : Str} {n : Int} {j : Nat} (hN : X.N[i]? = some x := by rfl) (hv : Vis X.env.scope x := by first | exact Or.inl rfl | exact Or.inr (Or.inl rfl) | exact Or.inr (Or.inr rfl)) (hd : (x == ("__debug__" : Str)) = false := by decide)
    (hcd : (x == ("__classdict__" : Str)) = false := by decide) : DE X E (.Dict [some (.Name x p1)] [.Constant (.int n) j p2] pos) (dict1E i n) := by
  refine ⟨_, pe_frzD (pe_disp (pps_cons (pe_var hN hv hd hcd) pe_int pps_nil) rfl rfl (by simp) (by simp)), fun σ H σd S ι Q hE hS h => ?_⟩
  unfold dict1E at h
  split at h
  · rename_i z hz
    obtain ⟨v, hv, rv⟩ := hE.at_ i _ hz
    intro a na
    refine ⟨v, hv, upd_same, [(.inr z, .int n)], ?_, by simp, a, [(.inr z, .int n)], rfl, upd_same, fun o => ?_⟩
    · rw [str_of rv]
      rfl
    · rw [upd_upd, upd_upd]
      exact h _ _ _ (.new hS na) (.py (.dic (kvs := [(.inr z, .int n)]) (ds := [.int n]) upd_same (by simp [sizeLine_eq]) (.cons (.int n) .nil)))
  · exact h.elim
/-- is an error of the class c one of the class C -/
def isW (c C : String) : Bool := C == "ValueError" || c == C
@[simp] theorem isaE_raw {a : Nat} {b : Bool} {r : En} {S : Sto} : isaE a 0 b (some (.raw a) :: r) S = .ok (.py (.bool b)) S := by simp [isaE]
end
end DV

set_option maxHeartbeats 4000000
namespace DV
open PySem
/-! Lists of truths, counted and gone through. -/
theorem bools_lay : ∀ bs : List Bool, PyData.canLayAll0 (bs.map PyData.bool) = true ∧ PyData.depthAll (bs.map PyData.bool) = 0
  | [] => ⟨PyData.canLayAll0.eq_1, PyData.depthAll.eq_1⟩
  | x :: xs => by
    rw [List.map_cons, PyData.canLayAll0.eq_2, PyData.depthAll.eq_2, (bools_lay xs).1, (bools_lay xs).2, PyData.canLay0.eq_2, PyData.depth.eq_5]
    exact ⟨rfl, rfl⟩
theorem bools_shaped (bs : List Bool) : SeqAt.shaped (.list (bs.map PyData.bool)) = true := by
  unfold SeqAt.shaped
  rw [PyData.canLay0.eq_5, (bools_lay bs).1, PyData.depth.eq_1, (bools_lay bs).2]
  rfl
theorem bool_shaped (b : Bool) : SeqAt.shaped (.bool b) = true := by
  unfold SeqAt.shaped
  rw [PyData.canLay0.eq_2, PyData.depth.eq_5]
  rfl
theorem bool_eqv (a b : Bool) : PyData.eqv (.bool a) (.bool b) = (a == b) := by cases a <;> cases b <;> simp [PyData.eqv]
theorem countD_bools (bs : List Bool) (k : Bool) (n : Nat) (h : bs.count k = n) (S : Sto) : countD (.py (.list (bs.map PyData.bool))) [.py (.bool k)] S = .ok (.py (.int (n : Nat))) S := by
  subst h
  unfold countD
  have e1 : deep S 8 (.py (.list (bs.map PyData.bool))) = some (.list (bs.map PyData.bool)) := rfl
  have e2 : deep S 8 (.py (.bool k)) = some (.bool k) := rfl
  simp only [e1, e2]
  rw [if_pos ⟨bools_shaped bs, bool_shaped k⟩]
  have e : (bs.map PyData.bool).countP (fun z => PyData.eqv z (.bool k)) = bs.count k := by
    rw [List.countP_map, List.count]
    congr 1
    first | done | (funext a; exact bool_eqv a k)
  rw [e]
theorem indexD_bools (bs : List Bool) (k : Bool) (j : Nat) (h : bs.findIdx? (· == k) = some j) (S : Sto) : indexD (.py (.list (bs.map PyData.bool))) [.py (.bool k)] S = .ok (.py (.int (j : Nat))) S := by
  unfold indexD
  have e1 : deep S 8 (.py (.list (bs.map PyData.bool))) = some (.list (bs.map PyData.bool)) := rfl
  have e2 : deep S 8 (.py (.bool k)) = some (.bool k) := rfl
  simp only [e1, e2]
  rw [if_pos ⟨bools_shaped bs, bool_shaped k⟩]
  have e : placeOf (bs.map PyData.bool) (.bool k) = some j := by
    unfold placeOf
    rw [List.findIdx?_map, ← h]
    congr 1
    first | done | (funext a; exact bool_eqv a k)
  rw [e]
theorem sl_word : sizeLine = 16777216 := sizeLine_eq
theorem le_lev {a b m : Nat} (h : a ≤ b) : a ≤ Nat.add b m := Nat.le_trans h (Nat.le_add_right b m)
end DV

set_option maxHeartbeats 4000000
namespace DV
open PySem PySem.Spec PyProof.Rows L2
/-! The text of a thing in which there are dicts. -/
mutual
inductive Dd (K : PySem.W.Frag) (H : Hp) : V → PyData → Prop
  | non : Dd K H .non .none
  | bl (b : Bool) : Dd K H (.bl b) (.bool b)
  | int (i : Int) : Dd K H (.int i) (.int i)
  | str (x : Str) : Dd K H (.str x) (.str x)
  | lst {a : Addr} {xs : List V} {ds : List PyData} : SqL K H a xs → DdAll K H xs ds → Dd K H (.ref a) (.list ds)
  | tup {a : Addr} {xs : List V} {ds : List PyData} : SqT K H a xs → DdAll K H xs ds → Dd K H (.ref a) (.tuple ds)
  | dic {a : Addr} {o : Obj} {kvs : List (Key × V)} {ds : List PyData} : H a = some (.frz o (.dK kvs)) → DdAll K H (kvs.map Prod.snd) ds → Dd K H (.ref a) (.dict ((kvs.map fun kv => keyP kv.1).zip ds))
inductive DdAll (K : PySem.W.Frag) (H : Hp) : List V → List PyData → Prop
  | nil : DdAll K H [] []
  | cons {v : V} {vs : List V} {d : PyData} {ds : List PyData} : Dd K H v d → DdAll K H vs ds → DdAll K H (v :: vs) (d :: ds)
end
section
variable {K : PySem.W.Frag} {H : Hp}
mutual
theorem Pp.dd : ∀ {v : V} {d : PyData}, Pp K H v d → Dd K H v d
  | _, _, .non => .non
  | _, _, .bl b => .bl b
  | _, _, .int i => .int i
  | _, _, .str x => .str x
  | _, _, .lst h _ hs => .lst h.sq (PpAll.dd hs)
  | _, _, .tup h _ hs => .tup h.sq (PpAll.dd hs)
  | _, _, .dic h _ hs => .dic h (PpAll.dd hs)
theorem PpAll.dd : ∀ {vs : List V} {ds : List PyData}, PpAll K H vs ds → DdAll K H vs ds
  | _, _, .nil => .nil
  | _, _, .cons h hs => .cons (Pp.dd h) (PpAll.dd hs)
end
mutual
theorem deep_dd {ι : List Addr} {S : Sto} (hS : StR K ι H S) : ∀ (n : Nat) {v : V} {d : D} {p : PyData}, Rd K ι H v d → deep S n d = some p → Dd K H v p
  | 0, _, _, _, _, h => by cases h
  | n + 1, v, .py d, p, r, h => by
    cases r with
    | py r => cases h; exact r.dd
  | n + 1, v, .raw m, p, r, h => by cases h
  | n + 1, v, .obj m, p, r, h => by
    cases r with
    | obj e =>
      simp only [deep] at h
      split at h
      · rename_i ds hd
        rw [Option.map_eq_some_iff] at h
        obtain ⟨ps, h1, h2⟩ := h
        subst h2
        cases hS.at_ _ _ _ hd e with
        | lst ha rr => exact .lst (.of ha) (deep_ddall hS n rr h1)
      · cases h
theorem deep_ddall {ι : List Addr} {S : Sto} (hS : StR K ι H S) (n : Nat) : ∀ {vs : List V} {ds : List D} {ps : List PyData}, RdAll K ι H vs ds → ds.mapM (deep S n) = some ps → DdAll K H vs ps
  | _, [], _, .nil, h => by
    simp at h
    subst h
    exact .nil
  | _, d :: ds, ps, .cons r rs, h => by
    rw [List.mapM_cons] at h
    simp only [Option.bind_eq_bind, Option.bind_eq_some_iff, Option.pure_def, Option.some.injEq] at h
    obtain ⟨p, h1, qs, h2, rfl⟩ := h
    exact .cons (deep_dd hS n r h1) (deep_ddall hS n rs h2)
end
end
section
variable {X : Cx} {pins : List (Addr × Obj)} {σ : L2.St} {H : Hp} {s : Shared}
theorem keys_show {P : Program} {w : World} {h : Heap} : ∀ {es : List DictEntry} {vs : List (Key × Value)} {kvs : List (Key × V)}, Pairs (mixKind P w) es vs → KV kvs vs →
    Vals (kvs.map Prod.snd) (es.map (·.val)) ∧ (∃ as, ReadsAll h (es.map (·.key)) (kvs.map fun kv => keyP kv.1) as) ∧
    (PyData.showableAll (kvs.map fun kv => keyP kv.1) = true → (∀ t ∈ PyData.shownAll (kvs.map fun kv => keyP kv.1), t.length ≤ sizeLine) → ∀ d, ReprAllK P w [] h d (es.map (·.key)) (PyData.shownAll (kvs.map fun kv => keyP kv.1)))
  | _, _, _, .nil, .nil => ⟨.nil, ⟨_, .nil⟩, fun _ _ d => by
    show ReprAllK P w [] h d [] (PyData.shownAll [])
    rw [PyData.shownAll.eq_1]
    exact .nil⟩
  | _, _, _, .cons hk hv hs, .cons r rs => by
    obtain ⟨h1, ⟨as, h2⟩, h3⟩ := keys_show hs rs
    obtain ⟨e1, e2⟩ := r
    rename_i e kv es vs p kvs
    refine ⟨.cons (by show RelV p.2 e.val; rw [hv]; exact e2) h1, ?_⟩
    rw [← e1, mixKind_is] at hk
    rcases keyIs_shape hk with ⟨i, t, hp, he⟩ | ⟨x, t, hp, he⟩
    · obtain ⟨p1, p2⟩ := p
      replace hp : p1 = _ := hp
      subst hp
      refine ⟨⟨_, .cons (by show Reads h e.key (.int i) _; rw [he]; exact .int i t) h2⟩, fun q1 q2 d => ?_⟩
      rw [List.map_cons, PyData.showableAll.eq_2] at q1
      obtain ⟨q3, q4⟩ := Bool.and_eq_true_iff.mp q1
      have q5 : ∀ t ∈ PyData.shownAll (kvs.map fun kv => keyP kv.1), t.length ≤ sizeLine := fun t ht => q2 t (by rw [List.map_cons, PyData.shownAll.eq_2]; exact List.mem_cons_of_mem _ ht)
      rw [List.map_cons, List.map_cons, PyData.shownAll.eq_2]
      refine .cons ?_ (h3 q4 q5 d)
      rw [he]
      simp only [keyP, PyData.shown]
      exact .of_is (ReprIs.int t (by simpa [keyP, PyData.showable] using q3)) _ _ _
    · obtain ⟨p1, p2⟩ := p
      replace hp : p1 = _ := hp
      subst hp
      refine ⟨⟨_, .cons (by show Reads h e.key (.str x) _; rw [he]; exact .str x t) h2⟩, fun q1 q2 d => ?_⟩
      rw [List.map_cons, PyData.showableAll.eq_2] at q1
      obtain ⟨q3, q4⟩ := Bool.and_eq_true_iff.mp q1
      have q5 : ∀ t ∈ PyData.shownAll (kvs.map fun kv => keyP kv.1), t.length ≤ sizeLine := fun t ht => q2 t (by rw [List.map_cons, PyData.shownAll.eq_2]; exact List.mem_cons_of_mem _ ht)
      have q6 := q2 (keyP (.inr x)).shown (by rw [List.map_cons, PyData.shownAll.eq_2]; exact List.mem_cons_self ..)
      rw [List.map_cons, List.map_cons, PyData.shownAll.eq_2]
      refine .cons ?_ (h3 q4 q5 d)
      rw [he]
      simp only [keyP, PyData.shown] at q6 ⊢
      exact .of_is (ReprIs.str x t q6) _ _ _
theorem zip_fst {α β : Type} {as : List α} {bs : List β} (h : as.length = bs.length) : (as.zip bs).map (·.1) = as := List.map_fst_zip (by omega)
theorem zip_snd {α β : Type} {as : List α} {bs : List β} (h : as.length = bs.length) : (as.zip bs).map (·.2) = bs := List.map_snd_zip (by omega)
theorem DdAll.length {K : PySem.W.Frag} {H : Hp} : ∀ {vs : List V} {ds : List PyData}, DdAll K H vs ds → vs.length = ds.length
  | _, _, .nil => rfl
  | _, _, .cons _ hs => by rw [List.length_cons, List.length_cons, DdAll.length hs]
mutual
theorem Dd.ok (I : Inv X pins σ H s) : ∀ {v : V} {d : PyData} {u : Value}, Dd X.K H v d → RelV v u → (∃ as, Reads s.heap u d as) ∧
    (d.showable = true → d.shown.length ≤ sizeLine → ∃ bs, ReadAtMost s.heap d.depth bs ∧ ReprK X.prog X.w bs s.heap d.depth u d.shown)
  | _, _, _, .non, r => by
    cases r
    exact ⟨⟨_, .none⟩, fun _ _ => ⟨[], (fun _ h => nomatch h), by simp only [PyData.shown]; exact .of_is ReprIs.none _ _ _⟩⟩
  | _, _, _, .bl b, r => by
    cases r
    exact ⟨⟨_, .bool b⟩, fun _ _ => ⟨[], (fun _ h => nomatch h), by simp only [PyData.shown]; exact .of_is (ReprIs.bool b) _ _ _⟩⟩
  | _, _, _, .int i, r => by
    obtain ⟨t, rfl⟩ := r
    exact ⟨⟨_, .int i t⟩, fun hs _ => ⟨[], (fun _ h => nomatch h), by simp only [PyData.shown]; exact .of_is (ReprIs.int t (by simpa [PyData.showable] using hs)) _ _ _⟩⟩
  | _, _, _, .str x, r => by
    obtain ⟨t, rfl⟩ := r
    exact ⟨⟨_, .str x t⟩, fun _ hz => ⟨[], (fun _ h => nomatch h), by simp only [PyData.shown]; exact .of_is (ReprIs.str x t (by simpa only [PyData.shown] using hz)) _ _ _⟩⟩
  | _, _, _, .lst (a := a) (ds := ds) hs ha, r => by
    cases r
    obtain ⟨its, rv, ⟨o, n, ho, hc, _, hd⟩, _⟩ := I.list hs
    obtain ⟨⟨as, hr⟩, hK⟩ := DdAll.ok I ha rv
    have r : Reads s.heap (.ref a) (.list ds) _ := .list ho hc hd hr
    refine ⟨⟨_, r⟩, fun hs hz => ?_⟩
    have hz' : (listText (PyData.shownAll ds)).length ≤ sizeLine := by simpa only [PyData.shown] using hz
    obtain ⟨bs, hb, hk⟩ := hK (by simpa [PyData.showable] using hs) (fun t ht => Nat.le_trans (listText_mem_le ht) hz')
    have hna : a ∉ bs := not_mem_of_deeper r (by simp only [PyData.depth]; omega) hb
    refine ⟨a :: bs, ReadAtMost.cons r (by simp only [PyData.depth]; omega) hb, ?_⟩
    simp only [PyData.depth, PyData.shown]
    cases its with
    | nil =>
      cases ha with
      | nil =>
        simp only [PyData.shownAll, listText_nil]
        exact ReprK.listEmpty ho hc hd
      | cons => cases rv
    | cons x l => exact ReprK.list ho hc hd hna (by simpa using hk.length_eq) (fun i y e => hk.item i y (by simpa using e))
  | _, _, _, .tup (a := a) (ds := ds) hs ha, r => by
    cases r
    obtain ⟨its, rv, ⟨o, ho, hc, n, hd⟩, _⟩ := I.tuple hs
    obtain ⟨⟨as, hr⟩, hK⟩ := DdAll.ok I ha rv
    have r : Reads s.heap (.ref a) (.tuple ds) _ := .tuple ho hc hd hr
    refine ⟨⟨_, r⟩, fun hs hz => ?_⟩
    have hz' : (tupleText (PyData.shownAll ds)).length ≤ sizeLine := by simpa only [PyData.shown] using hz
    obtain ⟨bs, hb, hk⟩ := hK (by simpa [PyData.showable] using hs) (fun t ht => Nat.le_trans (tupleText_mem_le ht) hz')
    have hna : a ∉ bs := not_mem_of_deeper r (by simp only [PyData.depth]; omega) hb
    refine ⟨a :: bs, ReadAtMost.cons r (by simp only [PyData.depth]; omega) hb, ?_⟩
    simp only [PyData.depth, PyData.shown]
    exact ReprK.tuple ho hc hd hna hk
  | _, _, _, .dic (a := a) (o := o) (kvs := kvs) (ds := ds) he ha, r => by
    cases r
    obtain ⟨_, hsys, vs, rel, ⟨o, es, ep, ho, hc, hd, _, hp, _⟩⟩ := dk_rd I.hok (.inr ⟨o, he⟩)
    obtain ⟨rv, ⟨as, hrk⟩, hkk⟩ := keys_show (h := s.heap) hp rel
    obtain ⟨⟨bs, hr⟩, hK⟩ := DdAll.ok I ha rv
    have hl : (kvs.map fun kv => keyP kv.1).length = ds.length := by rw [List.length_map, ← ha.length, List.length_map]
    generalize hD : (kvs.map fun kv => keyP kv.1).zip ds = D
    have e1 : D.map (·.1) = kvs.map fun kv => keyP kv.1 := by rw [← hD]; exact zip_fst hl
    have e2 : D.map (·.2) = ds := by rw [← hD]; exact zip_snd hl
    rw [← e1] at hrk hkk
    rw [← e2] at hr hK
    have r : Reads s.heap (.ref a) (.dict D) _ := .dict ho hc.1 hd hrk hr
    refine ⟨⟨_, r⟩, fun hs hz => ?_⟩
    have hz' : (dictText (PyData.shownKv D)).length ≤ sizeLine := by simpa only [PyData.shown] using hz
    obtain ⟨hs1, hs2⟩ := PyData.showableKv_split D (by simpa [PyData.showable] using hs)
    have k1 := hkk hs1 (fun t ht => let ⟨p, hp, hl⟩ := PyData.shownKv_key_le D t ht; Nat.le_trans hl (Nat.le_trans (dictText_mem_le hp) hz')) (PyData.depthKv D)
    obtain ⟨b2, hb2, k2⟩ := hK hs2 (fun t ht => let ⟨p, hp, hl⟩ := PyData.shownKv_val_le D t ht; Nat.le_trans hl (Nat.le_trans (dictText_mem_le hp) hz'))
    have hb : ReadAtMost s.heap (PyData.depthKv D) b2 := hb2.mono (PyData.depthAll_vals_le D)
    have hna : a ∉ b2 := not_mem_of_deeper r (by simp only [PyData.depth]; omega) hb
    refine ⟨a :: b2, ReadAtMost.cons r (by simp only [PyData.depth]; omega) hb, ?_⟩
    simp only [PyData.depth, PyData.shown, PyData.shownKv_eq]
    exact ReprK.dict ho hc.1 hd hsys hna (ReprEntriesK.of_two es.toList _ _ (k1.more_le (as := []) (as' := b2) (fun b hb => absurd hb List.not_mem_nil) (Nat.le_refl _)) (k2.more_le (fun b hb => hb) (PyData.depthAll_vals_le D)))
theorem DdAll.ok (I : Inv X pins σ H s) : ∀ {vs : List V} {ds : List PyData} {us : List Value}, DdAll X.K H vs ds → Vals vs us → (∃ as, ReadsAll s.heap us ds as) ∧
    (PyData.showableAll ds = true → (∀ t ∈ PyData.shownAll ds, t.length ≤ sizeLine) → ∃ bs, ReadAtMost s.heap (PyData.depthAll ds) bs ∧ ReprAllK X.prog X.w bs s.heap (PyData.depthAll ds) us (PyData.shownAll ds))
  | _, _, _, .nil, r => by
    cases r
    exact ⟨⟨_, .nil⟩, fun _ _ => ⟨[], (fun _ h => nomatch h), by simp only [PyData.shownAll]; exact .nil⟩⟩
  | _, _, _, .cons (d := d) (ds := ds) h hs, r => by
    cases r with
    | cons r1 r2 =>
      obtain ⟨⟨as, q1⟩, k1⟩ := Dd.ok I h r1
      obtain ⟨⟨bs, q2⟩, k2⟩ := DdAll.ok I hs r2
      refine ⟨⟨_, .cons q1 q2⟩, fun hs hz => ?_⟩
      have hs' : d.showable = true ∧ PyData.showableAll ds = true := by simpa [PyData.showableAll] using hs
      obtain ⟨b1, hb1, k1⟩ := k1 hs'.1 (hz _ (by simp only [PyData.shownAll]; exact List.mem_cons_self ..))
      obtain ⟨b2, hb2, k2⟩ := k2 hs'.2 (fun t ht => hz t (by simp only [PyData.shownAll]; exact List.mem_cons_of_mem _ ht))
      refine ⟨b1 ++ b2, ?_, ?_⟩
      · simp only [PyData.depthAll]
        exact (hb1.mono (Nat.le_max_left _ _)).append (hb2.mono (Nat.le_max_right _ _))
      · simp only [PyData.depthAll, PyData.shownAll]
        exact .cons ((k1.more fun b hb => List.mem_append_left _ hb).level_le (Nat.le_max_left _ _)) (k2.more_le (fun b hb => List.mem_append_right _ hb) (Nat.le_max_right _ _))
end
theorem shows_dd (I : Inv X pins σ H s) {a : Addr} {d : PyData} (r : Dd X.K H (.ref a) d) (hs : d.showable = true) (hsz : d.shown.length ≤ sizeLine) : ∃ T idr, ShowsBy X.prog X.w s.heap a d T idr := by
  cases r with
  | lst hq ha =>
    rename_i xs ds
    obtain ⟨its, rv, ⟨o, n, ho, hc, _, hd⟩, _⟩ := I.list hq
    obtain ⟨⟨as, hr⟩, hK⟩ := DdAll.ok I ha rv
    have r : Reads s.heap (.ref a) (.list ds) _ := .list ho hc hd hr
    have hz' : (listText (PyData.shownAll ds)).length ≤ sizeLine := by simpa only [PyData.shown] using hsz
    obtain ⟨bs, hb, hk⟩ := hK (by simpa [PyData.showable] using hs) (fun t ht => Nat.le_trans (listText_mem_le ht) hz')
    have hna : a ∉ bs := not_mem_of_deeper r (by simp only [PyData.depth]; omega) hb
    refine ⟨"list", "list.__repr__", F.slot_list_repr.toG, F.slot_list_str, F.slot_list_format, fun s hk0 => ⟨o, hk0 _ _ ho, hc⟩, fun A E s Q hg hu hk0 hQ => ?_⟩
    simp only [PyData.depth] at hu
    simp only [PyData.shown] at hQ
    cases its with
    | nil =>
      cases ha with
      | nil =>
        simp only [PyData.shownAll, listText_nil] at hQ
        exact call_list_repr_empty ⟨o, hk0 _ _ ho, hc⟩ (hk0 _ _ ho) hd (hQ s.heap _ _ fun _ _ e => e)
      | cons => cases rv
    | cons x l => exact call_list_reprK ho hc hd hna (by simpa using hk.length_eq) (fun i y e => hk.item i y (by simpa using e)) hg (fun b _ => Clear.nil b) hu hk0 hQ hz'
  | tup hq ha =>
    rename_i xs ds
    obtain ⟨its, rv, ⟨o, ho, hc, n, hd⟩, _⟩ := I.tuple hq
    obtain ⟨⟨as, hr⟩, hK⟩ := DdAll.ok I ha rv
    have r : Reads s.heap (.ref a) (.tuple ds) _ := .tuple ho hc hd hr
    have hz' : (tupleText (PyData.shownAll ds)).length ≤ sizeLine := by simpa only [PyData.shown] using hsz
    obtain ⟨bs, hb, hk⟩ := hK (by simpa [PyData.showable] using hs) (fun t ht => Nat.le_trans (tupleText_mem_le ht) hz')
    have hna : a ∉ bs := not_mem_of_deeper r (by simp only [PyData.depth]; omega) hb
    refine ⟨"tuple", "tuple.__repr__", F.slot_tuple_repr, F.slot_tuple_str, F.slot_tuple_format, fun s hk0 => ⟨o, hk0 _ _ ho, hc⟩, fun A E s Q hg hu hk0 hQ => ?_⟩
    simp only [PyData.depth] at hu
    simp only [PyData.shown] at hQ
    exact call_tuple_reprK ho hc hd hna hk hg (fun b _ => Clear.nil b) hu hk0 hQ hz'
  | dic he ha =>
    rename_i o kvs ds
    obtain ⟨_, hsys, vs, rel, ⟨o, es, ep, ho, hc, hd, _, hp, _⟩⟩ := dk_rd I.hok (.inr ⟨o, he⟩)
    obtain ⟨rv, ⟨as, hrk⟩, hkk⟩ := keys_show (h := s.heap) hp rel
    obtain ⟨⟨bs, hr⟩, hK⟩ := DdAll.ok I ha rv
    have hl : (kvs.map fun kv => keyP kv.1).length = ds.length := by rw [List.length_map, ← ha.length, List.length_map]
    generalize hD : (kvs.map fun kv => keyP kv.1).zip ds = D at *
    have e1 : D.map (·.1) = kvs.map fun kv => keyP kv.1 := by rw [← hD]; exact zip_fst hl
    have e2 : D.map (·.2) = ds := by rw [← hD]; exact zip_snd hl
    rw [← e1] at hrk hkk
    rw [← e2] at hr hK
    have r : Reads s.heap (.ref a) (.dict D) _ := .dict ho hc.1 hd hrk hr
    have hz' : (dictText (PyData.shownKv D)).length ≤ sizeLine := by simpa only [PyData.shown] using hsz
    obtain ⟨hs1, hs2⟩ := PyData.showableKv_split D (by simpa [PyData.showable] using hs)
    have k1 := hkk hs1 (fun t ht => let ⟨p, hp, hl⟩ := PyData.shownKv_key_le D t ht; Nat.le_trans hl (Nat.le_trans (dictText_mem_le hp) hz')) (PyData.depthKv D)
    obtain ⟨b2, hb2, k2⟩ := hK hs2 (fun t ht => let ⟨p, hp, hl⟩ := PyData.shownKv_val_le D t ht; Nat.le_trans hl (Nat.le_trans (dictText_mem_le hp) hz'))
    have hb : ReadAtMost s.heap (PyData.depthKv D) b2 := hb2.mono (PyData.depthAll_vals_le D)
    have hna : a ∉ b2 := not_mem_of_deeper r (by simp only [PyData.depth]; omega) hb
    refine ⟨"dict", "dict.__repr__", F.slot_dict_repr, F.slot_dict_str, F.slot_dict_format, fun s hk0 => ⟨_, hk0 _ _ ho, hc.1⟩, fun A E s Q hg hu hk0 hQ => ?_⟩
    simp only [PyData.depth] at hu
    simp only [PyData.shown, PyData.shownKv_eq] at hQ
    exact call_dict_reprK ho hc.1 hd hsys hna (ReprEntriesK.of_two es.toList _ _
      (k1.more_le (as := []) (as' := b2) (fun b hb => absurd hb List.not_mem_nil) (Nat.le_refl _)) (k2.more_le (fun b hb => hb) (PyData.depthAll_vals_le D))) hg (fun b _ => Clear.nil b) hu hk0 hQ (by rw [← PyData.shownKv_eq]; exact hz')
theorem call_reprX {k : Nat} {E : XK} (o : Okx k X E) : CallR X (.builtin "repr") (fun xs H Q => ∃ x p, xs = [x] ∧ Dd X.K H x p ∧ p.showable = true ∧ p.depth ≤ 60 ∧ p.shown.length ≤ sizeLine ∧ Q (.str p.shown) H) := by
  intro pins s σ H xs us Q I r h
  obtain ⟨x, p, rfl, hd, h1, h3, h4, q⟩ := h
  obtain ⟨u, rfl, ru⟩ := vals1 r
  have hu := o.room.un
  have ref : ∀ a, Dd X.K H (.ref a) p → wpAny (model X.prog X.w) X.A (call (.builtin "repr") [.ref a]) (EP X pins σ Q) X.xe s := fun a hd => by
    obtain ⟨T, idr, S⟩ := shows_dd I hd h1 h4
    exact call_repr_slot (by omega) (S.typeIs s fun _ _ e => e) S.slotRepr (S.call X.A.in1 _ s _ o.gd (by show X.A.units + 1 + p.depth < cLine; omega) (fun _ _ e => e) fun h' u tk hk => ⟨_, _, rfl, .str _, H, I.kept (t' := tk) hk, ⟨_, rfl⟩, q⟩)
  cases hd with
  | non =>
    cases ru
    exact PySem.P.repr_of_none ⟨.str _, H, I.tok _, ⟨_, rfl⟩, by simpa only [PyData.shown] using q⟩
  | bl b =>
    cases ru
    exact PySem.P.repr_of_bool ⟨.str _, H, I.tok _, ⟨_, rfl⟩, by simpa only [PyData.shown] using q⟩
  | int i =>
    obtain ⟨t, rfl⟩ := ru
    exact PySem.P.repr_of_int (by simpa [PyData.showable] using h1) ⟨.str _, H, I.tok _, ⟨_, rfl⟩, by simpa only [PyData.shown] using q⟩
  | str z =>
    obtain ⟨t, rfl⟩ := ru
    exact PySem.P.repr_of_str ⟨.str _, H, I.tok _, ⟨_, rfl⟩, by simpa only [PyData.shown] using q⟩ (by simpa only [PyData.shown] using h4)
  | lst hq al =>
    cases ru
    exact ref _ (.lst hq al)
  | tup hq al =>
    cases ru
    exact ref _ (.tup hq al)
  | dic he al =>
    cases ru
    exact ref _ (.dic he al)
def reprX : List D → Sto → R D
  | [d], S => (match deep S 8 d with
    | some p => if p.showable = true ∧ p.depth ≤ 60 ∧ p.shown.length ≤ sizeLine then .ok (.py (.str p.shown)) S else .no
    | none => .no)
  | _, _ => .no
theorem dc_reprX {k : Nat} {E : XK} (o : Okx k X E) : DC X (.builtin "repr") reprX := by
  refine ⟨_, call_reprX o, fun xs ds H S ι E Q hS r hw => ?_⟩
  unfold reprX at hw
  split at hw
  · split at hw
    · rename_i p hp
      split at hw
      · rename_i hc
        cases r with
        | cons r rs =>
          cases rs
          exact ⟨_, p, rfl, deep_dd hS _ r hp, hc.1, hc.2.1, hc.2.2, hw _ _ _ (.refl hS) (.py (.str _))⟩
      · exact hw.elim
    · exact hw.elim
  · exact hw.elim
end
end DV

set_option maxHeartbeats 4000000
namespace DV
open PySem PySem.Spec PyProof.Rows L2
/-! Texts in order. -/
variable {X : Cx}
end DV

set_option maxHeartbeats 4000000
namespace DV
open PySem PySem.Spec PyProof.Rows L2
/-! str(int), tuple[::-1], len(set(ints)). -/
/-! ### a tuple turned about -/
theorem fm_map {α β : Type} {f : α → Option β} {g : α → β} : ∀ {l : List α}, (∀ x ∈ l, f x = some (g x)) → l.filterMap f = l.map g
  | [], _ => rfl
  | x :: l, h => by
    rw [List.filterMap_cons, h x (List.mem_cons_self ..), List.map_cons, fm_map fun y hy => h y (List.mem_cons_of_mem _ hy)]
theorem pick_back (xs : List Value) : ((List.range xs.length).filterMap fun (k : Nat) => xs[((xs.length : Int) - 1 + (k : Int) * (-1)).toNat]?) = xs.reverse := by
  have h : ∀ k ∈ List.range xs.length, (fun (k : Nat) => xs[((xs.length : Int) - 1 + (k : Int) * (-1)).toNat]?) k = some ((fun k => xs.reverse.getD k .none) k) := fun k hk => by
    have hk := List.mem_range.mp hk
    have e : ((xs.length : Int) - 1 + (k : Int) * (-1)).toNat = xs.length - 1 - k := by omega
    simp only [e]
    have h2 : xs.length - 1 - k < xs.length := by omega
    rw [List.getD_eq_getElem?_getD, List.getElem?_reverse hk, List.getElem?_eq_getElem h2]
    rfl
  rw [fm_map h]
  apply List.ext_getElem?
  intro i
  by_cases hi : i < xs.length
  · rw [List.getElem?_map, List.getElem?_range hi, List.getElem?_reverse hi]
    have h2 : xs.length - 1 - i < xs.length := by omega
    simp only [Option.map_some, List.getD_eq_getElem?_getD, List.getElem?_reverse hi, List.getElem?_eq_getElem h2]
    rfl
  · rw [List.getElem?_eq_none (by simp; omega), List.getElem?_eq_none (by simp; omega)]
theorem adjust_back (n : Nat) : Builtin.Slice.sliceAdjust none none (-1) (n : Int) = ((n : Int) - 1, -1) := by
  unfold Builtin.Slice.sliceAdjust
  simp
theorem places_back (n : Nat) : Builtin.Slice.slicePlaces ((n : Int) - 1) (-1) (-1) = n := by
  unfold Builtin.Slice.slicePlaces
  have h1 : ¬ ((-1 : Int) > 0) := by omega
  have h2 : -(-1 : Int) = 1 := rfl
  simp only [h1, if_false, h2, Int.ediv_one]
  split <;> omega
section
variable {prog : Program} {w : World} {A : Around} {E : Value → Shared → Prop} {s : Shared}
theorem applied_back {sl : Addr} {vl vu vs : Value} {n : Nat} {Q : Int × Int × Nat → Shared → Prop} (hs : s.heap.IsSliceOf sl vl vu vs) (pl : IsPart vl none) (pu : IsPart vu none) (ps : IsPart vs (some (-1)))
    (h : Q ((n : Int) - 1, -1, n) s) : wpAny (model prog w) A (Builtin.Slice.sliceApplied (.ref sl) (pure (n : Int))) Q E s := by
  obtain ⟨os, hos, hcs, hds⟩ := id hs
  unfold Builtin.Slice.sliceApplied Builtin.Slice.sliceFields
  refine wpAny_bind (wpAny_bind (wpAny_field hos hds (x := vl) rfl (wpAny_bind (wpAny_field hos hds (x := vu) rfl (wpAny_bind (wpAny_field hos hds (x := vs) rfl (wpAny_pure ?_)))))))
  refine wpAny_bind (HT.slicePart_ ps ?_)
  show wpAny _ _ (if ((-1 : Int) == 0) = true then _ else _) _ _ s
  rw [if_neg (by decide)]
  refine wpAny_bind (HT.slicePart_ pl (wpAny_bind (HT.slicePart_ pu (wpAny_bind (wpAny_pure ?_)))))
  show wpAny _ _ (match Builtin.Slice.sliceAdjust none none (-1) (n : Int) with | (lo, hi) => pure (lo, (-1 : Int), Builtin.Slice.slicePlaces lo hi (-1))) _ _ s
  rw [adjust_back n]
  show wpAny _ _ (pure ((n : Int) - 1, (-1 : Int), Builtin.Slice.slicePlaces ((n : Int) - 1) (-1) (-1))) _ _ s
  rw [places_back]
  exact wpAny_pure h
theorem getItem_tuple_back {t sl : Addr} {items : List Value} {vl vu vs : Value} {Q : Value → Shared → Prop} (ht : IsTup s.heap t items.toArray) (hs : s.heap.IsSliceOf sl vl vu vs) (pl : IsPart vl none) (pu : IsPart vu none) (ps : IsPart vs (some (-1)))
    (h : Q (.ref s.heap.objs.size) { s with heap := s.heap.push { cls := .type "tuple", data := .seq items.reverse.toArray } })
    (hsz : items.length ≤ sizeLine) : wpAny (model prog w) A (getItem (.ref t) (.ref sl)) Q E s := by
  have hsz2 : sizeOk (.seq items.reverse.toArray) := by
    show items.reverse.toArray.size ≤ sizeLine
    rw [List.size_toArray, List.length_reverse]
    exact hsz
  obtain ⟨os, hos, hcs, hds⟩ := id hs
  have hTs : s.TypeIs (.ref sl) "slice" := ⟨os, hos, hcs⟩
  unfold getItem
  try with_reducible refine wpAny_holding ?_
  first | refine wpAny_bind (wpAny_pure ?_) | skip
  refine wpAny_bind (wpAny_sequenceKey ht.typeIs (by decide) ?_)
  refine wpAny_bind (wpAny_callSpecial?_slot (name := Str.ofString "__getitem__") ht.typeIs PyProof.Rows.slot_tuple_getitem
    (wpAny_call_entry PyProof.Rows.slot_tuple_getitem ht.typeIs PyProof.Rows.entry_tuple_getitem ?_ (PyProof.Rows.args_tuple_getitem _ _)))
  show wpAny _ _ (Builtin.Tuple.tupleItemsOf (.ref t) >>= _) _ _ s
  refine wpAny_bind (tupleItemsOf_ ht ?_)
  refine wpAny_bind (wpAny_typeOf hTs ?_)
  rw [if_pos (by decide)]
  refine wpAny_bind (applied_back hs pl pu ps ?_)
  have hno : ¬ ((((items.toArray.size : Int) - 1) == 0 && (-1 : Int) == 1 && items.toArray.size == items.toArray.size) = true) := by
    intro q
    rw [Bool.and_eq_true, Bool.and_eq_true] at q
    exact absurd q.1.2 (by decide)
  show wpAny _ _ (if (((items.toArray.size : Int) - 1) == 0 && (-1 : Int) == 1 && items.toArray.size == items.toArray.size) = true then _ else _) _ _ s
  rw [if_neg hno]
  have ep : ((List.range items.toArray.size).filterMap fun (k : Nat) => items.toArray[((items.toArray.size : Int) - 1 + (k : Int) * (-1)).toNat]?).toArray = items.reverse.toArray := by
    have := pick_back items
    simp only [List.size_toArray, List.getElem?_toArray]
    rw [this]
  rw [ep]
  first
    | exact wpAny_bind (m := Builtin.Tuple.tupleExact _) (wpAny_newObj_type (wpAny_pure ⟨_, rfl, wpAny_pure h⟩) hsz2)
    | exact wpAny_bind (m := Builtin.Tuple.tupleExact _) (wpAny_newObj_type (wpAny_bind (wpAny_pure (wpAny_pure ⟨_, rfl, wpAny_pure h⟩))) hsz2)
    | exact wpAny_bind (wpAny_bind (m := Builtin.Tuple.tupleExact _) (wpAny_newObj_type (wpAny_pure (wpAny_pure ⟨_, rfl, wpAny_pure h⟩)) hsz2))
    | exact wpAny_bind (wpAny_bind (m := Builtin.Tuple.tupleExact _) (wpAny_newObj_type (wpAny_pure ⟨_, rfl, wpAny_pure h⟩) hsz2))
end
section
variable {X : Cx} {E : XK} {a b e : Expr} {f g : Ex} {k : Nat} {pos p p1 p2 p3 q : Pos}
theorem pe_revTup {te : TE} (he : PE X e te) : PE X (.Subscript e (.Slice none none (some (.UnaryOp .USub (.Constant (.int 1) k p1) p2)) p3) pos)
    (fun σ H Q => te σ H fun x H1 => ∃ a xs, x = .ref a ∧ SqT X.K H1 a xs ∧ ∀ p (o : Obj), o.dict = none → H1 p = none → Q (.ref p) (upd H1 p (.frz o (.tup xs.reverse)))) := by
  refine ⟨fun pins s σ H Q I h => ?_⟩
  refine Subscript_ (thn (he.run pins s σ H _ I h) fun v s1 ⟨x, H1, I1, r1, q1⟩ => ?_)
  obtain ⟨a, xs, ex, hx, q⟩ := q1
  subst ex
  cases r1
  have hst : PO X (some (.UnaryOp .USub (.Constant (.int 1) k p1) p2)) (tPart (tUn (rU fun i => .int (-i)) (tC (.int 1)))) := po_some (pe_un un_neg pe_int)
  refine wpAny_Slice (thn (po_none.run pins s1 σ H1 (fun o H2 => o = none ∧ H2 = H1) I1 ⟨rfl, rfl⟩) fun vl s2 ⟨l, H2, I2, pl, el, e2⟩ => ?_)
  subst el e2
  refine thn (po_none.run pins s2 σ H2 (fun o H3 => o = none ∧ H3 = H2) I2 ⟨rfl, rfl⟩) fun vu s3 ⟨u, H3, I3, pu, eu, e3⟩ => ?_
  subst eu e3
  refine thn (hst.run pins s3 σ H3 (fun o H4 => o = some (-1) ∧ H4 = H3) I3 ⟨1, rfl, -1, rfl, rfl, rfl⟩) fun vs s4 ⟨o, H4, I4, ps, eo, e4⟩ => ?_
  subst eo e4
  have I5 : Inv X pins σ H4 { s4 with heap := s4.heap.push { cls := .type "slice", data := .fields #[vl, vu, vs] } } := I4.kept (t' := s4.toks) fun b ob q => Heap.get?_push_of_some _ q
  obtain ⟨its, r, ht, hz⟩ := I5.tuple hx
  have hlen := r.length
  show wpAny (model X.prog X.w) X.A (subscriptTail e (.Slice none none (some (.UnaryOp .USub (.Constant (.int 1) k p1) p2)) p3) (.ref a) (.ref s4.heap.objs.size)) (EP X pins σ Q) X.xe { s4 with heap := s4.heap.push { cls := .type "slice", data := .fields #[vl, vu, vs] } }
  refine tail_any (ops := [.ref a, .ref s4.heap.objs.size]) ht.typeIs (PyProof.Rows.slot_tuple_getitem.lookup) ?_ (by with_unfolding_all rfl)
  refine getItem_tuple_back ht (Heap.IsSliceOf.new _ vl vu vs) pl pu ps ?_ (by omega)
  exact lay_tupF I5 r.reverse (by rw [List.length_reverse]; exact hz) q
def revTE (a : Ex) : Ex := fun σ S => (a σ S).bind fun x S1 => match x with
  | .py (.tuple ds) => .ok (.py (.tuple ds.reverse)) S1
  | _ => .no
theorem de_revTp (ha : DE X E a f) : DE X E (.Subscript a (.Slice none none (some (.UnaryOp .USub (.Constant (.int 1) k p1) p2)) p3) pos) (revTE f) := by
  obtain ⟨t, p, q⟩ := ha
  refine ⟨_, pe_revTup p, fun σ H σd S ι Q hE hS h => ?_⟩
  refine q σ H σd S ι _ hE hS (Wp.bind h fun d S1 _ v H1 ι1 p1 r1 h1 => ?_)
  split at h1
  · cases r1 with
    | py r1 =>
      cases r1 with
      | tup hF hz al =>
        refine ⟨_, _, rfl, hF.sq, fun p o ho hp => h1 _ _ _ (.new p1.sto hp) (.py (.tup (.new ho) ?_ ((al.rev).keep (.new hp))))⟩
        rw [List.length_reverse]
        exact hz
  · exact h1.elim
/-! ### str(int) -/
def strD : List D → Sto → R D
  | [.py (.int i)], S => if i.natAbs.log2 < 1920 then .ok (.py (.str (toString i))) S else .no
  | _, _ => .no
theorem dc_str : DC X (.type "str") strD := by
  refine ⟨_, call_str_int (X := X), fun xs ds H S ι E Q hS r hw => ?_⟩
  unfold strD at hw
  split at hw
  · split at hw
    · rename_i hz
      cases r with
      | cons r rs =>
        cases rs
        exact ⟨_, by rw [int_of r], hz, hw _ _ _ (.refl hS) (.py (.str _))⟩
    · exact hw.elim
  · exact hw.elim
/-! ### len(set(ints)) -/
def dedI (ns : List Int) : List Int := ns.foldl PyProof.Rows.step_dedup []
/-! ### pairs of ints in order -/
/-! ### a part of a tuple, of a list -/
def tFzO (t : TE) : TE := fun σ H Q => t σ H fun v H1 => (∃ a xs, v = .ref a ∧ H1 a = some (.lst xs) ∧ ∀ o, Q v (upd H1 a (.frz o (.lst xs)))) ∨ Q v H1
theorem pe_frzO {t : TE} (p : PE X e t) : PE X e (tFzO t) := by
  refine ⟨fun pins s σ H Q I h => thn (p.run pins s σ H _ I h) fun u s1 ⟨v, H1, I1, r, q⟩ => ?_⟩
  rcases q with ⟨a, xs, ev, ha, q⟩ | q
  · obtain ⟨o, I2⟩ := I1.lock ha trivial
    exact ⟨v, _, I2, r, q o⟩
  · exact ⟨v, H1, I1, r, q⟩
def sliceAV (x : D) (lo hi : Option Int) (S : Sto) : R D := match x with
  | .py (.tuple ds) => .ok (.py (.tuple (cutP ds lo hi))) S
  | .py (.list ds) => .ok (.py (.list (cutP ds lo hi))) S
  | _ => .no
def sliceA (a : Ex) (lo hi : Px) : Ex := fun σ S => (a σ S).bind fun x S1 => (lo σ S1).bind fun l S2 => (hi σ S2).bind fun h S3 => sliceAV x l h S3
theorem de_sliceA {lo hi : Option Expr} {fl fh : Px} (he : DE X E e f) (hl : DP X E lo fl) (hh : DP X E hi fh) : DE X E (.Subscript e (.Slice lo hi none p2) pos) (sliceA f fl fh) := by
  obtain ⟨t, p, q⟩ := he
  obtain ⟨tl, pl, ql⟩ := hl
  obtain ⟨th, ph, qh⟩ := hh
  refine ⟨_, pe_frzO (pe_slice ((sl_tupS (X := X)).or sl_list) p pl ph), fun σ H σd S ι Q hE hS h => ?_⟩
  refine q σ H σd S ι _ hE hS (Wp.bind h fun x S1 _ v H1 ι1 p1 r1 h1 => ?_)
  refine ql σ H1 σd S1 ι1 _ (hE.mono p1.pre p1.keep) p1.sto (Wp.bind h1 fun l S2 _ l' H2 ι2 p2 rl h2 => ?_)
  refine qh σ H2 σd S2 ι2 _ ((hE.mono p1.pre p1.keep).mono p2.pre p2.keep) p2.sto (Wp.bind h2 fun u S3 _ u' H3 ι3 p3 ru h3 => ?_)
  cases rl
  cases ru
  have r3 := (r1.mono p2.pre p2.keep).mono p3.pre p3.keep
  unfold sliceAV at h3
  split at h3
  · rename_i ds _
    cases r3 with
    | py r3 =>
      cases r3 with
      | tup hT hz al =>
        have hc := cut_pp al l u
        have hcl := cut_len ds l u
        refine .inl ⟨_, _, rfl, hT.sq, fun ha => .inr (h3 _ _ _ (.refl p3.sto) (.py ?_)), fun _ p o ho hp => .inr (h3 _ _ _ (.new p3.sto hp) (.py (.tup (.new ho) (Nat.le_trans hcl hz) (hc.keep (.new hp)))))⟩
        rw [al.length] at ha
        rw [cut_all ds l u ha]
        exact .tup hT hz al
  · rename_i ds _
    cases r3 with
    | py r3 =>
      cases r3 with
      | lst hF hz al =>
        have hc := cut_pp al l u
        have hcl := cut_len ds l u
        refine .inr ⟨_, _, rfl, hF.sq, fun p hp => .inl ⟨p, _, rfl, upd_same, fun o => ?_⟩⟩
        rw [upd_upd]
        exact h3 _ _ _ (.new p3.sto hp) (.py (.lst (.inl ⟨o, upd_same⟩) (Nat.le_trans hcl hz) (hc.keep (.new hp))))
  · exact h3.elim
end
end DV

set_option maxHeartbeats 2000000
namespace DV
open PySem PySem.Spec PyProof.Rows L2
/-! some list, or another where it is empty -/
section
variable {X : Cx} {E : XK} {a b : Expr} {f g : Ex} {rest : List Expr} {pos : Pos}
end
end DV

set_option maxHeartbeats 4000000
namespace DV
open PySem PySem.Spec PyProof.Rows L2
open Sem (wp)
/-! (a, b, ..) = a list by value -/
section
variable {prog : Program} {w : World} {A : Around} {E : Value → Shared → Prop} {s : Shared}
theorem draw_list {it l : Addr} {items : Array Value} (hne : l ≠ it) : ∀ (n i : Nat) (s : Shared) (Q : List Value → Shared → Prop), s.heap.IsListIter it l i → s.heap.IsList l items → i + n ≤ items.size →
    (∀ h', Heap.IsListIter h' it l (i + n) → Heap.SameBut it s.heap h' → Q ((items.toList.drop i).take n) { s with heap := h' }) → wpAny (model prog w) A (draw (.ref it) n) Q E s
  | 0, i, s, Q, hit, _, _, hQ => by
    show wpAny _ _ (pure []) Q E s
    exact wpAny_pure (by simpa using hQ s.heap hit (Heap.SameBut.refl ..))
  | n + 1, i, s, Q, hit, ht, hle, hQ => by
    have hlt : i < items.size := by omega
    show wpAny _ _ (pyNext (.ref it) >>= _) Q E s
    refine wpAny_bind (wpAny_pyNext_list_item hit ht (x := items[i]) (by simp [hlt]) fun h₁ hit₁ hs₁ => ?_)
    refine wpAny_bind (wpAny_holding (draw_list hne n (i + 1) _ _ hit₁ (ht.extBut hs₁.extBut hne) (by omega) fun h₂ hit₂ hs₂ => wpAny_pure ?_))
    have hd : items.toList.drop i = items[i] :: items.toList.drop (i + 1) := by simp [List.drop_eq_getElem_cons, hlt]
    have := hQ h₂ (by rw [show i + (n + 1) = i + 1 + n by omega]; exact hit₂) (hs₁.trans hs₂)
    rw [hd, List.take_succ_cons] at this
    exact this
theorem unpackItems_list {t : Addr} {items : Array Value} {Q : List Value → Shared → Prop} (hh : A.handled = none) (ht : s.heap.IsList t items)
    (hQ : ∀ h', Heap.ExtBut s.heap.objs.size s.heap h' → Q items.toList { s with heap := h' }) : wpAny (model prog w) A (unpackItems (.ref t) items.size none) Q E s := by
  have hlt : t ≠ s.heap.objs.size := by obtain ⟨o, ho, _⟩ := ht; exact Nat.ne_of_lt (Heap.lt_size ho)
  have hp : (s.heap.push { cls := .type "list_iterator", data := .fields #[.ref t, .int 0 0] }).IsList t items := ht.push _
  unfold unpackItems
  refine wpAny_bind ?_
  · unfold notIterableAtAll
    refine wpAny_bind (wpAny_specialOf ht.typeIs slot_list_iter.lookup ?_)
    refine wpAny_pure ?_
    simp only [Bool.false_eq_true, if_false]
    refine wpAny_bind (wpAny_holding (wpAny_pyIter_list ht ?_))
    refine wpAny_bind (wpAny_holding (draw_list hlt items.size 0 _ _ ⟨_, Heap.get?_push_size _ rfl, rfl, rfl⟩ hp (by omega) fun h₁ hit₁ hs₁ => ?_))
    have hall : List.take items.size (List.drop 0 items.toList) = items.toList := by
      rw [List.drop_zero]; exact List.take_of_length_le (by simp)
    rw [hall]
    rw [if_neg (by simp)]
    have ht₁ : h₁.IsList t items := hp.extBut hs₁.extBut hlt
    refine wpAny_bind (wpAny_holding (wpAny_pyNext_list_end hh hit₁ ht₁ (by simp) fun h₂ he₂ => ?_))
    simp only [Option.isSome_none, Bool.false_eq_true, if_false]
    refine wpAny_pure (hQ h₂ fun b o hb e => he₂ b o hb (hs₁.extBut b o hb (Heap.get?_push_of_some _ e)))
theorem assign_Tuple_list {env : Env} {elts : List Expr} {x1} {pos : Pos} {t : Addr} {items : Array Value} {Q : Unit → Shared → Prop} (hh : A.handled = none) (ht : s.heap.IsList t items)
    (hn : (assignEach elts env).length = items.size) (hstar : (assignEach elts env).findIdx? (·.1) = none)
    (h : ∀ h', Heap.ExtBut s.heap.objs.size s.heap h' → wpAny (model prog w) A (assignInOrder ((assignEach elts env).map (·.2)) items.toList) Q E { s with heap := h' }) :
    wpAny (model prog w) A (assign (.Tuple elts x1 pos) env (.ref t)) Q E s := by
  rw [assign_Tuple]
  refine wpAny_bind (wpAny_standAt ?_)
  unfold unpack
  rw [hn, hstar]
  exact wpAny_bind (wpAny_holding (unpackItems_list hh ht h))
end
section
variable {X : Cx} {E : XK} {pos : Pos}
def gLst (K : PySem.W.Frag) (n : Nat) (t : TGs) : TG := fun v σ H Q => ∃ a xs, v = .ref a ∧ SqL K H a xs ∧ xs.length = n ∧ t xs σ H Q
theorem pg_lst {es : List Expr} {k : Nat} {t : TGs} {n : Nat} (hc : X.calm = true) (h : PGs X es t)
    (hn : (assignEach es X.env).length = n := by rfl) (hst : (assignEach es X.env).findIdx? (·.1) = none := by rfl) : PG X (.Tuple es k pos) (gLst X.K n t) := by
  refine ⟨fun pins s σ H v u Q I r hw => ?_⟩
  obtain ⟨a, xs, e1, hq, hl, hw⟩ := hw
  subst e1
  cases r
  obtain ⟨its, rv, ⟨o, m, e, hcl, hdi, hda⟩, hz⟩ := I.list hq
  refine assign_Tuple_list (I.ok.hd hc) (items := its.toArray) ⟨o, e, hcl, m, hda⟩ (by simp [hn, ← hl, rv.length]) hst fun h' hx => ?_
  have I1 : Inv X pins σ H { s with heap := h' } := I.kept (t' := s.toks) fun b o e => hx b o (Nat.ne_of_lt (Heap.lt_size e)) e
  exact h.run pins _ σ H xs _ Q I1 (by simpa using rv) hw
def lstG (n : Nat) (r : List D → En → Sto → R En) : Tg := fun d σ S => match d with
  | .py (.list ps) => if ps.length = n then r (ps.map .py) σ S else .no
  | _ => .no
theorem dg_lst {vs : List Nat} {n kk : Nat} {tgs : List Expr} {gs : List D → En → Sto → R En} (hc : X.calm = true) (h : DGs X E vs tgs gs) (hn : (assignEach tgs X.env).length = n := by rfl) (hst : (assignEach tgs X.env).findIdx? (·.1) = none := by rfl) : DG X E vs (.Tuple tgs kk pos) (lstG n gs) := by
  obtain ⟨t, p, q⟩ := h
  refine ⟨_, pg_lst hc p hn hst, fun v d σ H σd S ι Q hE hS r h => ?_⟩
  unfold lstG at h
  split at h
  · split at h
    · rename_i ps hl
      cases r with
      | py r =>
        cases r with
        | lst hq hz hs => exact ⟨_, _, rfl, hq.sq, by rw [hs.length]; exact hl, q _ _ σ H σd S ι _ hE hS (.of_pys hs) h⟩
    · exact h.elim
  · exact h.elim
end
end DV

set_option maxHeartbeats 4000000
namespace DV
open PySem PySem.Spec PyProof.Rows L2
/-! len(set(texts)) with repetitions; len(set(tuples of ints)). -/
section
variable {prog : Program} {w : World} {A : Around} {R : Result → Shared → Prop} {I : Addr} {fp wr : List Addr} {G : Array GenState → Array GenState → Prop} {n : Nat} {P : Nat → Value → Prop} {St : Nat → Shared → Prop}
end
section
variable {prog : Program} {w : World} {A : Around} {E : Value → Shared → Prop} {s : Shared}
end
/-- each thing once, as first met -/
def stepT (acc : List (List Int)) (v : List Int) : List (List Int) := if v ∈ acc then acc else acc ++ [v]
def dedT (xs : List (List Int)) : List (List Int) := xs.foldl stepT []
theorem foldT_mem : ∀ (xs acc : List (List Int)) (v : List Int), v ∈ xs.foldl stepT acc ↔ v ∈ acc ∨ v ∈ xs
  | [], acc, v => by simp
  | x :: xs, acc, v => by
    rw [List.foldl_cons, foldT_mem xs]
    unfold stepT
    split
    · rename_i h
      constructor
      · rintro (q | q)
        · exact .inl q
        · exact .inr (List.mem_cons_of_mem _ q)
      · rintro (q | q)
        · exact .inl q
        · rcases List.mem_cons.mp q with rfl | q
          · exact .inl h
          · exact .inr q
    · simp [or_assoc]
theorem mem_dedT (xs : List (List Int)) (v : List Int) : v ∈ dedT xs ↔ v ∈ xs := by simp [dedT, foldT_mem]
theorem foldT_nodup : ∀ (xs acc : List (List Int)), acc.Nodup → (xs.foldl stepT acc).Nodup
  | [], acc, h => h
  | x :: xs, acc, h => by
    rw [List.foldl_cons]
    refine foldT_nodup xs _ ?_
    unfold stepT
    split
    · exact h
    · rename_i q
      exact List.nodup_append.mpr ⟨h, by simp, fun a ha b hb e => by
        rw [List.mem_singleton.mp hb] at e
        exact q (e ▸ ha)⟩
theorem nodup_dedT (xs : List (List Int)) : (dedT xs).Nodup := foldT_nodup xs [] List.nodup_nil
theorem len_dedT {xs ys : List (List Int)} (hn : ys.Nodup) (h1 : ∀ v ∈ ys, v ∈ xs) (h2 : ∀ v ∈ xs, v ∈ ys) : ys.length = (dedT xs).length :=
  Nat.le_antisymm (hn.length_le_of_subset fun v hv => (mem_dedT _ _).mpr (h1 v hv)) ((nodup_dedT xs).length_le_of_subset fun v hv => h2 v ((mem_dedT _ _).mp hv))
section
variable {X : Cx} {E : XK} {a : Expr} {f : Ex} {p p2 q pos : Pos}
end
end DV

set_option maxHeartbeats 4000000
namespace DV
open PySem PySem.Spec PyProof.Rows L2
/-! [f, g, ..][i](..): a def out of a written list, called. -/
inductive Pk (X : Cx) (k n : Nat) : List Expr → List Addr → List (List D → Sto → R D) → Prop
  | nil : Pk X k n [] [] []
  | cons {x : Str} {p : Pos} {f : Addr} {fd : FuncData} {ps : List Str} {F : List D → Sto → R D} {j : Nat} {es : List Expr} {as : List Addr} {Fs : List (List D → Sto → R D)} :
      FnD X.prog X.w X.K X.mg X.base j f fd ps F → At X.K X.mg x f fd ps → j ≤ k → ps.length = n → Gl X x → (x == ("__debug__" : Str)) = false → Pk X k n es as Fs → Pk X k n (.Name x p :: es) (f :: as) (F :: Fs)
section
variable {X : Cx} {E : XK} {k n : Nat}
theorem Pk.pa {es : List Expr} {as : List Addr} {Fs : List (List D → Sto → R D)} (h : Pk X k n es as Fs) : PA X es (fun σ H Q => Q (as.map V.ref) H) := by
  induction h with
  | nil => exact ⟨fun pos pins s σ H Q I h => pa_nil.run pos pins s σ H Q I h⟩
  | cons hF at_ hj hn hg hd _ ih => exact ⟨fun pos pins s σ H Q I h => (pa_cons (pe_glob (v := .ref _) hg at_.g rfl hd) ih (by rfl)).run pos pins s σ H Q I h⟩
theorem Pk.len {es : List Expr} {as : List Addr} {Fs : List (List D → Sto → R D)} (h : Pk X k n es as Fs) : as.length = es.length := by
  induction h with
  | nil => rfl
  | cons _ _ _ _ _ _ _ ih => simp [ih]
def Callable (X : Cx) (k n : Nat) (f : Addr) (F : List D → Sto → R D) : Prop := ∃ (fd : FuncData) (ps : List Str) (j : Nat), FnD X.prog X.w X.K X.mg X.base j f fd ps F ∧ PySem.W.keepIn X.K (.ref f) = true ∧ Binds X.K fd ps [] ∧ j ≤ k ∧ ps.length = n
theorem Pk.get {es : List Expr} {as : List Addr} {Fs : List (List D → Sto → R D)} (h : Pk X k n es as Fs) : ∀ (i : Nat) (F : List D → Sto → R D), Fs[i]? = some F → ∃ f, as[i]? = some f ∧ Callable X k n f F := by
  induction h with
  | nil => intro i F h; simp at h
  | cons hF at_ hj hn hg hd _ ih =>
    intro i G h
    cases i with
    | zero =>
      cases h
      exact ⟨_, rfl, _, _, _, hF, at_.kp, at_.b, hj, hn⟩
    | succ i => exact ih i G (by simpa using h)
end
end DV

set_option maxHeartbeats 4000000
namespace DV
open PySem PySem.Spec PyProof.Rows L2
/-! sum of a tuple; min and max of lists and tuples by value whose items are alike (numbers, texts, tuples of these). -/
section
variable {prog : Program} {w : World} {A : Around} {E : Value → Shared → Prop} {s : Shared}
theorem min_raw_at {l : Addr} {vs : Array Value} {x : PyData} {xs : List PyData} {as : List Addr} {Q : Value → Shared → Prop} (hh : A.handled = none) (hl : s.heap.IsList l vs ∨ s.heap.IsTuple l vs) (hr : ReadsAll s.heap vs.toList (x :: xs) as) (ha : PySem.W.AlikeAll (x :: xs)) (hu : A.units + 1 + PyData.depthAll (x :: xs) < cLine)
    (h : ∀ (i : Nat) v h' tk, vs[i]? = some v → (x :: xs)[i]? = some (PySem.W.minD x xs) → (∀ b o, s.heap.get? b = some o → h'.get? b = some o) → Q v { s with heap := h', toks := tk }) :
    wpAny (model prog w) A (call (.builtin "min") [.ref l]) Q E s := by
  have hn : vs.size = xs.length + 1 := PySem.W.readsAll_len hr
  have e2 := PySem.W.argBest_fold PySem.W.dataLt PyData.none x xs xs.length (Nat.le_refl _)
  rw [List.take_length] at e2
  have e3 : (x :: xs)[argBest (fun i j => PySem.W.dataLt ((x :: xs).getD i PyData.none) ((x :: xs).getD j PyData.none)) xs.length]? = some (PySem.W.minD x xs) := by
    have hlt : argBest (fun i j => PySem.W.dataLt ((x :: xs).getD i PyData.none) ((x :: xs).getD j PyData.none)) xs.length < (x :: xs).length := by
      rw [List.length_cons]
      exact Nat.lt_succ_of_le e2.1
    have h2 := e2.2
    rw [List.getD_eq_getElem?_getD, List.getElem?_eq_getElem hlt] at h2
    rw [List.getElem?_eq_getElem hlt]
    exact congrArg some h2
  have e1 : vs.size - 1 = xs.length := by omega
  rcases hl with hl | hl
  · refine call_min_walkH (PySem.W.iter_listW (A := A.in1) hh hl fun s₂ e W st hfp hw hk => ?_)
    refine ⟨_, _, _, _, _, _, _, s.heap, _, rfl, W, st, hfp, by omega, hw, hk, PySem.W.cmpIn_lt (A := A.in1) hr ha (by show A.units + 1 + _ < _; exact hu), fun v s' hP m => ?_⟩
    obtain ⟨h', tk, rfl, hk'⟩ := PySem.W.moved_old e rfl m
    rw [e1] at hP
    exact h _ v h' tk hP e3 hk'
  · refine call_min_walkH (PySem.W.iter_tupleW (A := A.in1) hh hl fun s₂ e W st hfp hw hk => ?_)
    refine ⟨_, _, _, _, _, _, _, s.heap, _, rfl, W, st, hfp, by omega, hw, hk, PySem.W.cmpIn_lt (A := A.in1) hr ha (by show A.units + 1 + _ < _; exact hu), fun v s' hP m => ?_⟩
    obtain ⟨h', tk, rfl, hk'⟩ := PySem.W.moved_old e rfl m
    rw [e1] at hP
    exact h _ v h' tk hP e3 hk'
end
def fstAlike (x : PyData) (xs : List PyData) : Prop := PySem.W.AlikeAll (x :: xs) ∧ PyData.hasDictAll (x :: xs) = false ∧ PyData.depthAll (x :: xs) ≤ 60
open Classical in
noncomputable def minX : List D → Sto → R D
  | [.py (.list (x :: xs))], S => if fstAlike x xs then .ok (.py (PySem.W.minD x xs)) S else .no
  | [.py (.tuple (x :: xs))], S => if fstAlike x xs then .ok (.py (PySem.W.minD x xs)) S else .no
  | _, _ => .no
section
variable {X : Cx}
theorem ppAll_at {K : PySem.W.Frag} {H : Hp} : ∀ {vs : List V} {ds : List PyData} {i : Nat} {d : PyData}, PpAll K H vs ds → ds[i]? = some d → ∃ v, vs[i]? = some v ∧ Pp K H v d
  | _, _, 0, d, .cons r rs, h => by cases h; exact ⟨_, rfl, r⟩
  | _, _, i + 1, d, .cons r rs, h => by simpa using ppAll_at rs (by simpa using h)
def rMinX (K : PySem.W.Frag) : List V → Hp → VK → Prop := fun vs H Q => ∃ (a : Addr) (ys : List V) (x : PyData) (xs : List PyData), vs = [V.ref a] ∧ (SqL K H a ys ∨ SqT K H a ys) ∧ PpAll K H ys (x :: xs) ∧ fstAlike x xs ∧ ∀ v, Pp K H v (PySem.W.minD x xs) → Q v H
theorem cr_minX (hc : X.calm = true) (hu : X.A.units + 65 < cLine) : CallR X (.builtin "min") (rMinX X.K) := by
  intro pins s σ H vs us Q I r h
  obtain ⟨a, ys, x, xs, rfl, hs, al, ⟨h1, h2, h3⟩, q⟩ := h
  rw [Vals.ref1 r]
  have fin : ∀ its : List Value, Vals ys its → (s.heap.IsList a its.toArray ∨ s.heap.IsTuple a its.toArray) → wpAny (model X.prog X.w) X.A (call (.builtin "min") [.ref a]) (EP X pins σ Q) X.xe s := fun its rv hl => by
    obtain ⟨as, hr⟩ := Dp.readsAll I (x :: xs) ys its (al.dp h2) rv
    refine min_raw_at (I.ok.hd hc) hl (by simpa using hr) h1 (by omega) fun i v h' tk hv hi hk => ?_
    obtain ⟨y, hy, ry⟩ := ppAll_at al hi
    obtain ⟨u, hu1, hu2⟩ := rv.get hy
    have ev : u = v := by
      have e := hv
      simp only [List.getElem?_toArray] at e
      rw [hu1] at e
      exact Option.some.inj e
    subst ev
    exact ⟨y, H, I.kept hk, hu2, q y ry⟩
  rcases hs with hs | hs
  · obtain ⟨its, rv, hl, _⟩ := I.list hs
    exact fin its rv (.inl hl.isList)
  · obtain ⟨its, rv, hl, _⟩ := I.tuple hs
    exact fin its rv (.inr hl)
theorem dc_minX {k : Nat} {E : XK} (o : Okx k X E) : DC X (.builtin "min") minX := by
  refine ⟨_, cr_minX o.calm (Room.units65 o.room), fun xs ds H S ι E Q hS r hw => ?_⟩
  unfold minX at hw
  split at hw
  · split at hw
    · rename_i hf
      cases r with
      | cons r rs =>
        cases rs
        cases r with
        | py r =>
          cases r with
          | lst h hz al => exact ⟨_, _, _, _, rfl, .inl h.sq, al, hf, fun v hv => hw _ _ _ (.refl hS) (.py hv)⟩
    · exact hw.elim
  · split at hw
    · rename_i hf
      cases r with
      | cons r rs =>
        cases rs
        cases r with
        | py r =>
          cases r with
          | tup h hz al => exact ⟨_, _, _, _, rfl, .inr h.sq, al, hf, fun v hv => hw _ _ _ (.refl hS) (.py hv)⟩
    · exact hw.elim
  · exact hw.elim
end
end DV

set_option maxHeartbeats 4000000
namespace DV
open PySem PySem.Spec PyProof.Rows L2
/-! A lambda with one parameter: its body's context, its call. -/
structure LamP (x : Str) (sc scope : Scope) : Prop where
  kind : scope.kind = .function
  co : scope.isCoroutine = false
  gen : scope.isGenerator = false
  par : scope.names.lookup x = some .local
  cel : ∀ y ∈ scope.names, y.2 ≠ .cell
  loc : ∀ y ∈ scope.names, y.2 = .local → y.1 = x
  free : ∀ y ∈ scope.names, y.2 = .free → sc.names.lookup y.1 = some .cell ∨ sc.names.lookup y.1 = some .free
  no : scope.names.lookup Str.empty = none
  ne : x ≠ Str.empty
def lamPB (x : Str) (sc scope : Scope) : Bool :=
  decide (scope.kind = .function) && !scope.isCoroutine && !scope.isGenerator && decide (scope.names.lookup x = some .local) && decide (scope.names.lookup Str.empty = none) && decide (x ≠ Str.empty) &&
    scope.names.all fun y => !decide (y.2 = .cell) && (!decide (y.2 = .local) || decide (y.1 = x)) && (!decide (y.2 = .free) || decide (sc.names.lookup y.1 = some .cell) || decide (sc.names.lookup y.1 = some .free))
theorem lamP_by {x : Str} {sc scope : Scope} (h : lamPB x sc scope = true) : LamP x sc scope := by
  unfold lamPB at h
  simp only [Bool.and_eq_true, Bool.or_eq_true, Bool.not_eq_true', decide_eq_true_eq, decide_eq_false_iff_not, List.all_eq_true] at h
  obtain ⟨⟨⟨⟨⟨⟨h1, h2⟩, h3⟩, h4⟩, h5⟩, h6⟩, h7⟩ := h
  refine ⟨h1, h2, h3, h4, fun y hy => (h7 y hy).1.1, fun y hy e => ?_, fun y hy e => ?_, h5, h6⟩
  · rcases (h7 y hy).1.2 with z | z
    · exact absurd e z
    · exact z
  · rcases (h7 y hy).2 with (z | z) | z
    · exact absurd e z
    · exact .inl z
    · exact .inr z
theorem LamP.has {X : Cx} {x : Str} {scope : Scope} (L : LamP x X.env.scope scope) (ok : X.Ok) : ∀ y ∈ scope.names, y.2 = .free → ∃ c, X.env.cells.lookup y.1 = some c := fun y hy e => by
  rcases L.free y hy e with k | k
  · exact ok.has _ (.inl k)
  · exact ok.has _ (.inr k)
def lamN (N : List Str) (x : Str) : List Str := N.map (fun y => if y = x then Str.empty else y) ++ [x]
def lamCxP (X : Cx) (A : Around) (outer : List Env) (s : Shared) (H : Hp) (E : XK) (scope : Scope) (f c' : Addr) (x : Str) : Cx :=
  { LamX.lamCx X A outer s H E scope f c' with N := lamN X.N x }
section
variable {X : Cx} {pins : List (Addr × Obj)} {σ : L2.St} {H HZ : Hp} {s s1 : Shared}
theorem lamP_start {A : Around} {outer : List Env} {E : XK} {scope : Scope} {f c' : Addr} {h₁ : Heap} {tk : Nat} {x : Str} {v : V} {u : Value} (I : Inv X pins σ H s) (L : LamP x X.env.scope scope) (e0 : Env0 X.prog X.w X.K X.mg X.base A outer s1 HZ) (hd : A.handled = none)
    (un : Un (frs X.stack) [] H HZ s.heap s1.heap) (hns : h₁.Ns s1.heap.objs.size fun y => ([(x, u)] : List (Str × Value)).reverse.lookup y) (kp : ∀ b o, s1.heap.get? b = some o → h₁.get? b = some o) (rv : RelV v u) :
    Inv (lamCxP X A outer s1 HZ E scope f c' x) [] (σ ++ [some v]) HZ { s1 with heap := h₁, toks := tk } := by
  have hfree := L.has I.ok
  have cm : ∀ {y c}, (cloFrom X.env.cells scope.names []).lookup y = some c → X.env.cells.lookup y = some c := fun {y c} e => by
    rcases cloFrom_mem (PySem.mem_of_lookup e) with hm | ⟨h1, h2⟩
    · cases hm
    · obtain ⟨c1, hc⟩ := hfree _ h1 rfl
      have hc : X.env.cells.lookup y = some c1 := hc
      have e2 : c = c1 := by
        rw [h2, hc] <;> rfl
      rw [e2]
      exact hc
  have look : ∀ {y}, scope.names.lookup y = some .free → ∃ c, (cloFrom X.env.cells scope.names []).lookup y = some c := fun {y} hl => by
    have hy : (y, NameKind.free) ∈ scope.names := PySem.mem_of_lookup hl
    exact mem_lookup (cloFrom_has (cells := X.env.cells) (acc := []) hy)
  have cellK : ∀ {c : Addr} {v : Option Value}, H c = none → s.heap.IsCell c v → h₁.IsCell c v := fun {c v} n ⟨o, ho, hd⟩ => by
    obtain ⟨sl, q⟩ := un.any ho n (by simp)
    exact ⟨_, kp _ _ q, hd⟩
  have noA : ∀ b : Addr, b ∉ (lamCxP X A outer s1 HZ E scope f c' x).ex := fun b z => absurd (show b ∈ ([] : List Addr) from z) (by simp)
  refine ⟨⟨e0.mod, L.kind, rfl, rfl, Nat.le_refl _, fun y z c e1 e2 => I.ok.inj y z c (cm e1) (cm e2), fun y hy => ?_, fun y c z _ => ?_, fun _ => hd, Around.frames_deeper e0.frames, .inr ⟨rfl, rfl⟩, fun b z => absurd z (noA b), e0.bs, e0.bsz, fun b _ _ => noA b,
      fun b z => absurd z (noA b), e0.funs, e0.frf⟩,
    rfl, e0.bare, Un.kept kp, ⟨_, hns, fun i y w e1 e2 e3 => ?_⟩, fun y c e => ?_, e0.hok.fresh (Nat.le_refl _), fun y c e => ?_, fun q hq => absurd (show q ∈ ([] : List (Addr × Obj)) ++ [] from hq) (by simp), e0.hok.kept kp, ?_⟩
  · have hy : scope.names.lookup y = some .cell ∨ scope.names.lookup y = some .free := hy
    rcases hy with hy | hy
    · exact absurd rfl (L.cel _ (PySem.mem_of_lookup hy))
    · exact look hy
  · have z : false = true := z
    cases z
  · have e3 : Vis scope y := e3
    have e1 : (lamN X.N x)[i]? = some y := e1
    have lN : (X.N.map (fun y => if y = x then Str.empty else y)).length = X.N.length := List.length_map ..
    have hlen := I.len
    rcases e3 with k | k | k
    · have yx : y = x := L.loc _ (PySem.mem_of_lookup k) rfl
      subst yx
      have hi : i = X.N.length := by
        rcases Nat.lt_trichotomy i X.N.length with q | q | q
        · unfold lamN at e1
          rw [List.getElem?_append_left (by rw [lN]; exact q), List.getElem?_map] at e1
          cases hq : X.N[i]? with
          | none => rw [hq] at e1; cases e1
          | some z =>
            rw [hq] at e1
            have e1 : (if z = y then Str.empty else z) = y := Option.some.inj e1
            split at e1
            · exact absurd e1.symm L.ne
            · rename_i hz
              exact absurd e1 hz
        · exact q
        · unfold lamN at e1
          rw [List.getElem?_eq_none (by rw [List.length_append, lN]; simp; omega)] at e1
          cases e1
      subst hi
      have ew : w = v := by
        have e2' := e2
        rw [← hlen, List.getElem?_append_right (Nat.le_refl _), Nat.sub_self] at e2'
        simpa using e2'.symm
      subst ew
      exact ⟨u, rv, .inl ⟨k, by simp⟩⟩
    · exact absurd rfl (L.cel _ (PySem.mem_of_lookup k))
    · have hi : i < X.N.length := by
        apply Classical.byContradiction
        intro hi
        unfold lamN at e1
        rw [List.getElem?_append_right (by rw [lN]; omega), lN] at e1
        cases hq : i - X.N.length with
        | zero =>
          rw [hq] at e1
          have e1 : x = y := by simpa using e1
          subst e1
          rw [L.par] at k
          cases k
        | succ m =>
          rw [hq] at e1
          simp at e1
      have eN : X.N[i]? = some y := by
        unfold lamN at e1
        rw [List.getElem?_append_left (by rw [lN]; exact hi), List.getElem?_map] at e1
        cases hq : X.N[i]? with
        | none => rw [hq] at e1; cases e1
        | some z =>
          rw [hq] at e1
          have e1 : (if z = x then Str.empty else z) = y := Option.some.inj e1
          split at e1
          · rw [← e1, L.no] at k
            cases k
          · rw [e1]
      rw [List.getElem?_append_left (by omega)] at e2
      obtain ⟨m, hn, hl⟩ := I.loc
      have hvis : Vis X.env.scope y := (L.free _ (PySem.mem_of_lookup k) rfl).elim (fun k => .inr (.inl k)) (fun k => .inr (.inr k))
      obtain ⟨w', r, q⟩ := hl i y w eN e2 hvis
      obtain ⟨c2, h2⟩ := look k
      refine ⟨w', r, .inr ⟨.inr k, c2, h2, ?_⟩⟩
      have c1 := cm h2
      rcases q with ⟨k', _⟩ | ⟨_, c3, e', z⟩
      · have k' : X.env.scope.names.lookup y = some .local := k'
        rcases L.free _ (PySem.mem_of_lookup k) rfl with k2 | k2 <;> rw [show X.env.scope.names.lookup y = _ from k2] at k' <;> cases k'
      · rw [c1] at e'
        cases e'
        exact cellK (I.freeC y _ c1) z
  · obtain ⟨w', z⟩ := I.cell y c (cm e)
    exact ⟨w', cellK (I.freeC y c (cm e)) z⟩
  · obtain ⟨v, o, ho, hd⟩ := I.cell y c (cm e)
    exact un.free c o ho (I.freeC y c (cm e)) (by simp)
  · show (σ ++ [some v]).length = (lamN X.N x).length
    unfold lamN
    rw [List.length_append, List.length_append, List.length_map, I.len]
    rfl
theorem okx_lamP {A : Around} {outer : List Env} {scope : Scope} {f c' : Addr} {x : Str} {E : XK} {k : Nat} (nd : (lamN X.N x).Nodup) (hr : Room k (A.deeper (LamX.lamEnv X scope s.heap.objs.size f c'))) (hg : A.guards = some []) : Okx k (lamCxP X A outer s H E scope f c' x) E where
  calm := rfl
  nd := nd
  room := hr
  gd := hg
  take := takes_of rfl rfl rfl rfl
  pass := passes_call (takes_of rfl rfl rfl rfl) fun _ _ _ _ h => h
  own := passes_of rfl
/-- the lambda at f is called with u, from A (frames as in X) -/
theorem lamP_call {A : Around} {f c' : Addr} {pm ctv : Value} {params : Arguments} {body : Expr} {scope : Scope} {x : Str} {v : V} {u : Value} {k : Nat} {t : TE} {Q : VK}
    (I : Inv X pins σ H s) (L : LamP x X.env.scope scope) (hf : s.heap.get? f = some (PySem.W.kla_obj "<lambda>" (X.env.qual ++ "<lambda>") params body scope (cloFrom X.env.cells scope.names []) pm c' ctv)) (hco : H c' = some (LamX.CodeO c' (X.env.qual ++ "<lambda>")))
    (hb : ∀ u : Value, bindArgs (PySem.W.kla_fn "<lambda>" (X.env.qual ++ "<lambda>") params body scope (cloFrom X.env.cells scope.names []) pm (.ref c') ctv) ⟨[u], []⟩ = pure [(x, u)])
    (fr : A.frames = X.A.frames) (gd : A.guards = some []) (rm : Room (k + 1) A)
    (hbody : ∀ (s : Shared) (H : Hp), PE (lamCxP X A X.stack s H (fun _ _ _ => False) scope f c' x) body t)
    (rv : RelV v u) (hq : t (σ ++ [some v]) H Q) (EE : Value → Shared → Prop) :
    wpAny (model X.prog X.w) A (call (.ref f) [u]) (fun w s' => CE X.stack X.prog X.w H s Q w s') EE s := by
  have e0 : Env0 X.prog X.w X.K X.mg X.base A X.stack s H := { I.env0 with frames := fr.trans I.env0.frames }
  obtain ⟨⟨o3, flds, tq, e1, e2, e3⟩, _, _⟩ := I.hok c' _ hco
  have run : codeAny (model X.prog X.w) A (.call (.ref f) ⟨[u], []⟩) (CR (L2.CX X.prog X.w) X.stack X.prog X.w H s Q fun _ _ _ => False) s := by
    refine PySem.W.kla_callFunE rm.depth hf rfl L.co L.gen rfl ⟨c', o3, flds, tq, rfl, e1, e2, e3⟩ ?_
    rw [hb u]
    refine wpAny_pure (wpAny_newFunctionEnv (fun y m => L.cel y m) (fun y m => by rw [List.mem_singleton.mp m]; exact L.par) (fun hh ns bs => ⟨I.nolimit.fresh _ bs, ?_⟩) L.kind)
    show codeAny _ _ (.expr body (LamX.lamEnv X scope s.heap.objs.size f c')) _ _
    have kept : ∀ b o, s.heap.get? b = some o → hh.get? b = some o := fun b o e => bs.extBut b o (Nat.ne_of_lt (Heap.lt_size e)) (Heap.get?_push_of_some _ e)
    have J := lamP_start (A := A) (outer := X.stack) (E := fun _ _ _ => False) (f := f) (c' := c') (tk := s.toks + ([(x, u)] : List (Str × Value)).length) I L e0 rm.hd (Un.kept fun b o e => e) ns kept rv
    refine PySem.W.kla_codeExpr (wpAny_mono ((hbody s H).run [] _ _ H Q J hq) (fun v s' hq => ?_) fun e s' hq => hq)
    obtain ⟨v', H', J', rv', q⟩ := hq
    exact ⟨v', H', J'.os, J'.bare, J'.base, J'.hok, rv', q⟩
  refine wpAny_call (codeAny_mono run fun r s' hq => ?_)
  match r, hq with
  | .error e, hq =>
    exact (cx_false hq).elim
  | .ok (.ret u), hq => exact hq
  | .ok .next, hq => exact hq.elim
  | .ok .brk, hq => exact hq.elim
  | .ok .cont, hq => exact hq.elim
end
end DV

set_option maxHeartbeats 4000000
namespace DV
open PySem PySem.Spec PyProof.Rows L2
/-! sorted(xs, key=lambda x: ..) -/
open Classical in
noncomputable def keyRun (P : Nat) (q : Str) (kf : D → Sto → R D) : List D → Sto → Option (List PyData × Sto)
  | [], S => some ([], S)
  | d :: ds, S => if tabIn P q S then (match kf d S with
    | .ok (.py p) S1 => (keyRun P q kf ds S1).map fun r => (p :: r.1, r.2)
    | _ => none) else none
def keysOk (kz : List PyData) : Prop := PySem.W.AllAlike kz ∧ PySem.W.Sortable kz ∧ PyData.hasDictAll kz = false ∧ PyData.depthAll kz ≤ 60
noncomputable def byKeys (kz : List PyData) (ds : List D) : List D := ((kz.zip ds).mergeSort (PySem.W.dataLe false Prod.fst)).map Prod.snd
def lstD : D → Bool
  | .py (.list _) => true
  | .obj _ => true
  | _ => false
open Classical in
noncomputable def sortKL (P : Nat) (q : Str) (a : Ex) (kf : Ex) : Ax := fun σ S => (a σ S).bind fun d S1 => match seqOf S1 d with
  | some ds => if lstD d = true ∧ ds.length ≤ 4000 ∧ tabIn P q S1 then (match keyRun P q (fun d S => kf (σ ++ [some d]) S) ds S1 with
    | some (kz, S2) => if keysOk kz then .ok (byKeys kz ds) S2 else .no
    | none => .no) else .no
  | none => .no
theorem codeAmong_app {pos : Pos} {cv : Value} : ∀ {l : List Value} (more : List Value), codeAmong pos l = some cv → codeAmong pos (l ++ more) = some cv := by
  intro l
  fun_induction codeAmong pos l with
  | case1 line t col u c rest hc =>
    intro more h
    simp only [List.cons_append, codeAmong]
    rw [if_pos hc]
    exact h
  | case2 line t col u c rest hc ih =>
    intro more h
    simp only [List.cons_append, codeAmong]
    rw [if_neg hc]
    exact ih more h
  | case3 l h1 =>
    intro more h
    cases h
section
variable {P : Program} {w : World} {H H' : Hp} {h h' : Heap}
/-- objects that are not tracked are changed -/
theorem hok_but {C : Addr → Prop} (x : HOk P w H h) (k : ∀ b o, ¬ C b → h.get? b = some o → h'.get? b = some o) (hC : ∀ b, C b → H b = none) : HOk P w H h' := fun b u e =>
  (x b u e).stay (fun d v hd q => k d v (fun c => by
    have n := hC d c
    rcases hd with rfl | hd
    · rw [n] at e; cases e
    · rw [n] at hd; cases hd) q) (fun _ q => q) fun _ _ q => q
/-- an object that stands is tracked from now on -/
theorem hok_add {a : Addr} {o : HO} (x : HOk P w H h) (hn : H a = none) (new : ObjOk P w (upd H a o) h a o) : HOk P w (upd H a o) h := fun b u e => by
  by_cases hb : b = a
  · subst hb; rw [upd_same] at e; cases e; exact new
  · rw [upd_ne hb] at e
    exact (x b u e).stay (fun c v _ q => q) (fun c q => by rw [upd_ne (ne_of_none q hn)]; exact q) fun c xs q => by rw [upd_ne (ne_of_none q hn)]; exact q
end
section
variable {X : Cx} {pins : List (Addr × Obj)} {σ : L2.St} {H : Hp} {s : Shared}
/-- lam_mk, and where the table tells the new code object -/
theorem lam_mkC {c P : Addr} {params : Arguments} {body : Expr} {scope : Scope} {pos : Pos} {E Q : Value → Shared → Prop} (I : Inv X pins σ H s) (TB : LamX.TabB X.base X.mg c P) (hcode : X.env.code = .ref c)
    (tb : LamX.TabS H P (X.env.qual ++ "<lambda>")) (hdef : defaultsOf params X.env = ([], [])) (hfree : ∀ y ∈ scope.names, y.2 = .free → ∃ c, X.env.cells.lookup y.1 = some c)
    (h : ∀ (f c' : Addr) (pm ctv : Value) (H1 : Hp) (s' : Shared), Inv X pins σ H1 s' → MadeL H H1 P c' (X.env.qual ++ "<lambda>") → LamX.TabS H1 P (X.env.qual ++ "<lambda>") →
      s'.heap.get? f = some (PySem.W.kla_obj "<lambda>" (X.env.qual ++ "<lambda>") params body scope (cloFrom X.env.cells scope.names []) pm c' ctv) → H1 f = none → f ∉ frs X.stack → (∃ ps, H1 P = some (.tbl ps) ∧ codeAmong pos ps.toList = some (.ref c')) → Q (.ref f) s') :
    wpAny (model X.prog X.w) X.A (eval (.Lambda params body scope pos) X.env) Q E s := by
  obtain ⟨ps, hP, tr, am⟩ := tb
  have atP : s.heap.get? P = some { cls := .none, data := .fields ps } := I.hok P _ hP
  have noFr : ∀ f, s.heap.objs.size ≤ f → f ∉ frs X.stack := fun f hf z => by
    rcases List.mem_cons.mp (I.stkSub _ z) with e | e
    · have := I.lt
      rw [← e] at this
      exact absurd hf (Nat.not_le_of_lt this)
    · exact I.nofs hf e
  refine PySem.W.kla_eval hdef ?_
  cases hc : codeAmong pos ps.toList with
  | some cv =>
    obtain ⟨c', rfl, hco⟩ := am pos cv hc
    refine PySem.W.kla_makeFunctionHit (mg := X.mg) (c := c) (P := P) (ps := ps) (closure_ok hfree) I.ok.glob (I.mod.glob.keeps I.bk) hcode (TB.code.keeps I.bk) atP tr hc (TB.bm.keeps I.bk) fun ctv h' tk kp sz => ?_
    have J : Inv X pins σ H { s with heap := h'.push (PySem.W.kla_obj "<lambda>" (X.env.qual ++ "<lambda>") params body scope (cloFrom X.env.cells scope.names []) ((X.mg "__name__").getD .none) c' ctv), toks := tk } :=
      I.kept fun b o e => Heap.get?_push_of_some _ (kp b o e)
    exact h h'.objs.size c' _ ctv H _ J (.inl rfl) ⟨ps, hP, tr, am⟩ (Heap.get?_push_size _ rfl) (I.hok.fresh sz) (noFr _ sz) ⟨ps, hP, hc⟩
  | none =>
    refine PySem.W.kla_makeFunction (mg := X.mg) (c := c) (P := P) (ps := ps) (closure_ok hfree) I.ok.glob (I.mod.glob.keeps I.bk) hcode (TB.code.keeps I.bk) atP tr hc TB.gP (TB.bm.keeps I.bk) fun c' ctv h' tk kp ge lt rec_ htb => ?_
    obtain ⟨c2, oc, flds, tq, ec, hoc, hd, hv⟩ := rec_
    cases ec
    have sz : s.heap.objs.size ≤ h'.objs.size := Nat.le_trans ge (Nat.le_of_lt lt)
    have nC : H c' = none := I.hok.fresh ge
    have nPC : P ≠ c' := ne_of_none hP nC
    have J := LamX.inv_table (t' := tk) (more := #[rawInt pos.line, rawInt pos.col, .ref c']) (h' := h'.push (PySem.W.kla_obj "<lambda>" (X.env.qual ++ "<lambda>") params body scope (cloFrom X.env.cells scope.names []) ((X.mg "__name__").getD .none) c' ctv)) I hP
      (fun b o hb e => Heap.get?_push_of_some _ (kp b o hb e)) (Heap.get?_push_of_some _ htb) ge ⟨oc, flds, tq, Heap.get?_push_of_some _ hoc, hd, hv⟩
    have el : (ps ++ #[rawInt pos.line, rawInt pos.col, Value.ref c']).toList = ps.toList ++ [rawInt pos.line, rawInt pos.col, .ref c'] := by simp
    refine h h'.objs.size c' _ ctv _ _ J (.inr ⟨ps, _, hP, nC, rfl⟩) ⟨_, by rw [upd_ne nPC, upd_same], ?_, fun p' cv hcv => ?_⟩ (Heap.get?_push_size _ rfl) ?_ (noFr _ sz) ⟨_, by rw [upd_ne nPC, upd_same], by rw [el]; exact codeAmong_snoc _ tr hc⟩
    · rw [el]
      exact PySem.TriplesOk_snoc _ _ _ _ tr
    · rw [el] at hcv
      rcases LamX.among_app _ tr hcv with z | rfl
      · obtain ⟨c0, e1, e2⟩ := am p' cv z
        refine ⟨c0, e1, ?_⟩
        have n1 : c0 ≠ c' := ne_of_none e2 nC
        have n2 : c0 ≠ P := fun w => by
          rw [w, hP] at e2
          exact LamX.codeO_ne ps (Option.some.inj e2).symm
        rw [upd_ne n1, upd_ne n2]
        exact e2
      · exact ⟨c', rfl, upd_same⟩
    · have n1 : h'.objs.size ≠ c' := Nat.ne_of_gt lt
      have n2 : h'.objs.size ≠ P := Nat.ne_of_gt (Nat.lt_of_lt_of_le (Heap.lt_size atP) sz)
      rw [upd_ne n1, upd_ne n2]
      exact I.hok.fresh sz
end
/-! ### the sort -/
section
variable {prog : Program} {w : World} {A : Around} {E : Value → Shared → Prop} {s : Shared} {a kS : Addr} {e e1 : Nat} {vs : List Value} {keys : Array Value} {R : PySem.Fin → Shared → Prop}
theorem key_endI {κ : PyProof.Rows.KeyKind} (hk : s.heap.get? kS = some (seqObj "list" keys e)) (ha : s.heap.get? a = some (seqObj "list" #[] e1)) (hka : kS ≠ a)
    (S : PySem.W.SortsAt prog w A s κ keys.toList) (hsz : keys.size = vs.length) (hZ : vs.length ≤ sizeLine)
    (h : ∀ h' c, (∀ b o, b ≠ a → b ≠ kS → s.heap.get? b = some o → h'.get? b = some o) → (∃ o, h'.get? kS = some o) → h'.get? a = some (seqObj "list" (PySem.W.sortVals κ false keys.toList vs).toArray c) → R (.done (.ret .none)) { s with heap := h' }) :
    wpAny (model prog w) A (ksk_end a false vs.toArray e1 (.ref kS) keys) R E s := by
  have tail : ∀ {st : SortSt} {out : List Value}, out.length ≤ sizeLine → failedOf st = none → (arrOf st).map (·.2) = out.toArray → out = PySem.W.sortVals κ false keys.toList vs → wpAny (model prog w) A (ksk_tail a false e1 (.ref kS) st) R E s := by
    intro st out hz hfl ho hout
    have s1 := Heap.SameBut.update s.heap kS (Obj.mapSeq fun _ => (#[] : Array Value))
    have na1 : (s.heap.update kS (Obj.mapSeq fun _ => (#[] : Array Value))).get? a = some (seqObj "list" #[] e1) := (s1.2 a hka.symm).trans ha
    have s2 := Heap.SameBut.update (s.heap.update kS (Obj.mapSeq fun _ => (#[] : Array Value))) a (Obj.mapSeq fun _ => out.toArray)
    obtain ⟨c1, hc1⟩ : ∃ c1, (s.heap.update kS (Obj.mapSeq fun _ => (#[] : Array Value))).get? kS = some (seqObj "list" #[] c1) := ⟨_, get?_update_seq hk fun _ => #[]⟩
    obtain ⟨c2, hc2⟩ : ∃ c2, ((s.heap.update kS (Obj.mapSeq fun _ => (#[] : Array Value))).update a (Obj.mapSeq fun _ => out.toArray)).get? a = some (seqObj "list" out.toArray c2) :=
      ⟨_, get?_update_seq na1 fun _ => out.toArray⟩
    have hz2 : out.toArray.size ≤ sizeLine + 1 := by
      rw [List.size_toArray]
      exact Nat.le_succ_of_le hz
    unfold ksk_tail
    simp only [Bool.false_eq_true, if_false]
    rw [ho]
    refine wpAny_bind (listUpdate_at hk rfl ?_ (by rw [hsz]; exact hZ) (Nat.zero_le _))
    refine wpAny_bind (wpAny_letGo ?_)
    refine wpAny_bind (seqEpoch_at na1 rfl ?_)
    refine wpAny_bind (listUpdate_at na1 rfl ?_ (Nat.zero_le _) hz2)
    rw [hfl]
    simp only [bne_self_eq_false, Bool.false_eq_true, if_false]
    subst hout
    exact wpAny_pure (h _ c2 (fun b o n1 n2 q => (s2.2 b n1).trans ((s1.2 b n2).trans q)) ⟨_, (s2.2 kS hka).trans hc1⟩ hc2)
  obtain ⟨kd, h1, h2⟩ := S.kind
  have hkl : keys.toList.length = vs.length := by
    rw [Array.length_toList]
    exact hsz
  have hK : PyProof.Rows.KeysOf κ (keys.zip vs.toArray) := PySem.W.keysOf_zip S.keys
  have hol : (PySem.W.sortVals κ false keys.toList vs).length = vs.length := PySem.W.sortVals_length false hkl
  have fin : ∀ st' : SortSt, (arrOf st').Perm (keys.zip vs.toArray) → SortedToK κ (arrOf st') (keys.zip vs.toArray).size →
      Stable κ (arrOf st') (keys.zip vs.toArray) → (arrOf st').map (·.2) = (PySem.W.sortVals κ false keys.toList vs).toArray := by
    intro st' hp hs ht
    have e := PySem.W.sort_out (rev := false) (keys := keys) (items := vs.toArray) (xs := arrOf st') (κ := κ) hK hp hs ht
    have e' := congrArg List.toArray e
    rw [Array.toArray_toList] at e'
    exact e'
  have hss : (keys.zip vs.toArray).size = vs.length := by rw [Array.size_zip, hsz, List.size_toArray, Nat.min_self]
  unfold ksk_end
  simp only [Bool.false_eq_true, if_false]
  by_cases hl2 : vs.toArray.size < 2
  · rw [if_pos hl2, if_pos hl2]
    refine wpAny_bind (wpAny_pure ?_)
    rw [StateT.run_pure]
    refine wpAny_bind (wpAny_pure ?_)
    refine tail (st := SortSt.mk' general' (keys.zip vs.toArray) #[] 7 none) (by rw [hol]; exact hZ) rfl (fin _ (Array.Perm.refl _) ?_ (Stable.refl _)) rfl
    intro i j hij hj
    rw [hss] at hj
    rw [List.size_toArray] at hl2
    have : i = j := by omega
    subst this
    exact KeyOrd.kle_refl _
  · rw [if_neg hl2, if_neg hl2]
    rw [List.size_toArray] at hl2
    refine wpAny_bind (h2 (by rw [hkl]; omega) _ ?_)
    refine wpAny_bind (wpAny_mono (H.wpS_sortRunsSt (κ := κ) (kd := kd) (a₀ := keys.zip vs.toArray)
      (st := SortSt.mk' kd (keys.zip vs.toArray) #[] 7 none)
      (Q := fun _ st' => failedOf st' = none ∧ (arrOf st').map (·.2) = (PySem.W.sortVals κ false keys.toList vs).toArray)
      h1 hK ⟨Array.Perm.refl _, rfl, rfl⟩ rfl (Stable.refl _) (by rw [hss]; omega) fun st' a1 a2 a3 a4 => ⟨a2, fin st' a1 a3 a4⟩) ?_ fun _ _ e => e)
    rintro ⟨⟨⟩, st'⟩ s' ⟨rfl, hf, ho⟩
    exact tail (by rw [hol]; exact hZ) hf ho rfl
end
end DV

set_option maxHeartbeats 4000000
namespace DV
open PySem PySem.Spec PyProof.Rows L2
/-! The walk of sorted(xs, key=lambda x: ..). -/
theorem rdAll_at {K : PySem.W.Frag} {ι : List Addr} {H : Hp} : ∀ {vs : List V} {ds : List D} {i : Nat} {v : V}, RdAll K ι H vs ds → vs[i]? = some v → ∃ d, ds[i]? = some d ∧ Rd K ι H v d
  | _, _, 0, v, .cons r rs, h => by cases h; exact ⟨_, rfl, r⟩
  | _, _, i + 1, v, .cons r rs, h => by simpa using rdAll_at rs (by simpa using h)
theorem ppAll_snoc {K : PySem.W.Frag} {H : Hp} {v : V} {d : PyData} (h : Pp K H v d) : ∀ {vs : List V} {ds : List PyData}, PpAll K H vs ds → PpAll K H (vs ++ [v]) (ds ++ [d])
  | _, _, .nil => .cons h .nil
  | _, _, .cons r rs => .cons r (ppAll_snoc h rs)
theorem vals_snoc {v : V} {u : Value} (h : RelV v u) : ∀ {vs : List V} {us : List Value}, Vals vs us → Vals (vs ++ [v]) (us ++ [u])
  | _, _, .nil => .cons h .nil
  | _, _, .cons r rs => .cons r (vals_snoc h rs)
theorem eachIs_of {α β : Type} {R : α → β → Prop} : ∀ {as : List α} {bs : List β}, as.length = bs.length → (∀ (i : Nat) (a : α) (b : β), as[i]? = some a → bs[i]? = some b → R a b) → PySem.W.EachIs R as bs
  | [], [], _, _ => .nil
  | [], _ :: _, h, _ => by cases h
  | _ :: _, [], h, _ => by cases h
  | a :: as, b :: bs, h, q => .cons (q 0 a b rfl rfl) (eachIs_of (by simpa using h) fun i x y hx hy => q (i + 1) x y (by simpa using hx) (by simpa using hy))
theorem dpAll_at {K : PySem.W.Frag} {H : Hp} : ∀ {vs : List V} {ds : List PyData} {i : Nat} {d : PyData}, DpAll K H vs ds → ds[i]? = some d → ∃ v, vs[i]? = some v ∧ Dp K H v d
  | _, _, 0, d, .cons r rs, h => by cases h; exact ⟨_, rfl, r⟩
  | _, _, i + 1, d, .cons r rs, h => by simpa using dpAll_at rs (by simpa using h)
theorem keyRun_len {P : Nat} {q : Str} {kf : D → Sto → R D} : ∀ {ds : List D} {S S2 : Sto} {kz : List PyData}, keyRun P q kf ds S = some (kz, S2) → kz.length = ds.length
  | [], S, S2, kz, h => by
    cases h
    rfl
  | d :: ds, S, S2, kz, h => by
    unfold keyRun at h
    split at h
    · split at h
      · rw [Option.map_eq_some_iff] at h
        obtain ⟨⟨kz', S'⟩, h1, h2⟩ := h
        cases h2
        simp [keyRun_len h1]
      · cases h
    · cases h
theorem each_split {X : Type} {R1 : V → Value → Prop} {R2 : V → D → Prop} : ∀ {us : List Value} {bs : List (X × D)}, PySem.W.EachIs (fun u b => ∃ v, R1 v u ∧ R2 v b.2) us bs → ∃ vs : List V, Paired R1 vs us ∧ Paired R2 vs (bs.map Prod.snd)
  | [], [], _ => ⟨[], .nil, .nil⟩
  | [], _ :: _, h => by cases h
  | _ :: _, [], h => by cases h
  | u :: us, b :: bs, h => by
    cases h with
    | cons h1 t =>
      obtain ⟨v, a1, a2⟩ := h1
      obtain ⟨vs, b1, b2⟩ := each_split t
      exact ⟨v :: vs, .cons a1 b1, .cons a2 b2⟩
theorem un_but {fs : List Addr} {H H' : Hp} {h h1 h2 : Heap} {C : Addr → Prop} (u : Un fs [] H H' h h1) (k : ∀ b o, ¬ C b → h1.get? b = some o → h2.get? b = some o) (hC : ∀ b, C b → h.objs.size ≤ b) : Un fs [] H H' h h2 := by
  have nc : ∀ {b : Addr} {o : Obj}, h.get? b = some o → ¬ C b := fun {b o} e c => Nat.lt_irrefl _ (Nat.lt_of_lt_of_le (Heap.lt_size e) (hC b c))
  exact ⟨fun b o e n f x => k b o (nc e) (u.keep b o e n f x), fun b o e n f x => by
      obtain ⟨sl, q⟩ := u.slot b o e n f x
      exact ⟨sl, k b _ (nc e) q⟩, u.free, fun b o e x => by
      obtain ⟨o', q⟩ := u.there b o e x
      exact ⟨o', k b o' (nc e) q⟩, u.tups, u.frzs, u.tbls⟩
theorem un_add {fs : List Addr} {H H' : Hp} {h h1 : Heap} {a : Addr} {o : HO} (u : Un fs [] H H' h h1) (ga : h.objs.size ≤ a) (na : H' a = none) : Un fs [] H (upd H' a o) h h1 := by
  have ne : ∀ {b : Addr} {x : HO}, H' b = some x → b ≠ a := fun {b x} e z => by rw [z, na] at e; cases e
  refine ⟨u.keep, u.slot, fun b ob e n x => ?_, u.there, fun b xs e => ?_, fun b ob v e => ?_, fun b ps e => ?_⟩
  · have : b ≠ a := fun z => Nat.lt_irrefl _ (Nat.lt_of_lt_of_le (Heap.lt_size e) (z ▸ ga))
    rw [upd_ne this]
    exact u.free b ob e n x
  · have q := u.tups b xs e
    rw [upd_ne (ne q)]
    exact q
  · have q := u.frzs b ob v e
    rw [upd_ne (ne q)]
    exact q
  · obtain ⟨more, q⟩ := u.tbls b ps e
    exact ⟨more, by rw [upd_ne (ne q)]; exact q⟩
section
variable {X : Cx} {pins : List (Addr × Obj)} {σ : L2.St} {H : Hp} {s : Shared}
/-- what stands while the keys are made -/
structure MidK (X : Cx) (s : Shared) (H : Hp) (ι : List Addr) (kS a : Addr) (e1 : Nat) (kA : Array Value) (e : Nat) (Hi : Hp) (ιi : List Addr) (Si : Sto) (vks : List V) (kz : List PyData) (s' : Shared) : Prop where
  os : s'.os = s.os
  bare : AllBare s'.gens
  un : Un (frs X.stack) [] H Hi s.heap s'.heap
  hok : HOk X.prog X.w Hi s'.heap
  post : Post X.K ι H ιi Hi Si
  hk : s'.heap.get? kS = some (seqObj "list" kA e)
  ha : s'.heap.get? a = some (seqObj "list" #[] e1)
  nk : Hi kS = none
  na : Hi a = none
  vals : Vals vks kA.toList
  pp : PpAll X.K Hi vks kz
theorem key_restI {f c' P kS a : Addr} {pm ctv : Value} {params : Arguments} {body : Expr} {scope : Scope} {x : Str} {lpos : Pos} {k e1 : Nat} {kf : Ex} {σd : En} {ι : List Addr} {S S2 : Sto} {ys : List V} {its : List Value} {ds : List D} {kz : List PyData} {q : Str} {R : PySem.Fin → Shared → Prop} {EE : Value → Shared → Prop} {h0 : Heap}
    (I : Inv X pins σ H s) (L : LamP x X.env.scope scope) (hq : q = X.env.qual ++ "<lambda>") (hf : s.heap.get? f = some (PySem.W.kla_obj "<lambda>" (X.env.qual ++ "<lambda>") params body scope (cloFrom X.env.cells scope.names []) pm c' ctv)) (hfn : H f = none) (hfr : f ∉ frs X.stack)
    (htb : ∃ ps, H P = some (.tbl ps) ∧ codeAmong lpos ps.toList = some (.ref c'))
    (hb : ∀ u : Value, bindArgs (PySem.W.kla_fn "<lambda>" (X.env.qual ++ "<lambda>") params body scope (cloFrom X.env.cells scope.names []) pm (.ref c') ctv) ⟨[u], []⟩ = pure [(x, u)])
    (gd : X.A.guards = some []) (rm : Room (k + 2) X.A)
    (hbody : ∀ (s : Shared) (H : Hp), PE (lamCxP X X.A.in1.in1 X.stack s H (fun _ _ _ => False) scope f c' x) body (wishE X.K X.mg kf (fun _ _ _ => False)))
    (hE : EnR X.K ι H σ σd) (hS : StR X.K ι H S) (hys : RdAll X.K ι H ys ds) (hv : Vals ys its) (hz : its.length ≤ sizeLine)
    (hkr : keyRun P q (fun d S => kf (σd ++ [some d]) S) ds S = some (kz, S2)) (hko : keysOk kz)
    (kp : ∀ b o, s.heap.get? b = some o → h0.get? b = some o) (hk0 : h0.get? kS = some (seqObj "list" #[] 0)) (ha0 : h0.get? a = some (seqObj "list" #[] e1)) (hka : kS ≠ a) (gk : s.heap.objs.size ≤ kS) (ga : s.heap.objs.size ≤ a)
    (h : ∀ (s' : Shared) (Hn : Hp) (ι' : List Addr) (ys' : List V), s'.os = s.os → AllBare s'.gens → Un (frs X.stack) [] H (upd Hn a (.lst ys')) s.heap s'.heap → HOk X.prog X.w (upd Hn a (.lst ys')) s'.heap → Post X.K ι H ι' Hn S2 → Hn a = none → ys'.length ≤ sizeLine → RdAll X.K ι' Hn ys' (byKeys kz ds) → R (.done (.ret .none)) s') :
    wpAny (model X.prog X.w) X.A.in1.in1 (ksk_rest a (.ref f) false its.toArray e1 (.ref kS)) R EE { s with heap := h0 } := by
  have noFr : ∀ b, s.heap.objs.size ≤ b → b ∉ frs X.stack := fun b hf z => by
    rcases List.mem_cons.mp (I.stkSub _ z) with e | e
    · have := I.lt
      rw [← e] at this
      exact absurd hf (Nat.not_le_of_lt this)
    · exact I.nofs hf e
  have lys : ys.length = its.length := hv.length
  have lds : ys.length = ds.length := hys.length
  unfold ksk_rest
  refine wpAny_bind (wpAny_rule ?_)
  first
    | rw [List.forIn_toArray]
    | (rw [← Array.forIn_toList]; simp only [List.toList_toArray])
    | rw [← Array.forIn_toList]
  refine wpAny_bind (ksk_fold (fun i s' => ∃ kA e Hi ιi Si vks, MidK X s H ι kS a e1 kA e Hi ιi Si vks (kz.take i) s' ∧ kA.size = i ∧ keyRun P q (fun d S => kf (σd ++ [some d]) S) (ds.drop i) Si = some (kz.drop i, S2)) its 0 _
    ⟨#[], 0, H, ι, S, [], ⟨rfl, I.bare, Un.kept kp, I.hok.kept kp, .refl hS, hk0, ha0, I.hok.fresh gk, I.hok.fresh ga, .nil, by rw [List.take_zero]; exact .nil⟩, rfl, by simpa using hkr⟩ ?step ?done)
  case step =>
    rintro j xv s' hx ⟨kA, e, Hi, ιi, Si, vks, M, hkA, hrun⟩
    simp only [Nat.zero_add] at M hkA hrun ⊢
    have hj : j < its.length := (List.getElem?_eq_some_iff.mp hx).1
    have hjy : j < ys.length := by omega
    have hy : ys[j]? = some ys[j] := List.getElem?_eq_getElem hjy
    obtain ⟨u, hu, ru⟩ := hv.get hy
    rw [hx] at hu
    cases hu
    obtain ⟨d, hd, rd⟩ := rdAll_at hys hy
    have hdj : j < ds.length := by omega
    have edr : ds.drop j = d :: ds.drop (j + 1) := by
      rw [List.drop_eq_getElem_cons hdj]
      congr 1
      rw [List.getElem?_eq_getElem hdj] at hd
      exact Option.some.inj hd
    rw [edr] at hrun
    unfold keyRun at hrun
    split at hrun
    · rename_i htab
      split at hrun
      · rename_i p S1 hkf
        rw [Option.map_eq_some_iff] at hrun
        obtain ⟨⟨kz', S2'⟩, hr1, hr2⟩ := hrun
        cases hr2' : kz.drop j with
        | nil => rw [hr2'] at hr2; cases hr2
        | cons p0 kz0 =>
          rw [hr2'] at hr2
          cases hr2
          have Ij : Inv X pins σ Hi s' := I.call' (ch := []) M.os M.un M.hok M.bare (fun b z => absurd z (by simp))
          have hfj : s'.heap.get? f = some (PySem.W.kla_obj "<lambda>" (X.env.qual ++ "<lambda>") params body scope (cloFrom X.env.cells scope.names []) pm c' ctv) := M.un.keep f _ hf hfn hfr (by simp)
          have hcj : Hi c' = some (LamX.CodeO c' (X.env.qual ++ "<lambda>")) := by
            obtain ⟨ps, hP, hc⟩ := htb
            obtain ⟨more, hP2⟩ := M.un.tbls P ps hP
            obtain ⟨ps2, hP3, _, am⟩ := M.post.sto.tb _ P q htab.choose_spec
            rw [hP2] at hP3
            cases hP3
            obtain ⟨c0, e0, e1⟩ := am lpos (.ref c') (by rw [Array.toList_append]; exact codeAmong_app _ hc)
            cases e0
            rw [← hq]
            exact e1
          have hlen := M.post.sto
          have rm2 : Room (k + 1) X.A.in1.in1 := ⟨rm.hd, by have := rm.dp; show X.A.depth + 3 * (k + 1) + 5 < _; omega, by have := rm.un; show X.A.units + 1 + 1 + 16 * (k + 1) + 200 < _; omega⟩
          have hwish : wishE X.K X.mg kf (fun _ _ _ => False) (σ ++ [some ys[j]]) Hi (fun v H' => ∃ ι', Post X.K ιi Hi ι' H' S1 ∧ DV.Rd X.K ι' H' v (.py p)) := by
            refine ⟨σd ++ [some d], Si, ιi, ⟨by simp [hE.len], fun i d' hi => ?_⟩, M.post.sto, ?_⟩
            · have hE2 := hE.mono M.post.pre M.post.keep
              by_cases hlt : i < σd.length
              · rw [List.getElem?_append_left hlt] at hi
                obtain ⟨v, e1, e2⟩ := hE2.at_ i d' hi
                exact ⟨v, by rw [List.getElem?_append_left (by rw [hE.len]; exact hlt)]; exact e1, e2⟩
              · rw [List.getElem?_append_right (by omega)] at hi
                have hi0 : i - σd.length = 0 := by
                  cases hq : i - σd.length with
                  | zero => rfl
                  | succ m => rw [hq] at hi; simp at hi
                rw [hi0] at hi
                have hi : d = d' := by simpa using hi
                subst hi
                exact ⟨ys[j], by rw [List.getElem?_append_right (by rw [hE.len]; omega), hE.len, hi0]; rfl, rd.mono M.post.pre M.post.keep⟩
            · show Wp X.K X.mg _ ιi Hi (relD X.K) (kf (σd ++ [some d]) Si) _
              have hkf : kf (σd ++ [some d]) Si = .ok (.py p) S1 := hkf
              rw [hkf]
              exact fun v H' ι' pp rr => ⟨ι', pp, rr⟩
          refine wpAny_bind (wpAny_attempt (wpAny_mono (lamP_call (A := X.A.in1.in1) Ij L hfj hcj hb rfl gd rm2 hbody ru hwish (fun _ _ => False)) (fun v s'' he => ?_) fun _ _ hF => hF.elim))
          obtain ⟨v1, H1, os1, bare1, un1, hok1, rv1, ι1, pp1, rr1⟩ := he
          have nfk : kS ∉ frs X.stack := noFr kS gk
          have nfa : a ∉ frs X.stack := noFr a ga
          have hk1 : s''.heap.get? kS = some (seqObj "list" kA e) := un1.keep kS _ M.hk M.nk nfk (by simp)
          have ha1 : s''.heap.get? a = some (seqObj "list" #[] e1) := un1.keep a _ M.ha M.na nfa (by simp)
          have nk1 : H1 kS = none := un1.free kS _ M.hk M.nk (by simp)
          have na1 : H1 a = none := un1.free a _ M.ha M.na (by simp)
          have sb := Heap.SameBut.update s''.heap kS (Obj.mapSeq (·.push v))
          obtain ⟨c2, hc2⟩ : ∃ c2, (s''.heap.update kS (Obj.mapSeq (·.push v))).get? kS = some (seqObj "list" (kA.push v) c2) := ⟨_, get?_update_seq hk1 (·.push v)⟩
          have hkz : kA.size ≤ sizeLine := by omega
          refine wpAny_bind (listUpdate_at hk1 rfl ?_ hkz (Nat.le_trans (Nat.le_of_eq (Array.size_push ..)) (Nat.succ_le_succ hkz)))
          have ek : kz.take (j + 1) = kz.take j ++ [p] := by
            have : kz[j]? = some p := by
              have := congrArg List.head? hr2'
              simpa using this
            rw [List.take_add_one, this]
            rfl
          have ez0 : kz.drop (j + 1) = kz' := by
            have := congrArg List.tail hr2'
            simpa using this
          have rp : Pp X.K H1 v1 p := by cases rr1 with | py r => exact r
          have kb : ∀ b o, b ≠ kS → s''.heap.get? b = some o → (s''.heap.update kS (Obj.mapSeq (·.push v))).get? b = some o := fun b o n e => (sb.2 b n).trans e
          refine wpAny_pure ⟨rfl, kA.push v, c2, H1, ι1, S1, vks ++ [v1], ⟨os1.trans M.os, bare1, un_but (C := fun b => b = kS) (M.un.trans un1) (fun b o n e => kb b o n e) (fun b c => by rw [c]; exact gk), ?_, M.post.trans pp1, hc2, kb a _ hka.symm ha1, nk1, na1, ?_, ?_⟩, by rw [Array.size_push, hkA], by rw [ez0]; exact hr1⟩
          · exact hok_but (C := fun b => b = kS) hok1 (fun b o n e => kb b o n e) (fun b e => by rw [e]; exact nk1)
          · rw [show (kA.push v).toList = kA.toList ++ [v] by simp]
            exact vals_snoc rv1 M.vals
          · rw [ek]
            exact ppAll_snoc rp (M.pp.keep pp1.keep)
      · cases hrun
    · cases hrun
  case done =>
    rintro s' ⟨kA, e, Hi, ιi, Si, vks, M, hkA, hrun⟩
    have lkz : kz.length = ds.length := keyRun_len hkr
    have el : 0 + its.length = kz.length := by omega
    rw [el] at M hrun
    rw [List.take_length] at M
    rw [List.drop_length, List.drop_of_length_le (by omega)] at hrun
    have hS2 : Si = S2 := by
      simp only [keyRun, Option.some.injEq, Prod.mk.injEq] at hrun
      exact hrun.2
    subst hS2
    have Ij : Inv X pins σ Hi s' := I.call' (ch := []) M.os M.un M.hok M.bare (fun b z => absurd z (by simp))
    obtain ⟨hal, hsk, hnd, hdp⟩ := hko
    have dpA := M.pp.dp hnd
    have lvk : vks.length = kA.toList.length := M.vals.length
    have hks : PySem.W.EachIs (fun v d => ∃ as, Reads s'.heap v d as) kA.toList kz := eachIs_of (by rw [Array.length_toList]; omega) fun i u d hu hd => by
      obtain ⟨v, hv1, hv2⟩ := dpAll_at dpA hd
      obtain ⟨u', hu', ru⟩ := M.vals.get hv1
      rw [hu] at hu'
      cases hu'
      exact Dp.reads Ij d v u hv2 ru
    have hu : ∀ d, d ∈ kz → X.A.in1.in1.units + d.depth < cLine := fun d hd => by
      have := PyData.depth_le_depthAll kz d hd
      have := rm.un
      show X.A.units + 1 + 1 + d.depth < cLine
      omega
    refine wpAny_bind (listItems_at M.hk rfl ?_)
    refine key_endI (κ := PySem.W.dataKind s'.heap kz) M.hk M.ha hka (PySem.W.SortsAt.data hks hal hsk hu) (by omega) hz fun h' c kb th ha' => ?_
    have hR : PySem.W.EachIs (fun u (b : PyData × D) => ∃ v, RelV v u ∧ DV.Rd X.K ιi Hi v b.2) its (kz.zip ds) := eachIs_of (by rw [List.length_zip]; omega) fun i u b hu hb => by
      have hb2 : ds[i]? = some b.2 := by
        rw [List.getElem?_zip_eq_some] at hb
        exact hb.2
      have hi : i < ys.length := by
        have := (List.getElem?_eq_some_iff.mp hu).1
        omega
      have hy : ys[i]? = some ys[i] := List.getElem?_eq_getElem hi
      obtain ⟨u', hu', ru⟩ := hv.get hy
      rw [hu] at hu'
      cases hu'
      obtain ⟨d, hd, rd⟩ := rdAll_at hys hy
      rw [hb2] at hd
      cases hd
      exact ⟨ys[i], ru, rd.mono M.post.pre M.post.keep⟩
    have hout := PySem.W.keyedOut_each (rev := false) (bs := kz.zip ds) (vs := its) (out := PySem.W.sortVals (PySem.W.dataKind s'.heap kz) false kA.toList its) Prod.fst ⟨s'.heap, kA.toList, by rw [List.map_fst_zip (by omega)]; exact hal, by rw [List.map_fst_zip (by omega)], by rw [List.map_fst_zip (by omega)]; exact hks⟩ hR
    obtain ⟨ys', v1, v2⟩ := each_split (R1 := fun v u => RelV v u) (R2 := DV.Rd X.K ιi Hi) hout
    have lo : (PySem.W.sortVals (PySem.W.dataKind s'.heap kz) false kA.toList its).length = its.length := PySem.W.sortVals_length false (by rw [Array.length_toList]; omega)
    have ly : ys'.length ≤ sizeLine := by rw [Vals.length v1, lo]; exact hz
    have hok' : HOk X.prog X.w Hi h' := hok_but (C := fun b => b = a ∨ b = kS) M.hok (fun b o n e => kb b o (fun z => n (.inl z)) (fun z => n (.inr z)) e) (fun b hc => by
      rcases hc with rfl | rfl
      · exact M.na
      · exact M.nk)
    refine h { s' with heap := h' } Hi ιi ys' M.os M.bare ?_ ?_ M.post M.na ly v2
    · refine un_add (un_but (C := fun b => b = a ∨ b = kS) M.un (fun b o n e => kb b o (fun z => n (.inl z)) (fun z => n (.inr z)) e) (fun b hc => ?_)) ga M.na
      rcases hc with rfl | rfl
      · exact ga
      · exact gk
    · exact hok_add hok' M.na ⟨ly, _, c, v1, ha'⟩
theorem sq_made {K : PySem.W.Frag} {H H1 : Hp} {P c' a : Addr} {q : Str} {xs : List V} (m : MadeL H H1 P c' q) (tb : LamX.TabS H P q) (h : SqL K H a xs) : SqL K H1 a xs := by
  have kp := m.keep tb
  rcases h with (h | ⟨o, h⟩) | h
  · rcases m.at_ h with z | ⟨rfl, _⟩
    · exact .inl (.inl z)
    · obtain ⟨ps, hP, _⟩ := tb
      rw [hP] at h
      cases h
  · exact .inl (.inr ⟨o, kp.frzs _ _ _ h⟩)
  · exact .inr h
open Classical in
theorem dl_sortKey {E : XK} {e : Expr} {f kf : Ex} {k : Nat} {cL P : Addr} {q x : Str} {params : Arguments} {body : Expr} {scope : Scope} {p lpos kpos pos : Pos} (o : Okx (k + 2) X E) (ha : DE X E e f) (hcode : X.env.code = .ref cL) (TB : LamX.TabB X.base X.mg cL P)
    (hq : q = X.env.qual ++ "<lambda>") (hL : lamPB x X.env.scope scope = true) (nd : (lamN X.N x).Nodup)
    (hfx : ∀ (A : Around) (outer : List Env) (s : Shared) (H : Hp) (E : XK) (f c' : Addr), Okx k (lamCxP X A outer s H E scope f c' x) E → DE (lamCxP X A outer s H E scope f c' x) E body kf)
    (hm : X.mg "sorted" = none) (hdef : defaultsOf params X.env = ([], []) := by rfl) (hb : ∀ (q : Str) (cl : List (Str × Addr)) (pm cv ctv u : Value), bindArgs (PySem.W.kla_fn "<lambda>" q params body scope cl pm cv ctv) ⟨[u], []⟩ = pure [(x, u)] := by intros; rfl)
    (hg : Gl X "sorted" := by rfl) (na : starEach [e] X.env = (false, eval e X.env) :: starEach [] X.env := by rfl) : DL X E (.Call (.Name "sorted" p) [e] [⟨some "key", .Lambda params body scope lpos, kpos⟩] pos) (sortKL P q f kf) := by
  refine ⟨fun σ H Q => ∃ σd S ι, EnR X.K ι H σ σd ∧ StR X.K ι H S ∧ Wp X.K X.mg E ι H (relL X.K H) (sortKL P q f kf σd S) Q, ⟨fun pins s σ H Q I hh => ?_⟩, fun σ H σd S ι Q hE hS h => ⟨σd, S, ι, hE, hS, h⟩⟩
  obtain ⟨σd, S, ι, hE, hS, hw⟩ := hh
  obtain ⟨t, pt, qt⟩ := ha
  have L := lamP_by hL
  refine wpAny_Call_Name_kw (ld_blt I hg hm (by rfl) ?_)
  refine PyProof.Rows.callWith_kw (PyProof.Rows.args_cons (thn (pt.run pins s σ H (fun v H1 => ∃ d S1 ι1, Post X.K ι H ι1 H1 S1 ∧ DV.Rd X.K ι1 H1 v d ∧ Wp X.K X.mg E ι1 H1 (relL X.K H) ((match seqOf S1 d with
    | some ds => if lstD d = true ∧ ds.length ≤ 4000 ∧ tabIn P q S1 then (match keyRun P q (fun d S => kf (σd ++ [some d]) S) ds S1 with
      | some (kz, S2) => if keysOk kz then .ok (byKeys kz ds) S2 else .no
      | none => .no) else .no
    | none => .no) : R (List D)) Q) I (qt σ H σd S ι _ hE hS (Wp.bind hw fun d S1 e1 v H1 ι1 p1 r1 h1 => ⟨d, S1, ι1, p1, r1, h1⟩))) fun u s1 ⟨v, H1, I1, r1, d, S1, ι1, p1, rd, h1⟩ => PyProof.Rows.args_nil ?_) na) (by rw [na]; rfl) (by rw [na]; rfl) (by rfl) (by rfl)
  split at h1
  · rename_i ds hds
    split at h1
    · rename_i hc
      obtain ⟨hl, h4, htab⟩ := hc
      split at h1
      · rename_i kz S2 hrun
        split at h1
        · rename_i hko
          obtain ⟨l, ys, rfl, hsq, hys⟩ := seq_of p1.sto rd hds
          have hsl : SqL X.K H1 l ys := by
            rcases hsq with z | ⟨_, ps, rfl, _⟩
            · exact z
            · cases hl
          cases r1
          have tb := p1.sto.tb _ _ _ htab.choose_spec
          show wpAny _ _ (evalAll [do let v ← eval (.Lambda params body scope lpos) X.env; standAt pos; pure v]) _ _ _
          subst hq
          refine wpAny_evalAll_cons (wpAny_bind (lam_mkC I1 TB hcode tb hdef (L.has I1.ok) fun fa c' pm ctv H2 s2 I2 made tb2 hf hfn hfr htb => wpAny_bind (wpAny_standAt (wpAny_pure (wpAny_evalAll_nil ?_)))))
          have P2 := made.post p1.sto htab tb2
          have hsl2 := sq_made made tb hsl
          obtain ⟨its, rv, pl, hz⟩ := I2.list hsl2
          have hz2 : its.length ≤ sizeLine := by rw [← rv.length]; exact hz
          show wpAny _ _ (call (.builtin "sorted") [.ref l] [(Str.ofString "key", .ref fa)]) _ _ _
          refine PySem.W.sorted_of_sort (vs := its) pl.isList hz2 (ksk_s1 _ _) (fun x => ksk_l1 _ _) fun E' => ?_
          rw [ksk_t1]
          have ho : (PySem.W.copyHeap s2.heap its).get? (s2.heap.objs.size + 1) = some (seqObj "list" its.toArray 0) := PySem.W.copyHeap_at _ _
          obtain ⟨e1, ho1⟩ : ∃ e1, ((PySem.W.copyHeap s2.heap its).update (s2.heap.objs.size + 1) (Obj.mapSeq fun _ => (#[] : Array Value))).get? (s2.heap.objs.size + 1) = some (seqObj "list" #[] e1) := ⟨_, get?_update_seq ho fun _ => #[]⟩
          have sb := Heap.SameBut.update (PySem.W.copyHeap s2.heap its) (s2.heap.objs.size + 1) (Obj.mapSeq fun _ => (#[] : Array Value))
          have ca : s2.heap.objs.size + 1 < (PySem.W.copyHeap s2.heap its).objs.size := Heap.lt_size ho
          have hkS : (((PySem.W.copyHeap s2.heap its).update (s2.heap.objs.size + 1) (Obj.mapSeq fun _ => (#[] : Array Value))).push (seqObj "tuple" its.toArray 0)).objs.size = (PySem.W.copyHeap s2.heap its).objs.size + 1 := by rw [size_push', Heap.size_update]
          unfold ksk_tree
          refine wpAny_bind (listItems_at ho rfl ?_)
          refine wpAny_bind (listUpdate_at ho rfl ?_ (by rw [List.size_toArray]; exact hz2) (Nat.zero_le _))
          refine wpAny_bind (seqEpoch_at ho1 rfl ?_)
          refine wpAny_bind (wpAny_newTuple ?_ (by show its.length ≤ _; exact hz2))
          refine wpAny_bind (wpAny_newList ?_ (Nat.zero_le _))
          refine wpAny_holding ?_
          refine key_restI (s := s2) (H := H2) (ι := ι1) (S := S1) (σd := σd) (kz := kz) (S2 := S2) (ds := ds) (ys := ys) (kf := kf) (k := k) (lpos := lpos) (P := P) (kS := (((PySem.W.copyHeap s2.heap its).update (s2.heap.objs.size + 1) (Obj.mapSeq fun _ => (#[] : Array Value))).push (seqObj "tuple" its.toArray 0)).objs.size)
            (h0 := (((PySem.W.copyHeap s2.heap its).update (s2.heap.objs.size + 1) (Obj.mapSeq fun _ => (#[] : Array Value))).push (seqObj "tuple" its.toArray 0)).push (seqObj "list" #[] 0))
            I2 L rfl hf hfn hfr htb (fun u => hb _ _ _ _ _ u) o.gd o.room (fun s H => pe_wish (hfx X.A.in1.in1 X.stack s H _ fa c' (okx_lamP nd ?_ o.gd))) ((hE.mono p1.pre p1.keep).mono P2.pre P2.keep) P2.sto (hys.mono P2.pre P2.keep) rv hz2 hrun hko (fun b ob eb => ?_) (Heap.get?_push_size _ rfl) (Heap.get?_push_of_some _ (Heap.get?_push_of_some _ ho1)) (by rw [hkS]; exact Nat.ne_of_gt (Nat.lt_succ_of_lt ca)) (by rw [hkS]; exact Nat.le_trans (Nat.le_succ _) (Nat.le_succ_of_le (Nat.le_of_lt ca))) (Nat.le_succ _)
            fun s' Hn ι' ys' os bare un hok post na ly rr => ⟨rfl, ?_⟩
          · have rm := o.room
            exact ⟨rm.hd, by have := rm.dp; show X.A.depth + 1 + 3 * k + 5 < _; omega, by have := rm.un; show X.A.units + 1 + 1 + 3 + 16 * k + 200 < _; omega⟩
          · have hb' : b ≠ s2.heap.objs.size + 1 := fun z => absurd (Heap.lt_size eb) (by rw [z]; exact Nat.not_lt_of_le (Nat.le_succ _))
            exact Heap.get?_push_of_some _ (Heap.get?_push_of_some _ ((sb.2 b hb').trans (PySem.W.copyHeap_old eb)))
          · have J : Inv X pins σ (upd Hn (s2.heap.objs.size + 1) (.lst ys')) s' := I2.call' (ch := []) os un hok bare (fun b z => absurd z (by simp))
            have PP := (p1.trans P2).trans post
            refine ⟨.ref (s2.heap.objs.size + 1), _, J, rfl, h1 _ _ _ ((P2.trans post).trans (.new post.sto na)) ⟨_, ys', ?_, rfl, upd_same, post.sto.notin na, ly, rr.mono (List.prefix_refl _) (.new na)⟩⟩
            cases q0 : H (s2.heap.objs.size + 1) with
            | none => rfl
            | some u => exact absurd na (PP.dom _ (by rw [q0]; simp))
        · exact h1.elim
      · exact h1.elim
    · exact h1.elim
  · exact h1.elim
end
end DV

set_option maxHeartbeats 4000000
namespace DV
open PySem PySem.Spec PyProof.Rows L2
/-! len(set(a tuple of whole numbers)) -/
section
variable {X : Cx} {E : XK} {a b e : Expr} {f g : Ex} {k : Nat} {pos p p1 p2 p3 q : Pos}
end
end DV

set_option maxHeartbeats 4000000
namespace DV
open PySem PySem.Spec PyProof.Rows L2
/-! dicts with tuple keys that are changed: {}, d[a, b] = v, (a, b) in d -/
def dnewT : Ex := fun _ S => .ok (.obj S.length) (S ++ [.dt []])
/-- a key from a tuple of whole numbers and texts -/
def keyOfP : PyData → Option Key
  | .int i => some (.inl i)
  | .str x => some (.inr x)
  | _ => none
def keysOf : List PyData → Option (List Key)
  | [] => some []
  | d :: ds => match keyOfP d, keysOf ds with
    | some k, some ks => some (k :: ks)
    | _, _ => none
def putP (es : List (List Key × PyData)) (k : List Key) (v : PyData) : List (List Key × PyData) :=
  if (es.any fun kv => decide (kv.1 = k)) = true then es.map (fun kv => if kv.1 = k then (kv.1, v) else kv) else es ++ [(k, v)]
/-- x[k] = v: the value, the dict, the key -/
def dputS (v x : Ex) (k : Ax) : Sx := fun σ S => (v σ S).run fun dv S1 => (x σ S1).run fun dx S2 => (k σ S2).run fun ks S3 => match dv, dx, pysOf ks with
  | .py p, .obj n, some ps => (match keysOf ps, S3[n]? with
    | some key, some (.dt es) => if es.length < 100000 then .nx σ (S3.set n (.dt (putP es key p))) else .no
    | _, _ => .no)
  | _, _, _ => .no
/-- k in x: the key, the dict -/
def dinE (k : Ax) (x : Ex) : Ex := fun σ S => (k σ S).bind fun ks S1 => (x σ S1).bind fun dx S2 => match dx, pysOf ks with
  | .obj n, some ps => (match keysOf ps, S2[n]? with
    | some key, some (.dt es) => .ok (.py (.bool (es.any fun kv => decide (kv.1 = key)))) S2
    | _, _ => .no)
  | _, _ => .no
section
variable {K : PySem.W.Frag} {ι ι' : List Addr} {H H' : Hp} {S S' : Sto}
theorem KeepA.dt {H : Hp} {p : Addr} {kvs : List (List Key × V)} {o : HO} (h : H p = some (.dT kvs)) : KeepA H (upd H p o) := by
  have ne : ∀ (b : Addr) (u : HO), H b = some u → (∀ kvs, u ≠ .dT kvs) → upd H p o b = some u := fun b u e n => by
    rw [upd_ne (fun z => by subst z; rw [h] at e; cases e; exact n kvs rfl)]
    exact e
  exact ⟨⟨fun b xs e => ne b _ e (fun _ z => by cases z), fun b o u e => ne b _ e (fun _ z => by cases z)⟩, fun P q ⟨ps, h1, h2, h3⟩ => ⟨ps, ne _ _ h1 (fun _ z => by cases z), h2, fun pos cv hc => by
    obtain ⟨c, e1, e2⟩ := h3 pos cv hc
    exact ⟨c, e1, ne _ _ e2 (fun _ z => by unfold LamX.CodeO at z; cases z)⟩⟩⟩
end
section
variable {X : Cx} {E : XK} {v x : Ex} {k : Ax} {ve xe : Expr} {ks : List Expr} {x1 : Nat} {pos pos' tpos : Pos}
end
end DV

set_option maxHeartbeats 4000000
/-! t.index(x), dict(t) of tuples made in the run. -/
namespace DV
open PySem PySem.Spec PyProof.Rows L2
section
variable {X : Cx} {E : XK} {pins : List (Addr × Obj)} {σ : L2.St} {H : Hp} {s : Shared}
theorem FT.at_ {a : Addr} {xs : List V} (I : Inv X pins σ H s) (h : FT X.K H a xs) : ∃ o its n, s.heap.get? a = some o ∧ o.cls = .type "tuple" ∧ o.dict = none ∧ o.data = .seq its n ∧ its.size ≤ sizeLine ∧ Vals xs its.toList := by
  rcases h with ⟨o, h, d⟩ | ⟨o, its, n, h1, h2, h3, h4, h5, h6⟩
  · obtain ⟨e, hz, us, r, o2, e2, hc, n, hd⟩ := I.hok a _ h
    cases e.symm.trans e2
    exact ⟨o, us.toArray, n, e, hc, d, hd, by rw [List.size_toArray, ← r.length]; exact hz, by simpa using r⟩
  · exact ⟨o, its, n, I.kIn a o h1, h2, h3, h4, h5, h6⟩
variable {o e : Expr} {es : List Expr} {to : TE} {t : TA} {name : Str} {apos cpos pos p : Pos} {id : String} {r : V → List V → Hp → VK → Prop} {f : Ex} {fs : Ax}
def methT (g : D → List D → Sto → R D) (o : Ex) (a : Ax) : Ex := fun σ S => (o σ S).bind fun x S1 => match x with
  | .py (.tuple _) => (a σ S1).bind fun ds S2 => g x ds S2
  | _ => .no
/-! ### dict(t) -/
end
end DV

set_option maxHeartbeats 4000000
/-! sorted(set(xs)), xs a list of whole numbers. -/
namespace L2
open PySem PySem.Spec PyProof.Rows
section
variable {P : Program} {w : World} {A : Around} {E : Value → Shared → Prop} {s : Shared}
/-- the set that was made just now -/
abbrev newSet (w : World) : Obj := { cls := .type "set", dict := none, data := .set #[] 0 (.fresh 0 0 (!w.params.followText "set-order")) }
set_option maxRecDepth 100000 in
set_option maxHeartbeats 3200000 in
theorem call_set_lstI {l : Addr} {items : Array Value} (ns : List Int) {Q : Value → Shared → Prop} (hh : A.handled = none) (hl : s.heap.IsList l items) (hit : IntsAre items.toList ns) (hb : ns.length + 1 < scanBound)
    (h : ∀ (h' : Heap) (tk c : Nat), SetR w h' s.heap.objs.size (fun j => decide (j ∈ ns)) c → c ≤ ns.length → (∀ b o, s.heap.get? b = some o → h'.get? b = some o) → Q (.ref s.heap.objs.size) { s with heap := h', toks := tk }) :
    wpAny (model P w) A (call (.type "set") [.ref l]) Q E s := by
  have many : items.size = ns.length := by
    have q := IntsAre.length hit
    rwa [Array.length_toList] at q
  obtain ⟨cT, tT, hmro⟩ := F.called_set.mro
  have g1 := F.called_set.made
  have g2 := F.called_set.sub
  refine wpAny_call (codeAny_of_tree ?_)
  show wpAny _ _ (callAny (.type "set") _) _ _ _
  refine wpAny_pure ⟨Code.quiet_builtin _ (by decide +kernel), codeAny_builtin F.entry_type_call ?_⟩
  rw [Around.under_plain (weight_type_call_type "set" [.ref l] []) rfl]
  have g3 := F.called_set.notType
  have g4 := F.called_set.canCreate
  have g5 := F.typeCall_set_1 (.ref l)
  repeat (any_goals (first | assumption | wp_step))
  refine codeAny_mono (code_set_led1 (.ref l) (E := E) (Q₁ := fun v s₁ => v = .ref s.heap.objs.size ∧ s₁ = { s with heap := s.heap.push (newSet w) }) ⟨rfl, rfl⟩) fun r s₁ hr => ?_
  match r, hr with
  | .error e, hr => exact hr
  | .ok .next, hr => exact hr.elim
  | .ok .brk, hr => exact hr.elim
  | .ok .cont, hr => exact hr.elim
  | .ok (.ret v), ⟨e1, e2⟩ =>
    subst e1 e2
    have at0 : (s.heap.push (newSet w)).get? s.heap.objs.size = some (newSet w) := Heap.get?_push_size _ rfl
    have g6 : Shared.TypeIs { s with heap := s.heap.push (newSet w) } (.ref s.heap.objs.size) "set" := ⟨_, at0, rfl⟩
    have g7 := F.called_set.init.lookup
    have g8 := F.called_set.init.bind (.ref s.heap.objs.size)
    repeat (any_goals (first | assumption | wp_step))
    refine codeAny_mono (codeAny_call_builtin (R := wants (fun r s₂ => r = .none ∧ ∃ h' tk c, s₂ = { s with heap := h', toks := tk } ∧ SetR w h' s.heap.objs.size (fun j => decide (j ∈ ns)) c ∧ c ≤ ns.length ∧
        (∀ b o, s.heap.get? b = some o → h'.get? b = some o)) E) F.called_set.init.plain F.entry_set_init (check_set_init_1 g6 ?_)) fun r₂ s₂ hr₂ => ?_
    · obtain ⟨⟨cl, di, da, sl⟩, hol, hcl, nl, hdl⟩ := hl
      simp only at hcl hdl
      subst hcl hdl
      have hol2 : (s.heap.push (newSet w)).get? l = some { cls := .type "list", dict := di, data := .seq items nl, slots := sl } := Heap.get?_push_of_some _ hol
      have g9 := F.sub_list_set
      have g10 := F.sub_list_frozenset
      have g11 : (Value.type "list" == Value.type "dict") = false := by decide
      have isL : (s.heap.push (newSet w)).IsList l items := ⟨_, hol2, rfl, nl, rfl⟩
      unfold Builtin.«set.__init__» noKeywords Builtin.Frozenset.updateFrom
      generalize hPI : pyIter = PI
      wp_walk
      subst hPI
      refine wpAny_pyIter_list isL ?_
      refine wpAny_bind (wpAny_runValue ?_)
      have lt : l < s.heap.objs.size := Heap.lt_size hol
      have hh3 : A.in1.in1.in1.handled = none := by simp [hh]
      have sz1 : (s.heap.push (newSet w)).objs.size = s.heap.objs.size + 1 := Heap.size_push ..
      have off : s.heap.objs.size ∉ [(s.heap.push (newSet w)).objs.size, l] := by
        rw [sz1]
        simp only [List.mem_cons, List.not_mem_nil, or_false, not_or]
        exact ⟨Nat.ne_of_lt (Nat.lt_succ_self _), Nat.ne_of_gt lt⟩
      have vals : ∀ (i : Nat) (v : Value), items[i]? = some v → ∃ k t, ns[i]? = some k ∧ v = .int k t := fun i v hv => by
        have hi : i < ns.length := by rw [← many]; exact (Array.getElem?_eq_some_iff.mp hv).1
        obtain ⟨t, e⟩ := PyProof.Rows.IntsAre.int_at hit i v (by rw [Array.getElem?_toList]; exact hv)
        exact ⟨ns[i], t, List.getElem?_eq_getElem hi, by rw [e, List.getD_eq_getElem?_getD, List.getElem?_eq_getElem hi] <;> rfl⟩
      refine set_update_ints ((Walks.list hh3 _ l (by rw [sz1]; exact Nat.ne_of_lt (Nat.lt_succ_of_lt lt)) items).toS) s.heap.objs.size off ns many hb vals (items.size - 0) 0 _ (by omega) (Nat.zero_le _)
        ⟨⟨_, Heap.get?_push_size _ rfl, rfl, rfl⟩, (isL.push _)⟩ ⟨0, Nat.le_refl 0, setR_new_at (Heap.get?_push_of_some _ at0)⟩ fun s' c' hm hc' hS' => ?_
      obtain ⟨h', g', d', tk', os'⟩ := s'
      have e1 : g' = s.gens := hm.gens
      have e2 : d' = s.drawn := hm.drawn
      have e3 : os' = s.os := hm.os
      subst e1 e2 e3
      show wpAny _ _ _ _ _ _
      refine wpAny_pure ?_
      show wpAny _ _ (ret Value.none) _ _ _
      rw [many] at hc'
      refine wpAny_pure ⟨rfl, h', tk', c', rfl, hS', hc', fun b o e => ?_⟩
      have hb0 : b < s.heap.objs.size := Heap.lt_size e
      refine hm.heap b o ?_ (Heap.get?_push_of_some _ (Heap.get?_push_of_some _ e))
      rw [sz1]
      simp only [List.mem_cons, List.not_mem_nil, or_false, not_or]
      exact ⟨Nat.ne_of_lt hb0, Nat.ne_of_lt (Nat.lt_succ_of_lt hb0)⟩
    · match r₂, hr₂ with
      | .error e, hr₂ => exact hr₂
      | .ok .next, hr₂ => exact hr₂.elim
      | .ok .brk, hr₂ => exact hr₂.elim
      | .ok .cont, hr₂ => exact hr₂.elim
      | .ok (.ret r), ⟨e4, h', tk, c', e5, hS', hc', hk'⟩ =>
        subst e4 e5
        repeat (any_goals (first | assumption | wp_step))
        exact h _ _ _ hS' hc' hk'
end
end L2
namespace DV
open PySem PySem.Spec PyProof.Rows L2
def putI (x : Int) : List Int → List Int
  | [] => [x]
  | y :: r => if x < y then x :: y :: r else if x = y then y :: r else y :: putI x r
/-- the numbers of a list in order, each once -/
def riseI (ns : List Int) : List Int := ns.foldr putI []
theorem mem_putI {x z : Int} : ∀ {l : List Int}, z ∈ putI x l ↔ z = x ∨ z ∈ l
  | [] => by simp [putI]
  | y :: r => by
    unfold putI
    split
    · simp
    · split
      · rename_i h
        subst h
        simp
      · simp only [List.mem_cons, mem_putI (l := r)]
        constructor
        · rintro (h | h | h)
          · exact .inr (.inl h)
          · exact .inl h
          · exact .inr (.inr h)
        · rintro (h | h | h)
          · exact .inr (.inl h)
          · exact .inl h
          · exact .inr (.inr h)
theorem rise_putI {x : Int} : ∀ {l : List Int}, l.Pairwise (· < ·) → (putI x l).Pairwise (· < ·)
  | [], _ => by simp [putI]
  | y :: r, h => by
    obtain ⟨h1, h2⟩ := List.pairwise_cons.mp h
    unfold putI
    split
    · rename_i hx
      exact List.pairwise_cons.mpr ⟨fun z hz => by
        rcases List.mem_cons.mp hz with rfl | hz
        · exact hx
        · have := h1 z hz
          omega, h⟩
    · split
      · exact h
      · rename_i hx hy
        exact List.pairwise_cons.mpr ⟨fun z hz => by
          rcases mem_putI.mp hz with rfl | hz
          · omega
          · exact h1 z hz, rise_putI h2⟩
theorem rise_riseI (ns : List Int) : (riseI ns).Pairwise (· < ·) := by
  induction ns with
  | nil => simp [riseI]
  | cons x r ih => exact rise_putI ih
theorem mem_riseI {ns : List Int} {z : Int} : z ∈ riseI ns ↔ z ∈ ns := by
  induction ns with
  | nil => simp [riseI]
  | cons x r ih =>
    show z ∈ putI x (riseI r) ↔ _
    rw [mem_putI, ih, List.mem_cons]
theorem rise_same : ∀ {a b : List Int}, a.Pairwise (· < ·) → b.Pairwise (· < ·) → (∀ z, z ∈ a ↔ z ∈ b) → a = b
  | [], [], _, _, _ => rfl
  | [], y :: b, _, _, h => by have := (h y).mpr (by simp); cases this
  | x :: a, [], _, _, h => by have := (h x).mp (by simp); cases this
  | x :: a, y :: b, ha, hb, h => by
    obtain ⟨a1, a2⟩ := List.pairwise_cons.mp ha
    obtain ⟨b1, b2⟩ := List.pairwise_cons.mp hb
    have e : x = y := by
      have h1 := (h x).mp (by simp)
      have h2 := (h y).mpr (by simp)
      rcases List.mem_cons.mp h1 with e | h1
      · exact e
      · rcases List.mem_cons.mp h2 with e | h2
        · exact e.symm
        · have := b1 x h1
          have := a1 y h2
          omega
    subst e
    rw [rise_same a2 b2 fun z => ?_]
    have := h z
    simp only [List.mem_cons] at this
    constructor
    · intro hz
      rcases this.mp (.inr hz) with e | e
      · have := a1 z hz
        omega
      · exact e
    · intro hz
      rcases this.mpr (.inr hz) with e | e
      · have := b1 z hz
        omega
      · exact e
section
variable {X : Cx} {E : XK} {e : Expr} {f : Ex} {p p2 q pos : Pos}
def sortSetL (f : Ex) : Ax := fun σ S => (f σ S).bind fun d S1 => match d with
  | .py (.list ds) => (match intsOf ds with
    | some ns => if ns.length < 64 then .ok ((riseI ns).map fun i => D.py (.int i)) S1 else .no
    | none => .no)
  | _ => .no
/-- sorted(set(xs)) -/
theorem pe_sortSet {a : Expr} {ta : TE} (hc : X.calm = true) (hg : Gl X "sorted") (hm : X.mg "sorted" = none) (hg2 : Gl X "set") (hm2 : X.mg "set" = none) (ha : PE X a ta)
    (na : starEach [a] X.env = (false, eval a X.env) :: starEach [] X.env := by rfl)
    (nb : starEach [.Call (.Name "set" p2) [a] [] q] X.env = (false, eval (.Call (.Name "set" p2) [a] [] q) X.env) :: starEach [] X.env := by rfl) :
    PE X (.Call (.Name "sorted" p) [.Call (.Name "set" p2) [a] [] q] [] pos) (fun σ H Q => ta σ H fun x H1 => ∃ l, ∃ ns : List Int, x = .ref l ∧ SqL X.K H1 l (ns.map V.int) ∧ ns.length < 64 ∧ ∀ p, H1 p = none → Q (.ref p) (upd H1 p (.lst ((riseI ns).map V.int)))) := by
  refine ⟨fun pins s σ H Q I h => ?_⟩
  refine Call_ (ld_blt I hg hm (by rfl) ?_)
  refine PyProof.Rows.callWith_builtin1 (PyProof.Rows.args_cons ?_ nb) nb rfl
  refine Call_ (ld_blt I hg2 hm2 boot_set ?_)
  refine PyProof.Rows.callWith_type1 (PyProof.Rows.args_cons (thn (ha.run pins s σ H _ I h) fun v s1 ⟨x, H1, I1, r1, q1⟩ => PyProof.Rows.args_nil ?_) na) na rfl
  obtain ⟨l, ns, rfl, hq, hl, q1⟩ := q1
  cases r1
  obtain ⟨its, r, pl, hz⟩ := I1.list hq
  have sb : ns.length + 1 < scanBound := by unfold scanBound; omega
  refine call_set_lstI ns (I1.ok.hd hc) pl.isList (by simpa using ints_of_vals r) sb fun h' tk c hS hcc hk => ?_
  refine PyProof.Rows.args_nil ?_
  have I2 : Inv X pins σ H1 { s1 with heap := h', toks := tk } := I1.kept fun b o e => hk b o e
  refine sorted_set hS (I1.ok.hd hc) (by omega) fun s' pp out cc ms k1 g1 o1 hsz hpp hI hrise hmem hlen => ?_
  have eq : ms = riseI ns := rise_same hrise (rise_riseI ns) fun z => by rw [hmem z, mem_riseI]; simp
  subst eq
  have room : ((riseI ns).map V.int).length ≤ sizeLine := by rw [List.length_map, hlen, sizeLine_eq]; omega
  have free : H1 pp = none := I2.hok.fresh hsz
  have J : Inv X pins σ (upd H1 pp (.lst ((riseI ns).map V.int))) { { s1 with heap := h', toks := tk } with heap := s'.heap, gens := s'.gens, drawn := s'.drawn, toks := s'.toks } :=
    I2.call (ch := []) (Un.laid k1 hsz free) (I2.hok.laid k1 hsz ⟨room, out.toList, cc, vals_of_ints hI, hpp⟩) (by rw [g1]; exact I2.bare) (fun _ z => nomatch z)
  have same : s' = { s1 with heap := s'.heap, gens := s'.gens, drawn := s'.drawn, toks := s'.toks } := by
    cases s'
    cases s1
    cases o1
    rfl
  rw [same]
  have J : Inv X pins σ (upd H1 pp (.lst ((riseI ns).map V.int))) { s1 with heap := s'.heap, gens := s'.gens, drawn := s'.drawn, toks := s'.toks } := J
  exact ⟨.ref pp, _, J, rfl, q1 pp free⟩
theorem putI_len (x : Int) : ∀ l : List Int, (putI x l).length ≤ l.length + 1
  | [] => by simp [putI]
  | y :: l => by
    have := putI_len x l
    unfold putI
    split
    · simp
    · split
      · simp
      · simp only [List.length_cons]
        omega
theorem riseI_len : ∀ ns : List Int, (riseI ns).length ≤ ns.length
  | [] => by simp [riseI]
  | x :: r => by
    have h1 := riseI_len r
    have h2 := putI_len x (riseI r)
    have e : riseI (x :: r) = putI x (riseI r) := rfl
    rw [e]
    simp only [List.length_cons]
    omega
theorem rd_ints {K : PySem.W.Frag} {ι : List Addr} {H : Hp} : ∀ ms : List Int, RdAll K ι H (ms.map V.int) (ms.map fun i => D.py (.int i))
  | [] => .nil
  | m :: ms => .cons (.py (.int m)) (rd_ints ms)
theorem dl_sortSet {k : Nat} (o : Okx k X E) (hm : X.mg "sorted" = none) (hm2 : X.mg "set" = none) (ha : DE X E e f) (hg : Gl X "sorted" := by rfl) (hg2 : Gl X "set" := by rfl)
    (na : starEach [e] X.env = (false, eval e X.env) :: starEach [] X.env := by rfl)
    (nb : starEach [.Call (.Name "set" p2) [e] [] q] X.env = (false, eval (.Call (.Name "set" p2) [e] [] q) X.env) :: starEach [] X.env := by rfl) :
    DL X E (.Call (.Name "sorted" p) [.Call (.Name "set" p2) [e] [] q] [] pos) (sortSetL f) := by
  obtain ⟨t, pt, qt⟩ := ha
  refine ⟨_, pe_sortSet o.calm hg hm hg2 hm2 pt na nb, fun σ H σd S ι Q hE hS h => ?_⟩
  refine qt σ H σd S ι _ hE hS (Wp.bind h fun d S1 _ v H1 ι1 p1 r1 h1 => ?_)
  split at h1
  · split at h1
    · rename_i ns hns
      split at h1
      · rename_i hl
        cases r1 with
        | py r1 =>
          cases r1 with
          | lst hF hz al =>
            refine ⟨_, ns, rfl, ints_V al hns ▸ hF.sq, hl, fun pp hp => ?_⟩
            refine h1 _ _ _ (.new p1.sto hp) ⟨pp, _, ?_, rfl, upd_same, p1.sto.notin hp, ?_, ?_⟩
            · cases q0 : H pp with
              | none => rfl
              | some u => exact absurd hp (p1.dom _ (by rw [q0]; simp))
            · rw [List.length_map, sizeLine_eq]
              have := riseI_len ns
              omega
            · exact rd_ints _
      · exact h1.elim
    · exact h1.elim
  · exact h1.elim
end
end DV

set_option maxHeartbeats 4000000
namespace DV
open PySem PySem.Spec PyProof.Rows L2
/-! The end of a law where two defs make lambdas: their tables are numbers 0 and 1 of the store. -/
section
variable {P : Program} {w : World} {K : PySem.W.Frag} {mg : Str → Option Value} {base : Heap}
theorem law_atT2 {k : Nat} {fa a T U : Addr} {q r : Str} {fd : FuncData} {x : Str} {F : List D → Sto → R D} {s : Shared} {ns : List Int} {H : Hp}
    (hF : FnD P w K mg base k fa fd [x] F) (hr : Room k callerA) (e0 : Env0 P w K mg base callerA [] s H) (hb : ∀ (s : Shared) (u : Value), BindsTo s fd ⟨[u], []⟩ [(x, u)]) (hl : ns.length ≤ sizeLine)
    (hS : FL K H a (ns.map V.int)) (hT : H T = some (.tbl #[])) (hU : H U = some (.tbl #[])) (ne : T ≠ U) (res : ∃ S', F [.py (.list (ns.map .int))] [.tab T q, .tab U r] = .ok (.py (.bool true)) S') :
    codeAny (model P w) callerA (.call (.ref fa) ⟨[.ref a], []⟩) (fun r s' => r = .ok (.ret (.bool true)) ∧ s'.os = s.os ∧ AllBare s'.gens ∧ ∃ H', Un [] [] H H' s.heap s'.heap ∧ HOk P w H' s'.heap) s := by
  obtain ⟨S', hres⟩ := res
  have hsp : spD K mg 1 F [.ref a] H (fun v _ => v = .bl true) fun _ _ _ => False := by
    refine ⟨rfl, [T, U], [.tab T q, .tab U r], [.py (.list (ns.map .int))], ⟨rfl, by simp [ne], fun n b e => ?_, fun n o b e1 e2 => ?_, fun n P' q' e => ?_⟩, .cons (.py (.lst hS (by rw [List.length_map]; exact hl) (ints_pp ns))) .nil, ?_⟩
    · match n, e with
      | 0, e => cases e; rw [hT]; simp
      | 1, e => cases e; rw [hU]; simp
      | n + 2, e => simp at e
    · match n, e1, e2 with
      | 0, e1, e2 => cases e1; cases e2; exact .tab
      | 1, e1, e2 => cases e1; cases e2; exact .tab
      | n + 2, e1, e2 => simp at e1
    · match n, e with
      | 0, e => cases e; exact LamX.TabS.nil hT
      | 1, e => cases e; exact LamX.TabS.nil hU
      | n + 2, e => simp at e
    · rw [hres]
      exact fun v H' ι' _ r => bool_of r
  refine codeAny_mono (hF.run callerA [] s H ⟨[.ref a], []⟩ [.ref a] [.ref a] _ _ hr rfl e0 (hb s (.ref a)) (.cons rfl .nil) hsp) fun r s' h => ?_
  match r, h with
  | .error e, h => exact (cx_false h).elim
  | .ok .next, h => exact h.elim
  | .ok .brk, h => exact h.elim
  | .ok .cont, h => exact h.elim
  | .ok (.ret u), ⟨v, H', os, bare, un, hok, rv, q⟩ =>
    have q' : v = .bl true := q
    subst q'
    have e : u = Value.bool true := rv
    exact ⟨by rw [e], os, bare, H', un, hok⟩
theorem law_callT2 {mb : Str → Option Value} {k : Nat} {fa a T U cL cU : Addr} {q r : Str} {fd : FuncData} {x : Str} {F : List D → Sto → R D} {s : Shared} {vs : List Value} {ns : List Int}
    (KX : K.In s.heap) (hns : s.heap.Ns mainGlobals mg) (hb : s.heap.Ns builtinsNs mb) (hbb : ∀ x : Str, x ≠ "__name__" → mb x = bootBuiltins x) (hlim : s.heap.NoLimit) (hg : s.gens = #[])
    (hT : s.heap.get? T = some (PySem.W.tabObj #[])) (nT : K.lookup T = none) (hc : PySem.W.codeHdIn K cL T = true) (hU : s.heap.get? U = some (PySem.W.tabObj #[])) (nU : K.lookup U = none) (hcU : PySem.W.codeHdIn K cU U = true) (ne : T ≠ U)
    (hbm : ∃ (bm : Addr) (ob : Obj), mg "__builtins__" = some (.ref bm) ∧ bm ≠ builtinsNs ∧ s.heap.get? bm = some ob ∧ ob.cls = .type "module" ∧ ob.dict = some builtinsNs ∧ ob.data = .plain)
    (ha : s.heap.get? a = some { cls := .type "list", data := .seq vs.toArray }) (hi : IntsAre vs ns) (hl : ns.length ≤ sizeLine) (hr : Room k callerA)
    (hF : ∀ base : Heap, K.In base → base.Ns mainGlobals mg → LamX.TabB base mg cL T → LamX.TabB base mg cU U → FnD P w K mg base k fa fd [x] F) (hbind : ∀ (s : Shared) (u : Value), BindsTo s fd ⟨[u], []⟩ [(x, u)])
    (res : ∃ S', F [.py (.list (ns.map .int))] [.tab T q, .tab U r] = .ok (.py (.bool true)) S') :
    codeAny (model P w) callerA (.call (.ref fa) ⟨[.ref a], []⟩) (fun r s' => r = .ok (.ret (.bool true)) ∧ OldK s.heap s'.heap ∧ s'.os = s.os ∧ AllBare s'.gens) s := by
  have rv := vals_ints hi
  have off : ∀ V : Addr, s.heap.get? V = some (PySem.W.tabObj #[]) → a ≠ V := fun V hV z => by
    rw [z, hV] at ha
    have z' : Data.fields #[] = Data.seq vs.toArray _ := congrArg Obj.data (Option.some.inj ha)
    cases z'
  have aT := off T hT
  have aU := off U hU
  have step : ∀ H : Hp, H T = some (.tbl #[]) → H U = some (.tbl #[]) → FL K H a (ns.map V.int) → HOk P w H s.heap → (∀ b u, H b = some u → b = T ∨ b = U ∨ (b = a ∧ ∃ o xs, u = .frz o (.lst xs))) → (∀ u, H a = some u → K.lookup a = none) →
      codeAny (model P w) callerA (.call (.ref fa) ⟨[.ref a], []⟩) (fun r s' => r = .ok (.ret (.bool true)) ∧ OldK s.heap s'.heap ∧ s'.os = s.os ∧ AllBare s'.gens) s := by
    intro H hHT hHU hS hok hA hK
    have free : ∀ {b : Addr} {o : Obj}, s.heap.get? b = some o → b ≠ a → b ≠ T → b ≠ U → H b = none := fun {b o} _ n1 n2 n3 => by
      cases q : H b with
      | none => rfl
      | some u => exact ((hA b u q).elim n2 fun z => z.elim n3 fun z => n1 z.1).elim
    have seen : ∀ {b : Addr} {o : Obj}, s.heap.get? b = some o → (∀ vs n, o.data ≠ .seq vs n) → o.data ≠ .fields #[] → (hidT s.heap H).get? b = some o := fun {b o} e h1 h2 => hidT_get e (free e (fun z => by
      rw [z, ha] at e
      cases e
      exact h1 _ _ rfl) (fun z => by
      rw [z, hT] at e
      cases e
      exact h2 rfl) fun z => by
      rw [z, hU] at e
      cases e
      exact h2 rfl)
    have nsK : ∀ {b : Addr} {m : Str → Option Value}, s.heap.Ns b m → (hidT s.heap H).Ns b m := fun {b m} hn => by
      obtain ⟨o, es, ep, e, d, r⟩ := hn
      exact ⟨o, es, ep, seen e (fun vs n z => by rw [d] at z; cases z) (fun z => by rw [d] at z; cases z), d, r⟩
    have hKb : K.In (hidT s.heap H) := fun b o e => hidT_get (KX b o e) (by
      cases q : H b with
      | none => rfl
      | some u =>
        rcases hA b u q with z | z | z
        · rw [z, nT] at e
          cases e
        · rw [z, nU] at e
          cases e
        · rw [z.1] at e q
          rw [hK u q] at e
          cases e)
    have hM : Mod K mg (hidT s.heap H) := ⟨hKb, nsK hns, ⟨mb, nsK hb, hbb⟩, by obtain ⟨mc, h1, h2⟩ := hlim; exact ⟨mc, nsK h1, h2⟩⟩
    have tabB : ∀ (c V : Addr), s.heap.get? V = some (PySem.W.tabObj #[]) → PySem.W.codeHdIn K c V = true → LamX.TabB (hidT s.heap H) mg c V := fun c V hV hcV => by
      have nG : mainGlobals ≠ V := fun z => by
        obtain ⟨o, es, ep, e, d, _⟩ := hns
        rw [z, hV] at e
        cases e
        cases d
      refine ⟨PySem.W.codeHd_of_K hKb hcV, ?_, nG⟩
      obtain ⟨bm, ob, b1, b2, b3, b4, b5, b6⟩ := hbm
      refine ⟨bm, ob, b1, b2, fun z => ?_, fun z => ?_, seen b3 (fun vs n z => by rw [b6] at z; cases z) (fun z => by rw [b6] at z; cases z), b4, b5, b6⟩
      · obtain ⟨o, es, ep, e, d, _⟩ := hns
        rw [z, e] at b3
        cases b3
        rw [d] at b6
        cases b6
      · rw [z, hV] at b3
        cases b3
        cases b6
    have e0 : Env0 P w K mg (hidT s.heap H) callerA [] s H :=
      { frames := rfl, mod := hM, bs := fun b o e => of_hidT e, bsz := Nat.le_of_eq (hidT_size _ _), funs := trivial, frf := fun b hb => (by cases hb), hok := hok, bare := .of_eq hg }
    refine codeAny_mono (law_atT2 (hF _ hKb (nsK hns) (tabB cL T hT hc) (tabB cU U hU hcU)) hr e0 hbind hl hS hHT hHU ne res) fun r s' h => ?_
    obtain ⟨rfl, os, bare, H', un, hok'⟩ := h
    have grew : ∀ V : Addr, H V = some (.tbl #[]) → ∃ more, s'.heap.get? V = some { cls := .none, data := .fields (#[] ++ more) } := fun V hV => by
      obtain ⟨more, grown⟩ := un.tbls V #[] hV
      exact ⟨more, hok' V _ grown⟩
    have other : ∀ b o, b ≠ T → b ≠ U → s.heap.get? b = some o → s'.heap.get? b = some o := fun b o nb nb2 e => by
      cases q : H b with
      | none => exact un.keep b o e q (by simp) (by simp)
      | some u =>
        obtain ⟨_, ob, xs, rfl⟩ := ((hA b u q).resolve_left nb).resolve_left nb2
        have e1 := (hok b _ q).1
        have e2 := (hok' b _ (un.frzs b ob _ q)).1
        rw [e] at e1
        cases e1
        exact e2
    have tabK : ∀ (c V : Addr), s.heap.get? V = some (PySem.W.tabObj #[]) → PySem.W.codeHdIn K c V = true → H V = some (.tbl #[]) → ∀ o, s.heap.get? V = some o → OldK s.heap s'.heap → True := fun _ _ _ _ _ _ _ _ => trivial
    refine ⟨rfl, ⟨fun b o e => ?_, fun b o e => ?_⟩, os, bare⟩
    · by_cases hb : b = T
      · subst hb
        obtain ⟨more, gT⟩ := grew b hHT
        rw [hT] at e
        cases e
        exact .inr (.inl ⟨((PySem.W.codeHd_of_K KX hc).tab hT).isCodeTable, rfl, #[], more, rfl, gT⟩)
      · by_cases hb2 : b = U
        · subst hb2
          obtain ⟨more, gU⟩ := grew b hHU
          rw [hU] at e
          cases e
          exact .inr (.inl ⟨((PySem.W.codeHd_of_K KX hcU).tab hU).isCodeTable, rfl, #[], more, rfl, gU⟩)
        · exact .inl (other b o hb hb2 e)
    · by_cases hb : b = T
      · subst hb
        obtain ⟨more, gT⟩ := grew b hHT
        exact ⟨_, gT⟩
      · by_cases hb2 : b = U
        · subst hb2
          obtain ⟨more, gU⟩ := grew b hHU
          exact ⟨_, gU⟩
        · exact ⟨o, other b o hb hb2 e⟩
  let H0 : Hp := upd (upd (fun _ => none) T (.tbl #[])) U (.tbl #[])
  have h0T : H0 T = some (.tbl #[]) := (upd_ne ne).trans upd_same
  have h0U : H0 U = some (.tbl #[]) := upd_same
  have at0 : ∀ b u, H0 b = some u → (b = T ∨ b = U) ∧ u = .tbl #[] := fun b u z => by
    by_cases q : b = U
    · subst q
      rw [h0U] at z
      cases z
      exact ⟨.inr rfl, rfl⟩
    · have z : upd (fun _ => none) T (.tbl #[]) b = some u := by rw [← z]; exact (upd_ne q).symm
      by_cases q2 : b = T
      · subst q2
        rw [upd_same] at z
        cases z
        exact ⟨.inl rfl, rfl⟩
      · rw [upd_ne q2] at z
        cases z
  have okT : ∀ b, b = T ∨ b = U → s.heap.get? b = some { cls := .none, data := .fields #[] } := fun b hb => by
    rcases hb with rfl | rfl
    · exact hT
    · exact hU
  cases hk : K.lookup a with
  | some o =>
    have e := KX a o hk
    rw [ha] at e
    cases e
    refine step H0 h0T h0U (.inr ⟨_, vs.toArray, _, hk, rfl, rfl, rfl, rfl, by rw [List.size_toArray, hi.length]; exact hl, by simpa using rv⟩) (fun b u z => ?_) (fun b u z => (at0 b u z).1.imp id .inl) fun u z => ?_
    · obtain ⟨h1, rfl⟩ := at0 b u z
      exact okT b h1
    · rcases (at0 a u z).1 with q | q
      · exact absurd q aT
      · exact absurd q aU
  | none =>
    have at_ : ∀ b u, upd H0 a (.frz { cls := .type "list", data := .seq vs.toArray } (.lst (ns.map V.int))) b = some u → ((b = T ∨ b = U) ∧ u = .tbl #[]) ∨ (b = a ∧ u = .frz { cls := .type "list", data := .seq vs.toArray } (.lst (ns.map V.int))) := fun b u z => by
      by_cases q : b = a
      · subst q
        rw [upd_same] at z
        cases z
        exact .inr ⟨rfl, rfl⟩
      · rw [upd_ne q] at z
        exact .inl (at0 b u z)
    refine step _ ((upd_ne (Ne.symm aT)).trans h0T) ((upd_ne (Ne.symm aU)).trans h0U) (.inl ⟨_, upd_same⟩) (fun b u z => ?_) (fun b u z => (at_ b u z).elim (fun h => h.1.imp id .inl) fun ⟨e1, e2⟩ => .inr (.inr ⟨e1, _, _, e2⟩)) fun _ _ => hk
    rcases at_ b u z with ⟨h1, rfl⟩ | ⟨rfl, rfl⟩
    · exact okT b h1
    · exact ⟨ha, by rw [List.length_map]; exact hl, vs, _, rv, ha⟩
end
theorem walk_ofT2 {l : PySem.W.OpenLaw} {n k : Nat} {q : Program} {loose : List Str} {XP : (Str → Option Value) → Heap → Prop} {YP : World → Heap → Prop} {d : DefRec} {K : Params → PySem.W.Frag} {F : Nat → Nat → List D → Sto → R D} {x qn qu : Str} {T U cL cU : Addr}
    (hn : l.most = some n) (hn2 : n ≤ sizeLine) (hdf : d.params.defaults = []) (hr : Room k callerA) (hY : ∀ (w : World) (h : Heap), YP w h → (K w.params).In h ∧ h.get? T = some (PySem.W.tabObj #[]) ∧ h.get? U = some (PySem.W.tabObj #[])) (nT : ∀ w : World, (K w.params).lookup T = none) (nU : ∀ w : World, (K w.params).lookup U = none)
    (hc : ∀ w : World, PySem.W.codeHdIn (K w.params) cL T = true) (hcU : ∀ w : World, PySem.W.codeHdIn (K w.params) cU U = true) (ne : T ≠ U)
    (hF : ∀ (w : World) (mg : Str → Option Value) (fa : Addr) (h : Heap), (K w.params).In h → h.Ns mainGlobals mg → mg d.name = some (.ref fa) →
      ∃ fd : FuncData, (∀ (s : Shared) (u : Value), BindsTo s fd ⟨[u], []⟩ [(x, u)]) ∧ ∀ base : Heap, (K w.params).In base → base.Ns mainGlobals mg → LamX.TabB base mg cL T → LamX.TabB base mg cU U → FnD l.prog w (K w.params) mg base k fa fd [x] (F T U))
    (res : ∀ (T U : Nat) (ns : List Int), T ≠ U → ns.length ≤ n → ∃ S', F T U [.py (.list (ns.map .int))] [.tab T qn, .tab U qu] = .ok (.py (.bool true)) S') :
    PySem.W.WalkO q loose XP YP l.row.toRowW d [] (fun f vs => PySem.call f vs) := by
  refine Att.attach_call hn hdf fun w s₀ s₁ mg mb fa o pm cd doc a vs ns G Y ho hd hcd hmg hobj hints hlen hg => ?_
  obtain ⟨KX, hT, hU⟩ := hY w _ Y
  obtain ⟨fd, hb, h⟩ := hF w mg fa _ KX G.T.g hmg
  exact law_callT2 KX G.T.g G.T.b G.T.builtins G.T.nolimit hg hT (nT w) (hc w) hU (nU w) (hcU w) ne G.T.bmain hobj hints (Nat.le_trans hlen hn2) hr h hb (res T U ns ne hlen)
end DV

set_option maxHeartbeats 4000000
namespace DV
open PySem PySem.Spec PyProof.Rows L2
/-! for x in [f, g]: .. x(..): defs of the program out of a written list, called by the name that walks it. -/
def fnsI (as : List Addr) : DV.It := fun σ S => .ok (as.map D.raw) S
def callV (Fs : List (Addr × (List D → Sto → R D))) (i : Ex) (fs : Ax) : Ex := fun σ S => (i σ S).bind fun d S1 => match d with
  | .raw a => (match Fs.lookup a with
    | some F => (fs σ S1).bind fun ds S2 => F ds S2
    | none => .no)
  | _ => .no
theorem get_raws {as : List Addr} {i : Nat} {x : D} (h : (as.map D.raw)[i]? = some x) : ∃ a, as[i]? = some a ∧ x = .raw a := by
  rw [List.getElem?_map, Option.map_eq_some_iff] at h
  obtain ⟨d, h1, h2⟩ := h
  exact ⟨d, h1, h2.symm⟩
theorem walk_raws {K : PySem.W.Frag} {H0 : Hp} {a : Addr} {as : List Addr} (hf : FL K H0 a (as.map V.ref)) (hz : as.length ≤ sizeLine) : WalkR K H0 (Itl K a) (as.map D.raw) := by
  refine ⟨by rw [List.length_map]; exact hz, fun i H kp hi => ?_, fun H kp => ?_, fun i H v H' x kp hx y => ?_⟩
  · rw [List.length_map] at hi
    exact ⟨as.map V.ref, .ref as[i], (hf.keep kp).sq, by rw [List.getElem?_map, List.getElem?_eq_getElem hi]; rfl⟩
  · exact ⟨as.map V.ref, (hf.keep kp).sq, by rw [List.length_map, List.length_map]; exact Nat.le_refl _⟩
  · obtain ⟨e, y⟩ := y
    subst e
    obtain ⟨d, hd, rfl⟩ := get_raws hx
    have := y (as.map V.ref) (hf.keep kp).sq
    rw [List.getElem?_map, hd] at this
    cases this
    exact ⟨.refl _, fun _ _ h => h, fun _ h => h, fun ι => .raw d⟩
section
variable {X : Cx} {E : XK} {k n : Nat}
theorem di_fns {es : List Expr} {as : List Addr} {Fs : List (List D → Sto → R D)} {tg : Expr} {p1 : Pos} (o : Okx k X E) (h : Pk X k n es as Fs) (hl : es.length ≤ 1000 := by decide) : DI X E tg (.List es p1) (fnsI as) := by
  refine ⟨_, pi_list (pe_frz (pe_lst (pos := p1) h.pa)), fun σ H σd S ι R hE hS hh => ?_⟩
  have z : as.length ≤ sizeLine := by rw [h.len]; exact small_line hl
  refine ⟨by rw [List.length_map]; exact z, fun p np => ⟨p, _, rfl, upd_same, fun ob => ?_⟩⟩
  have P0 := Post.new (o := .lst (as.map V.ref)) hS np
  exact ⟨_, rfl, ⟨_, FL.sq (.inl ⟨ob, upd_same⟩)⟩, hh _ _ _ (P0.fixNew upd_same (hS.notin np) np) (walk_raws (.inl ⟨ob, upd_same⟩) z)⟩
inductive Ck (X : Cx) (k n : Nat) : List Addr → List (List D → Sto → R D) → Prop
  | nil : Ck X k n [] []
  | cons {x : Str} {f : Addr} {fd : FuncData} {ps : List Str} {F : List D → Sto → R D} {j : Nat} {as : List Addr} {Fs : List (List D → Sto → R D)} :
      FnD X.prog X.w X.K X.mg X.base j f fd ps F → At X.K X.mg x f fd ps → j ≤ k → ps.length = n → Ck X k n as Fs → Ck X k n (f :: as) (F :: Fs)
theorem Ck.find {as : List Addr} {Fs : List (List D → Sto → R D)} (h : Ck X k n as Fs) {a : Addr} {F : List D → Sto → R D} (e : (as.zip Fs).lookup a = some F) : Callable X k n a F := by
  induction h with
  | nil => cases e
  | @cons x f fd ps G j as Fs hF at_ hj hn _ ih =>
    rw [List.zip_cons_cons, List.lookup_cons] at e
    by_cases q : a = f
    · subst q
      simp at e
      subst e
      exact ⟨_, _, _, hF, at_.kp, at_.b, hj, hn⟩
    · have : (a == f) = false := by simpa using q
      rw [this] at e
      exact ih e
theorem de_callV {as : List Addr} {Fs : List (List D → Sto → R D)} {x : Str} {e : Expr} {args : List Expr} {g : Ex} {fs : Ax} {p pos : Pos} (o : Okx k X E) (h : Ck X k n as Fs) (hb : DE X E (.Name x p) g) (ha : DA X E (e :: args) fs) (hn : (e :: args).length = n)
    (he : starEach (e :: args) X.env = (false, eval e X.env) :: starEach args X.env := by rfl) (hpl : (backTo pos (starEach args X.env)).any (·.1) = false := by rfl) :
    DE X E (.Call (.Name x p) (e :: args) [] pos) (callV (as.zip Fs) g fs) := by
  obtain ⟨l, t, pt, q⟩ := ha
  obtain ⟨u, pu, qu⟩ := hb
  refine ⟨fun σ H Q => u σ H (fun v H1 => ∃ f F, v = .ref f ∧ Callable X k n f F ∧ t σ H1 fun vs H2 => spD X.K X.mg n F vs H2 Q E), ⟨fun pins s σ H Q I hh => wpAny_Call_Name_kw (thn (pu.run pins s σ H _ I hh) fun w s1 ⟨v, H1, I1, r, f, F, ev, hC, hq⟩ => ?_)⟩, fun σ H σd S ι Q hE hS hw => ?_⟩
  · subst ev
    cases (show w = Value.ref f from r)
    obtain ⟨fd, ps, j, hF, kp, bd, hj, hn2⟩ := hC
    refine PySem.W.callWith_K (h₀ := X.base) I1.ok.mod.kin kp (thn (pt.run pos pins s1 σ H1 _ I1 hq) fun us s2 ⟨vs, H2, I2, r2, q2⟩ => ⟨I2.kIn, ?_⟩) he hpl
    subst hn2
    exact run_fnD o hF hj bd I2 r2 q2
  · refine qu σ H σd S ι _ hE hS (Wp.bind hw fun d S1 _ v H1 ι1 p1 r1 h1 => ?_)
    split at h1
    · rename_i a _
      cases r1
      split at h1
      · rename_i F hF
        refine ⟨a, F, rfl, h.find hF, ?_⟩
        refine q σ H1 σd S1 ι1 _ (hE.mono p1.pre p1.keep) p1.sto (Wp.bind h1 fun ds S2 e2 vs H2 ι2 p2 r2 h2 => ?_)
        exact ⟨by rw [r2.length, l _ _ _ _ e2, hn], ι2, S2, ds, p2.sto, r2, h2⟩
      · exact h1.elim
    · exact h1.elim
end
end DV

set_option maxHeartbeats 4000000
namespace DV
open PySem PySem.Spec PyProof.Rows L2
/-! xs.extend(ys), ys a list that is never changed. -/
variable {X : Cx} {E : XK}
def extendD : D → List D → Sto → R D
  | .obj n, [.py (.list ys)], S => (match S[n]? with
    | some (.lst ds) => if ds.length + ys.length ≤ sizeLine then .ok (.py .none) (S.set n (.lst (ds ++ ys.map D.py))) else .no
    | _ => .no)
  | _, _, _ => .no
def rExtendF (K : PySem.W.Frag) : V → List V → Hp → VK → Prop := fun x vs H Q => ∃ l b xs zs, x = .ref l ∧ vs = [.ref b] ∧ H l = some (.lst xs) ∧ FL K H b zs ∧ xs.length + zs.length ≤ sizeLine ∧ Q .non (upd H l (.lst (xs ++ zs)))
theorem FL.obj {pins : List (Addr × Obj)} {σ : List (Option V)} {H : Hp} {s : Shared} {a : Addr} {xs : List V} (I : Inv X pins σ H s) (h : FL X.K H a xs) :
    ∃ (its : List Value) (n : Nat), Vals xs its ∧ xs.length ≤ sizeLine ∧ s.heap.get? a = some { cls := .type "list", data := .seq its.toArray n } := by
  rcases h with ⟨o, h⟩ | ⟨o, its, n, h1, h2, h3, h4, h5, h6, h7⟩
  · obtain ⟨_, z, its, n, r, e⟩ := (show ObjOk X.prog X.w H s.heap a (.frz o (.lst xs)) from I.hok a _ h)
    exact ⟨its, n, r, z, e⟩
  · refine ⟨its.toList, n, h7, by have := h7.length; simp at this; omega, ?_⟩
    have e := I.kIn a o h1
    obtain ⟨c, d, dt, sl⟩ := o
    simp only at h2 h3 h4 h5
    subst h2 h3 h4 h5
    simpa using e
theorem mt_extendF : MtM X "list.extend" (rExtendF X.K) := by
  intro pins s σ H x vs v us Q I rx rv h
  obtain ⟨l, b, xs, zs, rfl, rfl, hH, hB, hz, q⟩ := h
  cases rx
  obtain ⟨u, rfl, ru⟩ := rv.one
  cases ru
  obtain ⟨z, its, n, r, hl, e⟩ := I.lstM hH
  obtain ⟨its2, n2, r2, z2, e2⟩ := FL.obj I hB
  have hl2 := r2.length
  have hsz : its.toArray.size + its2.toArray.size ≤ sizeLine := by rw [List.size_toArray, List.size_toArray]; omega
  have hlong : ¬ (!its.toArray.isEmpty && Builtin.List.listTooLong (its.toArray.size + its2.toArray.size)) = true := by
    rw [notLongL hsz, Bool.and_false]
    exact Bool.false_ne_true
  refine call_meets F.slot_list_extend ⟨_, e, rfl⟩ F.entry_list_extend (F.args_list_extend_2 _ _)
    (AutoSeq1.list_extend_list_list_0 l its.toArray n b its2.toArray n2 hlong (by rw [List.size_toArray]; omega) (by omega)) ⟨e, e2, ?_⟩
  refine ⟨.non, _, I.lset (its' := its ++ its2) hH e (by simp) (r.append r2) ?_, rfl, q⟩
  rw [List.length_append]
  omega
theorem dm_extend : DM X "list" "list.extend" extendD := by
  refine ⟨_, mt_extendF (X := X), fun x xs d ds H S ι E Q hS rx r hw => ?_⟩
  unfold extendD at hw
  split at hw
  · split at hw
    · rename_i ds' hds
      split at hw
      · rename_i hz
        cases rx with
        | obj e =>
          cases hS.at_ _ _ _ hds e with
          | lst ha rr =>
            cases r with
            | cons r rs =>
              cases rs
              cases r with
              | py r =>
                cases r with
                | lst hf zz al =>
                  refine ⟨_, _, _, _, rfl, rfl, ha, hf, by rw [rr.length, al.length]; exact hz, hw _ _ _ (.wr e ha (hS.set e ha (Paired.app rr ?_))) (.py .non)⟩
                  exact RdAll.of_pys al
      · exact hw.elim
    · exact hw.elim
  · exact hw.elim
end DV

set_option maxHeartbeats 4000000
namespace DV
open PySem PySem.Spec PyProof.Rows L2
/-! a, b, c = x, y, z; and four of them. -/
section
variable {X : Cx} {E : XK} {a b c d : Expr} {fs : Ax} {pos : Pos}
theorem ds_par3 {i j l : Nat} {x y z : Str} {px py pz pt : Pos} {kt k2 pt2} (hc : X.calm = true) (hN : X.N.Nodup) (ha : DA X E [a, b, c] fs) (hi : X.N[i]? = some x := by rfl) (hj : X.N[j]? = some y := by rfl) (hl : X.N[l]? = some z := by rfl)
    (hij : i ≠ j := by decide) (hil : i ≠ l := by decide) (hjl : j ≠ l := by decide)
    (hx : X.env.scope.names.lookup x = some .local := by rfl) (hy : X.env.scope.names.lookup y = some .local := by rfl) (hz : X.env.scope.names.lookup z = some .local := by rfl)
    (hw : swappedStores [.Tuple [.Name x px, .Name y py, .Name z pz] kt pt] (.Tuple [a, b, c] k2 pt2) X.env = pure (some [x, y, z]) := by rfl)
    (hs : swapsWithSole [.Tuple [.Name x px, .Name y py, .Name z pz] kt pt] (.Tuple [a, b, c] k2 pt2) pos.line X.env = pure false := by rfl) :
    DS X E (.Assign [.Tuple [.Name x px, .Name y py, .Name z pz] kt pt] (.Tuple [a, b, c] k2 pt2) pos) (parS [i, j, l] fs) := by
  obtain ⟨ll, t, p, q⟩ := ha
  refine ⟨_, ps_par3 hc hN hi hj hl hij hil hjl hx hy hz p hw hs, fun σ H σd S ι N hE hS h => ?_⟩
  refine q σ H σd S ι _ hE hS (Wp.run h fun d S1 e1 v H1 ι1 p1 r1 h1 => ?_)
  have hl := ll _ _ _ _ e1
  cases r1 with
  | nil => cases hl
  | cons ra rs =>
    cases rs with
    | nil => cases hl
    | cons rb rt =>
      cases rt with
      | nil => cases hl
      | cons rc ru =>
        cases ru with
        | cons _ _ => cases hl
        | nil => exact ⟨_, _, _, rfl, h1 _ _ _ (.refl p1.sto) ((((hE.mono p1.pre p1.keep).set i ra).set j rb).set l rc)⟩
theorem ds_par4 {vs : List Nat} {i j k l : Nat} {tgs : List Expr} {kk : Nat} {k2 pt pt2} (hc : X.calm = true) (ha : DA X E [a, b, c, d] fs)
    (hg : DGs X E vs tgs (consG (nmG i) (consG (nmG j) (consG (nmG k) (consG (nmG l) nilG)))))
    (hn : (assignEach tgs X.env).length = 4 := by rfl) (hst : (assignEach tgs X.env).findIdx? (·.1) = none := by rfl)
    (hs : swapsWithSole [.Tuple tgs kk pt] (.Tuple [a, b, c, d] k2 pt2) pos.line X.env = pure false := by rfl) (hw : swappedStores [.Tuple tgs kk pt] (.Tuple [a, b, c, d] k2 pt2) X.env = pure none := by rfl)
    (h1 : (assignEach [.Tuple tgs kk pt] X.env).map (·.2) = [assign (.Tuple tgs kk pt) X.env] := by rfl) :
    DS X E (.Assign [.Tuple tgs kk pt] (.Tuple [a, b, c, d] k2 pt2) pos) (parS [i, j, k, l] fs) := by
  obtain ⟨ll, t, p, q⟩ := ha
  obtain ⟨u, pu, qu⟩ := hg
  refine ⟨_, ps_asg (pe_tupF p) (pg_tup hc pu hn hst) hs hw h1, fun σ H σd S ι N hE hS h => ?_⟩
  refine q σ H σd S ι _ hE hS (Wp.run h fun ds S1 e1 ws H1 ι1 p1 r1 h1 => ?_)
  have hl := ll _ _ _ _ e1
  have hw := r1.length
  refine ⟨by rw [hw, hl]; exact (by decide : 4 ≤ sizeLine), fun pp o ho na => ?_⟩
  have P0 := Post.new (o := .frz o (.tup ws)) p1.sto na
  have r2 := r1.mono P0.pre P0.keep
  refine ⟨_, ws, rfl, FT.sq (.new ho), by rw [hw, hl]; rfl, ?_⟩
  refine qu ws ds σ _ σd S1 ι1 _ ((hE.mono p1.pre p1.keep).mono P0.pre P0.keep) P0.sto r2 ?_
  obtain ⟨d1, d2, d3, d4, rfl⟩ : ∃ d1 d2 d3 d4, ds = [d1, d2, d3, d4] := by
    match ds, hl with
    | [d1, d2, d3, d4], _ => exact ⟨d1, d2, d3, d4, rfl⟩
  show Wp X.K X.mg E ι1 _ _ (R.ok (setAll [i, j, k, l] [d1, d2, d3, d4] σd) S1) _
  intro σ' H2 ι2 p2 hh
  exact h1 _ _ _ (P0.trans p2) hh.1
end
end DV

set_option maxHeartbeats 4000000
namespace DV
open PySem PySem.Spec PyProof.Rows L2
/-! text.partition(sep); int(text). -/
section
variable {X : Cx} {pins : List (Addr × Obj)} {σ : L2.St} {H : Hp} {s : Shared} {xs : List V} {us : List Value} {Q : VK}
end
section
variable {X : Cx} {E : XK}
end
end DV

set_option maxHeartbeats 4000000
namespace DV
open PySem PySem.Spec PyProof.Rows L2
/-! sorted(xs), xs a list of data that are alike. -/
section
variable {X : Cx} {E : XK}
end
end DV


set_option maxHeartbeats 4000000
namespace DV
open PySem PySem.Spec PyProof.Rows L2 DV
noncomputable def b_place_of : Sx := (seqS (forS (enumI (opE itemD (varE 0) (cE (.int 1)))) (tupG 2 (consG (nmG 2) (consG (nmG 3) nilG))) (ifS (valT (opE eqD (opE itemD (varE 3) (cE (.int 0))) (varE 1))) (retS (varE 2)) passS)) (retS (cE .none)))
noncomputable def F_place_of : List D → Sto → R D := fnF 4 b_place_of
noncomputable def b_law_box : Sx := (seqS (asgS (opE addD (opE mulD (cE (.int 6151)) (varE 1)) (cE (.int 29))) (nmG 2)) (seqS (ifS (valT (opE ltD (varE 1) (callE lenD (consA (varE 0) nilA)))) (asgS (opE itemD (varE 0) (varE 1)) (nmG 2)) passS) (seqS (ifS (valT (opE eqD (opE modD (varE 2) (cE (.int 2))) (cE (.int 0)))) (retS (thwE (consA (opE fdivD (callE absD (consA (varE 2) nilA)) (cE (.int 2))) (consA (opE addD (opE addD (opE modD (varE 2) (cE (.int 1000003))) (opE mulD (cE (.int 7919)) (varE 1))) (cE (.int 1))) nilA)))) passS) (retS (thwE (consA (cE (.int 0)) (consA (opE addD (opE addD (opE modD (varE 2) (cE (.int 2147483563))) (opE mulD (cE (.int 7919)) (varE 1))) (cE (.int 1))) nilA)))))))
noncomputable def F_law_box : List D → Sto → R D := fnF 3 b_law_box
noncomputable def b_law_take : Sx := (seqS (ifS (valT (opE (cmpI fun i j => decide (j < i)) (opE itemD (varE 0) (cE (.int 0))) (cE (.int 0)))) (seqS (asgS (callE divmodD (consA (opE itemD (varE 0) (cE (.int 0))) (consA (varE 1) nilA))) (tupG 2 (consG (ixG (varE 0) (cE (.int 0))) (consG (nmG 2) nilG)))) (retS (varE 2))) passS) (seqS (asgS (opE modD (opE addD (opE mulD (opE itemD (varE 0) (cE (.int 1))) (cE (.int 48271))) (cE (.int 11))) (cE (.int 2147483647))) (ixG (varE 0) (cE (.int 1)))) (seqS (asgS (opE addD (opE fdivD (opE itemD (varE 0) (cE (.int 1))) (cE (.int 1009))) (cE (.int 1))) (nmG 3)) (retS (opE modD (opE fdivD (opE modD (opE mulD (opE mulD (varE 3) (varE 3)) (varE 3)) (cE (.int 2147483629))) (cE (.int 61))) (varE 1))))))
noncomputable def F_law_take : List D → Sto → R D := fnF 4 b_law_take
noncomputable def b_law_face : Sx := (seqS (asgS (thwE (callL listD (consA (cE (.str "abcdefghijklmnopqrstuvwxyz")) nilA))) (nmG 3)) (seqS (asgS (opE addD (varE 1) (callE F_law_take (consA (varE 0) (consA (opE addD (opE subD (varE 2) (varE 1)) (cE (.int 1))) nilA)))) (nmG 4)) (seqS (asgS (frzE (lcX (rng1I (varE 4)) [6] (nmG 6) yesT (tupE (consA (methL popD (varE 3) (consA (callE F_law_take (consA (varE 0) (consA (callE lenD (consA (varE 3) nilA)) nilA))) nilA)) (consA (opE addD (cE (.int 10)) (callE F_law_take (consA (varE 0) (consA (cE (.int 90)) nilA)))) nilA))))) (nmG 5)) (retS (tupE (consA (opE addD (cE (.int 1)) (callE F_law_take (consA (varE 0) (consA (cE (.int 99)) nilA)))) (consA (callE tupleD (consA (varE 5) nilA)) nilA)))))))
noncomputable def F_law_face : List D → Sto → R D := fnF 7 b_law_face
noncomputable def b_law_letters : Sx := (retS (frzE (lcX (seqI (opE itemD (varE 0) (cE (.int 1)))) [1] (nmG 1) yesT (opE itemD (varE 1) (cE (.int 0))))))
noncomputable def F_law_letters : List D → Sto → R D := fnF 2 b_law_letters
noncomputable def b_law_spoil (g_ : List D → Sto → R D) : Sx := (seqS (ifS (andT (valT (op1 (isiD "tuple") (varE 1))) (andT (valT (opE neD (varE 1) (tupE nilA))) (valT (opE (cmpI fun i j => decide (j < i)) (callE F_law_take (consA (varE 0) (consA (cE (.int 5)) nilA))) (cE (.int 0)))))) (seqS (asgS (callE F_law_take (consA (varE 0) (consA (callE lenD (consA (varE 1) nilA)) nilA))) (nmG 3)) (retS (opE addD (opE addD (sliceE (varE 1) noP (someP (varE 3))) (tupE (consA (callE g_ (consA (varE 0) (consA (opE itemD (varE 1) (varE 3)) (consA (varE 2) nilA)))) nilA))) (sliceE (varE 1) (someP (opE addD (varE 3) (cE (.int 1)))) noP)))) passS) (seqS (asgS (callE F_law_take (consA (varE 0) (consA (cE (.int 7)) nilA))) (nmG 4)) (seqS (ifS (valT (op1 (isiD "tuple") (varE 1))) (seqS (asgS (callE F_law_take (consA (varE 0) (consA (opE addD (callE lenD (consA (varE 1) nilA)) (cE (.int 1))) nilA))) (nmG 3)) (seqS (asgS (frzE (consA (opE addD (sliceE (varE 1) noP (someP (varE 3))) (sliceE (varE 1) (someP (opE addD (varE 3) (cE (.int 1)))) noP)) (consA (opE addD (opE addD (sliceE (varE 1) noP (someP (varE 3))) (sliceE (varE 1) (someP (varE 3)) (someP (opE addD (varE 3) (cE (.int 1)))))) (sliceE (varE 1) (someP (varE 3)) noP)) (consA (revTE (varE 1)) (consA (frzE (callL listD (consA (varE 1) nilA))) nilA))))) (nmG 5)) (retS (opE itemD (opE addD (varE 5) (frzE (consA (opE addD (varE 1) (tupE (consA (varE 2) nilA))) (consA (varE 2) (consA (opE addD (sliceE (varE 1) (someP (varE 3)) noP) (sliceE (varE 1) noP (someP (varE 3)))) nilA))))) (varE 4))))) passS) (seqS (ifS (valT (op1 (isiD "int") (varE 1))) (retS (opE itemD (frzE (consA (opE addD (varE 1) (cE (.int 1))) (consA (opE subD (varE 1) (cE (.int 1))) (consA (opE subD (cE (.int 0)) (varE 1)) (consA (callE strD (consA (varE 1) nilA)) (consA (varE 2) (consA (opE addD (varE 1) (cE (.int 90))) (consA (varE 2) nilA)))))))) (varE 4))) passS) (retS (varE 2))))))
noncomputable def F_law_spoil : Nat → List D → Sto → R D
  | 0 => fun _ _ => .no
  | m_ + 1 => fnF 6 (b_law_spoil (F_law_spoil m_))
noncomputable def b_law_list : Sx := (seqS (asgS (callE F_law_letters (consA (varE 0) nilA)) (nmG 2)) (seqS (asgS (thwE nilA) (nmG 3)) (seqS (forS (zipI (varE 2) (varE 1)) (tupG 2 (consG (nmG 4) (consG (nmG 5) nilG))) (forS (zipI (varE 2) (varE 5)) (tupG 2 (consG (nmG 6) (consG (nmG 7) nilG))) (ifS (valT (opE neD (varE 7) (cE (.int 0)))) (exprS (methL appendD (varE 3) (consA (tupE (consA (varE 4) (consA (varE 6) (consA (varE 7) nilA)))) nilA))) passS))) (retS (callE tupleD (consA (varE 3) nilA))))))
noncomputable def F_law_list : List D → Sto → R D := fnF 8 b_law_list
noncomputable def b_law_odd_v1 : Sx := (seqS (asgS (callE F_law_letters (consA (varE 1) nilA)) (nmG 2)) (seqS (asgS (opE itemD (varE 2) (callE F_law_take (consA (varE 0) (consA (callE lenD (consA (varE 2) nilA)) nilA)))) (nmG 3)) (seqS (asgS (opE itemD (cE (.str "abcdefghijklmnopqrstuvwxyz")) (callE F_law_take (consA (varE 0) (consA (cE (.int 26)) nilA)))) (nmG 4)) (seqS (asgS (thwE (consA (cE .none) (consA (cE (.bool true)) (consA (cE (.bool false)) (consA (cE (.int 0)) (consA (cE (.int 1)) (consA (cE (.int 9)) (consA (cE (.int 10)) (consA (cE (.int 11)) (consA (cE (.int 98)) (consA (cE (.int 99)) (consA (cE (.int 100)) (consA (op1 negD (cE (.int 1))) (consA (op1 negD (cE (.int 9))) (consA (op1 negD (cE (.int 10))) (consA (opE powD (cE (.int 10)) (cE (.int 19))) (consA (opE subD (cE (.int 0)) (opE powD (cE (.int 10)) (cE (.int 19)))) (consA (varE 3) (consA (varE 4) nilA))))))))))))))))))) (nmG 5)) (seqS (asgS (thwE (catL (varE 5) (frzE (consA (cE (.str "")) (consA (cE (.str " ")) (consA (cE (.str "A")) (consA (opE addD (varE 3) (varE 4)) (consA (opE addD (varE 4) (cE (.str "\n"))) (consA (cE (.str "\t")) (consA (cE (.str "1")) (consA (cE (.str "0")) (consA (tupE nilA) (consA (frzE nilA) (consA (cE (.dict [])) (consA (tupE (consA (varE 3) nilA)) (consA (frzE (consA (varE 3) nilA)) nilA)))))))))))))))) (nmG 5)) (seqS (asgS (thwE (catL (varE 5) (frzE (consA (tupE (consA (varE 3) (consA (cE (.int 10)) nilA))) (consA (frzE (consA (varE 3) (consA (cE (.int 10)) nilA))) (consA (tupE (consA (varE 4) (consA (cE (.int 99)) nilA))) (consA (tupE (consA (varE 3) (consA (varE 4) (consA (cE (.int 1)) nilA)))) (consA (tupE (consA (varE 3) (consA (varE 3) (consA (cE (.int 0)) nilA)))) (consA (dict1E 3 10) nilA))))))))) (nmG 5)) (seqS (asgS (thwE (catL (varE 5) (frzE (consA (tupE (consA (cE .none) nilA)) (consA (tupE (consA (tupE nilA) nilA)) (consA (tupE (consA (cE (.bool true)) (consA (cE (.bool false)) nilA))) (consA (tupE (consA (tupE (consA (varE 3) nilA)) (consA (tupE (consA (varE 4) nilA)) nilA))) (consA (frzE (consA (frzE nilA) nilA)) (consA (tupE (consA (cE (.str "")) nilA)) (consA (tupE (consA (cE (.int 0)) (consA (cE (.int 0)) nilA))) (consA (opE mulSD (varE 3) (cE (.int 2))) nilA))))))))))) (nmG 5)) (seqS (exprS (methL appendD (varE 5) (consA (tupE (consA (varE 3) (consA (cE (.int 0)) (consA (cE (.int 1)) nilA)))) nilA))) (retS (opE itemD (varE 5) (callE F_law_take (consA (varE 0) (consA (callE lenD (consA (varE 5) nilA)) nilA)))))))))))))
noncomputable def F_law_odd_v1 : List D → Sto → R D := fnF 6 b_law_odd_v1
noncomputable def b_gap_in : Sx := (seqS (forS (seqI (varE 0)) (tupG 3 (consG (nmG 3) (consG (nmG 4) (consG (nmG 5) nilG)))) (ifS (andT (valT (opE eqD (varE 3) (varE 1))) (valT (opE eqD (varE 4) (varE 2)))) (retS (varE 5)) passS)) (retS (cE (.int 0))))
noncomputable def F_gap_in : List D → Sto → R D := fnF 6 b_gap_in
noncomputable def b_is_parting : Sx := (seqS (ifS (notT (valT (op1 (isiD "tuple") (varE 1)))) (retS (cE (.bool false))) passS) (seqS (asgS (thwE nilA) (nmG 2)) (seqS (forS (seqI (varE 1)) (nmG 3) (seqS (ifS (orT (notT (valT (op1 (isiD "tuple") (varE 3)))) (valT (opE eqD (varE 3) (tupE nilA)))) (retS (cE (.bool false))) passS) (seqS (asgS (frzE (lcX (seqI (varE 3)) [7] (nmG 7) yesT (callE F_place_of (consA (varE 0) (consA (varE 7) nilA))))) (nmG 4)) (seqS (ifS (orT (valT (opE inD (cE .none) (varE 4))) (valT (opE neD (varE 4) (frzE (callL sortedD (consA (varE 4) nilA)))))) (retS (cE (.bool false))) passS) (exprS (methL appendD (varE 2) (consA (varE 4) nilA))))))) (seqS (fixS 2) (seqS (asgS (frzE (lcX (seqI (varE 2)) [4] (nmG 4) yesT (opE itemD (varE 4) (cE (.int 0))))) (nmG 5)) (seqS (asgS (frzE (callL sortedD (consA (frzE (sumL (varE 2))) nilA))) (nmG 6)) (retS (andE (opE eqD (varE 5) (frzE (callL sortedD (consA (varE 5) nilA)))) (opE eqD (varE 6) (frzE (rng1I (callE lenD (consA (opE itemD (varE 0) (cE (.int 1))) nilA)))))))))))))
noncomputable def F_is_parting : List D → Sto → R D := fnF 8 b_is_parting
noncomputable def b_need_parting : Sx := (ifS (notT (valT (callE F_is_parting (consA (varE 0) (consA (varE 1) nilA))))) (raiseS "NoParting") passS)
noncomputable def F_need_parting : List D → Sto → R D := fnF 2 b_need_parting
noncomputable def b_law_grouped : Sx := (seqS (asgS (thwE nilA) (nmG 2)) (seqS (forS (enumI (varE 1)) (tupG 2 (consG (nmG 3) (consG (nmG 4) nilG))) (ifS (valT (opE eqD (methL indexD (varE 1) (consA (varE 4) nilA)) (varE 3))) (exprS (methL appendD (varE 2) (consA (callE tupleD (consA (frzE (lcX (zipI (varE 0) (varE 1)) [5, 6] (tupG 2 (consG (nmG 5) (consG (nmG 6) nilG))) (valT (opE eqD (varE 6) (varE 4))) (varE 5))) nilA)) nilA))) passS)) (retS (callE tupleD (consA (varE 2) nilA)))))
noncomputable def F_law_grouped : List D → Sto → R D := fnF 7 b_law_grouped
noncomputable def b_law_parting : Sx := (seqS (asgS (callE F_law_letters (consA (varE 1) nilA)) (nmG 3)) (retS (callE F_law_grouped (consA (varE 3) (consA (frzE (lcX (seqI (varE 3)) [4] (nmG 4) yesT (callE F_law_take (consA (varE 0) (consA (varE 2) nilA))))) nilA)))))
noncomputable def F_law_parting : List D → Sto → R D := fnF 5 b_law_parting
noncomputable def b_law_is_parting : Sx := (seqS (asgS (callE F_law_letters (consA (varE 0) nilA)) (nmG 2)) (seqS (ifS (notT (valT (op1 (isiD "tuple") (varE 1)))) (retS (cE (.bool false))) passS) (seqS (parS [3, 4] (consA (frzE nilA) (consA (frzE nilA) nilA))) (seqS (forS (seqI (varE 1)) (nmG 5) (seqS (ifS (orT (notT (valT (op1 (isiD "tuple") (varE 5)))) (orT (valT (opE eqD (varE 5) (tupE nilA))) (valT (opE neD (frzE (lcX (seqI (varE 5)) [7] (nmG 7) (valT (opE notInD (varE 7) (varE 2))) (varE 7))) (frzE nilA))))) (retS (cE (.bool false))) passS) (seqS (asgS (frzE (lcX (seqI (varE 5)) [7] (nmG 7) yesT (methL indexD (varE 2) (consA (varE 7) nilA)))) (nmG 6)) (seqS (ifS (valT (opE neD (varE 6) (frzE (callL sortedD (consA (varE 6) nilA))))) (retS (cE (.bool false))) passS) (parS [3, 4] (consA (opE addD (varE 3) (varE 6)) (consA (opE addD (varE 4) (frzE (sliceL (varE 6) noP (someP (cE (.int 1)))))) nilA))))))) (retS (andE (opE eqD (frzE (callL sortedD (consA (varE 3) nilA))) (frzE (rng1I (callE lenD (consA (varE 2) nilA))))) (opE eqD (varE 4) (frzE (callL sortedD (consA (varE 4) nilA))))))))))
noncomputable def F_law_is_parting : List D → Sto → R D := fnF 8 b_law_is_parting
noncomputable def b_most_in : Sx := (retS (opE itemD (callE minX (consA (frzE (lcX (seqI (varE 0)) [1] (nmG 1) yesT (tupE (consA (opE subD (cE (.int 0)) (methL countD (varE 0) (consA (varE 1) nilA))) (consA (varE 1) nilA))))) nilA)) (cE (.int 1))))
noncomputable def F_most_in : List D → Sto → R D := fnF 2 b_most_in
noncomputable def b_block_of : Sx := (retS (frzE (lcX (seqI (varE 1)) [3] (nmG 3) yesT (frzE (lcX (seqI (varE 2)) [4] (nmG 4) yesT (callE F_gap_in (consA (varE 0) (consA (varE 3) (consA (varE 4) nilA)))))))))
noncomputable def F_block_of : List D → Sto → R D := fnF 5 b_block_of
noncomputable def b_sets_of : Sx := (seqS (asgS (frzE (consA (tupE nilA) nilA)) (nmG 1)) (seqS (forS (rng1I (varE 0)) (nmG 2) (asgS (opE addD (frzE (lcX (seqI (varE 1)) [3] (nmG 3) yesT (opE addD (varE 3) (tupE (consA (cE (.bool false)) nilA))))) (frzE (lcX (seqI (varE 1)) [3] (nmG 3) yesT (opE addD (varE 3) (tupE (consA (cE (.bool true)) nilA)))))) (nmG 1))) (retS (varE 1))))
noncomputable def F_sets_of : List D → Sto → R D := fnF 4 b_sets_of
noncomputable def b_column_of : Sx := (seqS (asgS (opE subD (callE lenD (consA (varE 0) nilA)) (methL countD (varE 0) (consA (varE 1) nilA))) (nmG 2)) (seqS (ifS (valT (opE eqD (varE 0) (frzE nilA))) (retS (tupE (consA (cE (.int 0)) (consA (cE .none) nilA)))) passS) (seqS (asgS (callE F_most_in (consA (varE 0) nilA)) (nmG 3)) (seqS (ifS (valT (opE ltD (opE subD (opE addD (cE (.int 1)) (callE lenD (consA (varE 0) nilA))) (methL countD (varE 0) (consA (varE 3) nilA))) (varE 2))) (retS (tupE (consA (opE subD (opE addD (cE (.int 1)) (callE lenD (consA (varE 0) nilA))) (methL countD (varE 0) (consA (varE 3) nilA))) (consA (varE 3) nilA)))) passS) (retS (tupE (consA (varE 2) (consA (cE .none) nilA))))))))
noncomputable def F_column_of : List D → Sto → R D := fnF 4 b_column_of
noncomputable def b_settled : Sx := (seqS (asgS (frzE (lcX (zipI (varE 0) (varE 2)) [5, 10] (tupG 2 (consG (nmG 5) (consG (nmG 10) nilG))) yesT (ifE (valT (varE 10)) (callE F_most_in (consA (varE 5) nilA)) (cE .none)))) (nmG 3)) (seqS (asgS (cE (.int 0)) (nmG 4)) (seqS (forS (zipI (varE 0) (varE 3)) (tupG 2 (consG (nmG 5) (consG (nmG 6) nilG))) (ifS (valT (opE notND (varE 6) (cE .none))) (asgS (opE subD (opE addD (opE addD (varE 4) (cE (.int 1))) (callE lenD (consA (varE 5) nilA))) (methL countD (varE 5) (consA (varE 6) nilA))) (nmG 4)) passS)) (seqS (asgS (thwE nilA) (nmG 7)) (seqS (forS (rng1I (callE lenD (consA (opE itemD (varE 0) (cE (.int 0))) nilA))) (nmG 8) (seqS (asgS (callE F_column_of (consA (frzE (lcX (zipI (varE 0) (varE 2)) [5, 10] (tupG 2 (consG (nmG 5) (consG (nmG 10) nilG))) (notT (valT (varE 10))) (opE itemD (varE 5) (varE 8)))) (consA (varE 1) nilA))) (tupG 2 (consG (nmG 9) (consG (nmG 6) nilG)))) (seqS (asgS (opE addD (varE 4) (varE 9)) (nmG 4)) (exprS (methL appendD (varE 7) (consA (varE 6) nilA)))))) (seqS (fixS 7) (retS (tupE (consA (varE 4) (consA (varE 1) (consA (varE 3) (consA (varE 7) nilA))))))))))))
noncomputable def F_settled : List D → Sto → R D := fnF 11 b_settled
noncomputable def b_best_block : Sx := (seqS (asgS (frzE (sortSetL (frzE (sumL (varE 0))))) (nmG 1)) (seqS (asgS (cE .none) (nmG 2)) (seqS (forS (seqI (callE F_sets_of (consA (callE lenD (consA (varE 0) nilA)) nilA))) (nmG 3) (forS (seqI (varE 1)) (nmG 4) (seqS (asgS (callE F_settled (consA (varE 0) (consA (varE 4) (consA (varE 3) nilA)))) (nmG 5)) (ifS (orT (valT (opE isND (varE 2) (cE .none))) (valT (opE ltD (opE itemD (varE 5) (cE (.int 0))) (opE itemD (varE 2) (cE (.int 0)))))) (asgS (varE 5) (nmG 2)) passS)))) (retS (varE 2)))))
noncomputable def F_best_block : List D → Sto → R D := fnF 6 b_best_block
noncomputable def b_need_partings : Sx := (seqS (exprS (callE F_need_parting (consA (varE 0) (consA (varE 1) nilA)))) (seqS (exprS (callE F_need_parting (consA (varE 0) (consA (varE 2) nilA)))) (ifS (valT (opE (cmpI fun i j => decide (j < i)) (callE maxD (consA (frzE (lcX (seqI (varE 1)) [3] (nmG 3) yesT (callE lenD (consA (varE 3) nilA)))) nilA)) (cE (.int 6)))) (raiseS "TooMany") passS)))
noncomputable def F_need_partings : List D → Sto → R D := fnF 4 b_need_partings
noncomputable def b_fewest_told : Sx := (seqS (exprS (callE F_need_partings (consA (varE 0) (consA (varE 2) (consA (varE 3) nilA))))) (seqS (asgS (cE (.int 0)) (nmG 4)) (seqS (forS (seqI (varE 2)) (nmG 5) (asgS (opE addD (varE 4) (callE sumD (consA (frzE (lcX (seqI (varE 3)) [6] (nmG 6) yesT (opE itemD (callE F_best_block (consA (callE F_block_of (consA (varE 1) (consA (varE 5) (consA (varE 6) nilA)))) nilA)) (cE (.int 0))))) nilA))) (nmG 4))) (retS (varE 4)))))
noncomputable def F_fewest_told : List D → Sto → R D := fnF 7 b_fewest_told
noncomputable def b_told_ones : Sx := (seqS (asgS (varE 4) (tupG 4 (consG (nmG 5) (consG (nmG 6) (consG (nmG 7) (consG (nmG 8) nilG)))))) (seqS (parS [9, 10, 11] (consA (thwE nilA) (consA (thwE nilA) (consA (thwE nilA) nilA)))) (seqS (forS (zipI (varE 1) (varE 7)) (tupG 2 (consG (nmG 12) (consG (nmG 13) nilG))) (seqS (ifS (valT (opE notND (varE 13) (cE .none))) (exprS (methL appendD (varE 10) (consA (tupE (consA (varE 12) (consA (opE itemD (varE 3) (cE (.int 1))) (consA (varE 13) nilA)))) nilA))) passS) (forS (zipI (varE 2) (varE 8)) (tupG 2 (consG (nmG 14) (consG (nmG 15) nilG))) (seqS (asgS (varE 13) (nmG 16)) (seqS (ifS (valT (opE isND (varE 13) (cE .none))) (asgS (ifE (valT (opE isND (varE 15) (cE .none))) (varE 6) (varE 15)) (nmG 16)) passS) (ifS (valT (opE neD (callE F_gap_in (consA (varE 0) (consA (varE 12) (consA (varE 14) nilA)))) (varE 16))) (exprS (methL appendD (varE 9) (consA (tupE (consA (varE 12) (consA (varE 14) (consA (callE F_gap_in (consA (varE 0) (consA (varE 12) (consA (varE 14) nilA)))) nilA)))) nilA))) passS)))))) (seqS (forS (zipI (varE 2) (varE 8)) (tupG 2 (consG (nmG 14) (consG (nmG 15) nilG))) (ifS (valT (opE notND (varE 15) (cE .none))) (exprS (methL appendD (varE 11) (consA (tupE (consA (opE itemD (varE 3) (cE (.int 0))) (consA (varE 14) (consA (varE 15) nilA)))) nilA))) passS)) (seqS (fixS 9) (seqS (fixS 10) (seqS (fixS 11) (retS (tupE (consA (varE 9) (consA (varE 10) (consA (varE 11) nilA))))))))))))
noncomputable def F_told_ones : List D → Sto → R D := fnF 17 b_told_ones
noncomputable def b_best_told (T : Nat) : Sx := (seqS (exprS (callE F_need_partings (consA (varE 0) (consA (varE 2) (consA (varE 3) nilA))))) (seqS (parS [4, 5, 6, 7] (consA (thwE nilA) (consA (thwE nilA) (consA (thwE nilA) (consA (thwE nilA) nilA))))) (seqS (forS (enumI (varE 2)) (tupG 2 (consG (nmG 8) (consG (nmG 9) nilG))) (seqS (asgS (thwE nilA) (nmG 10)) (seqS (forS (enumI (varE 3)) (tupG 2 (consG (nmG 11) (consG (nmG 12) nilG))) (seqS (asgS (callE F_best_block (consA (callE F_block_of (consA (varE 1) (consA (varE 9) (consA (varE 12) nilA)))) nilA)) (nmG 13)) (seqS (asgS (callE F_told_ones (consA (varE 1) (consA (varE 9) (consA (varE 12) (consA (tupE (consA (varE 8) (consA (varE 11) nilA))) (consA (varE 13) nilA)))))) (nmG 14)) (seqS (exprS (methL appendD (varE 10) (consA (opE itemD (varE 13) (cE (.int 1))) nilA))) (seqS (exprS (methL extendD (varE 5) (consA (opE itemD (varE 14) (cE (.int 0))) nilA))) (seqS (exprS (methL extendD (varE 6) (consA (opE itemD (varE 14) (cE (.int 1))) nilA))) (exprS (methL extendD (varE 7) (consA (opE itemD (varE 14) (cE (.int 2))) nilA))))))))) (exprS (methL appendD (varE 4) (consA (callE tupleD (consA (varE 10) nilA)) nilA)))))) (seqS (asgS (thwE (sortKL T "best_told.<locals>.<lambda>" (varE 5) (tupE (consA (callE F_place_of (consA (varE 0) (consA (opE itemD (varE 15) (cE (.int 0))) nilA))) (consA (callE F_place_of (consA (varE 0) (consA (opE itemD (varE 15) (cE (.int 1))) nilA))) nilA))))) (nmG 5)) (seqS (asgS (thwE (sortKL T "best_told.<locals>.<lambda>" (varE 6) (tupE (consA (callE F_place_of (consA (varE 0) (consA (opE itemD (varE 15) (cE (.int 0))) nilA))) (consA (opE itemD (varE 15) (cE (.int 1))) nilA))))) (nmG 6)) (seqS (asgS (thwE (sortKL T "best_told.<locals>.<lambda>" (varE 7) (tupE (consA (opE itemD (varE 15) (cE (.int 0))) (consA (callE F_place_of (consA (varE 0) (consA (opE itemD (varE 15) (cE (.int 1))) nilA))) nilA))))) (nmG 7)) (seqS (fixS 5) (seqS (fixS 6) (seqS (fixS 7) (retS (tupE (consA (varE 2) (consA (varE 3) (consA (callE tupleD (consA (varE 4) nilA)) (consA (callE tupleD (consA (opE addD (opE addD (varE 5) (varE 6)) (varE 7)) nilA)) nilA)))))))))))))))
noncomputable def F_best_told (T : Nat) : List D → Sto → R D := fnF 15 (b_best_told T)
end DV

set_option maxHeartbeats 4000000
namespace DV.k53
open PySem PySem.Spec PyProof.Rows L2 DV
def words_ : List (Str × Str) := [("NoParting", "! parting"), ("TooMany", "! many")]
noncomputable def q_law_0 (A B T U : Nat) : Sx := (forS (rng1I (cE (.int 2))) (nmG 10) (seqS (asgS (opE itemD (frzE (consA (varE 7) (consA (callE F_law_parting (consA (varE 2) (consA (varE 3) (consA (cE (.int 4)) nilA)))) nilA))) (callE F_law_take (consA (varE 2) (consA (cE (.int 2)) nilA)))) (nmG 11)) (seqS (asgS (frzE (consA (varE 11) (consA (varE 11) (consA (callE (F_law_spoil 6) (consA (varE 2) (consA (varE 11) (consA (callE F_law_odd_v1 (consA (varE 2) (consA (varE 3) nilA))) nilA)))) (consA (callE F_law_odd_v1 (consA (varE 2) (consA (varE 3) nilA))) nilA))))) (nmG 12)) (exprS (methL appendD (varE 9) (consA (opE itemD (varE 12) (callE F_law_take (consA (varE 2) (consA (cE (.int 4)) nilA)))) nilA))))))
noncomputable def q_law_1 (A B T U : Nat) : Sx := (ifS (valT (opE (cmpI fun i j => decide (j < i)) (callE maxD (consA (frzE (lcX (seqI (varE 13)) [19] (nmG 19) yesT (callE lenD (consA (varE 19) nilA)))) nilA)) (cE (.int 6)))) (asgS (cE (.str "! many")) (nmG 15)) passS)
noncomputable def q_law_2 (A B T U : Nat) : Sx := (ifS (orT (notT (valT (callE F_law_is_parting (consA (varE 3) (consA (varE 13) nilA))))) (notT (valT (callE F_law_is_parting (consA (varE 3) (consA (varE 14) nilA)))))) (asgS (cE (.str "! parting")) (nmG 15)) (q_law_1 A B T U))
noncomputable def q_law_3 (A B T U : Nat) : Sx := (ifS (orT (andT (valT (opE neD (varE 15) (cE (.str "")))) (valT (opE neD (varE 18) (varE 15)))) (andT (valT (opE eqD (varE 15) (cE (.str "")))) (valT (opE eqD (sliceE (varE 18) noP (someP (cE (.int 1)))) (cE (.str "!")))))) (retS (cE (.bool false))) passS)
noncomputable def q_law_4 (A B T U : Nat) : Sx := (forS (fnsI [A, B]) (nmG 17) (seqS (asgS (saidE T "law.<locals>.<lambda>" words_ (callV (List.zip [A, B] [F_fewest_told, (F_best_told U)]) (varE 17) (consA (varE 3) (consA (varE 5) (consA (varE 13) (consA (varE 14) nilA)))))) (nmG 18)) (q_law_3 A B T U)))
noncomputable def q_law_5 (A B T U : Nat) : Sx := (ifS (valT (opE neD (callE reprX (consA (varE 9) nilA)) (varE 16))) (retS (cE (.bool false))) passS)
noncomputable def q_law_6 (A B T U : Nat) : Sx := (forS (rng1I (cE (.int 6))) (nmG 8) (seqS (asgS (thwE nilA) (nmG 9)) (seqS (q_law_0 A B T U) (seqS (fixS 9) (seqS (asgS (varE 9) (lstG 2 (consG (nmG 13) (consG (nmG 14) nilG)))) (seqS (parS [15, 16] (consA (cE (.str "")) (consA (callE reprX (consA (varE 9) nilA)) nilA))) (seqS (q_law_2 A B T U) (seqS (q_law_4 A B T U) (q_law_5 A B T U)))))))))
noncomputable def q_law_7 (A B T U : Nat) : Sx := (forS (rng1I (callE max2D (consA (cE (.int 1)) (consA (callE min2D (consA (callE lenD (consA (varE 0) nilA)) (consA (cE (.int 4)) nilA))) nilA)))) (nmG 1) (seqS (asgS (callE F_law_box (consA (varE 0) (consA (varE 1) nilA))) (nmG 2)) (seqS (asgS (callE F_law_face (consA (varE 2) (consA (opE itemD (frzE (consA (cE (.int 1)) (consA (cE (.int 6)) (consA (cE (.int 7)) nilA)))) (callE F_law_take (consA (varE 2) (consA (cE (.int 3)) nilA)))) (consA (cE (.int 10)) nilA)))) (nmG 3)) (seqS (asgS (callE F_law_letters (consA (varE 3) nilA)) (nmG 4)) (seqS (asgS (sliceE (callE F_law_list (consA (varE 3) (consA (frzE (lcX (seqI (varE 4)) [13] (nmG 13) yesT (frzE (lcX (seqI (varE 4)) [14] (nmG 14) yesT (callE intD (consA (opE neD (varE 13) (varE 14)) nilA)))))) nilA))) noP (someP (cE (.int 30)))) (nmG 5)) (seqS (asgS (opE addD (cE (.int 6)) (callE F_law_take (consA (varE 2) (consA (cE (.int 2)) nilA)))) (nmG 6)) (seqS (asgS (callE tupleD (consA (frzE (lcX (seqI (tupE (consA (callE tupleD (consA (sliceA (varE 4) noP (someP (varE 6))) nilA)) (consA (callE tupleD (consA (sliceA (varE 4) (someP (varE 6)) noP) nilA)) nilA)))) [19] (nmG 19) (valT (opE neD (varE 19) (tupE nilA))) (varE 19))) nilA)) (nmG 7)) (q_law_6 A B T U))))))))
noncomputable def b_law (A B T U : Nat) : Sx := (seqS (q_law_7 A B T U) (retS (cE (.bool true))))
noncomputable def F_law (A B T U : Nat) : List D → Sto → R D := fnF 20 (b_law A B T U)
end DV.k53

set_option maxHeartbeats 4000000
namespace DV.k53
open PySem PySem.Spec PyProof.Rows L2 DV
def topS (i : Nat) : Stmt := PySem.Challenge.pw_stampgaps_k53_which_refusal_of_kinds.main.body.getD i (.Pass ⟨0, 0, 0, 0⟩)
abbrev s_place_of : Stmt := topS 19
theorem sc_place_of : FnScope ["face", "thing", "place", "one"] ["face", "thing"] (defScope s_place_of) := ⟨rfl, rfl, rfl, by decide +kernel, rfl, by decide +kernel, by decide +kernel⟩
abbrev s_gap_in : Stmt := topS 20
theorem sc_gap_in : FnScope ["pairs", "left", "right", "one", "other", "gap"] ["pairs", "left", "right"] (defScope s_gap_in) := ⟨rfl, rfl, rfl, by decide +kernel, rfl, by decide +kernel, by decide +kernel⟩
abbrev s_is_parting : Stmt := topS 22
theorem sc_is_parting : FnScope ["face", "thing", "places", "one", "here", "firsts", "together", "letter"] ["face", "thing"] (defScope s_is_parting) := ⟨rfl, rfl, rfl, by decide +kernel, rfl, by decide +kernel, by decide +kernel⟩
abbrev s_need_parting : Stmt := topS 23
theorem sc_need_parting : FnScope ["face", "thing"] ["face", "thing"] (defScope s_need_parting) := ⟨rfl, rfl, rfl, by decide +kernel, rfl, by decide +kernel, by decide +kernel⟩
abbrev s_most_in : Stmt := topS 25
theorem sc_most_in : FnScope ["values", "value"] ["values"] (defScope s_most_in) := ⟨rfl, rfl, rfl, by decide +kernel, rfl, by decide +kernel, by decide +kernel⟩
abbrev s_block_of : Stmt := topS 28
theorem sc_block_of : FnScope ["pairs", "left", "right", "one", "other"] ["pairs", "left", "right"] (defScope s_block_of) := ⟨rfl, rfl, rfl, by decide +kernel, rfl, by decide +kernel, by decide +kernel⟩
abbrev s_sets_of : Stmt := topS 29
theorem sc_sets_of : FnScope ["many", "found", "turn", "row"] ["many"] (defScope s_sets_of) := ⟨rfl, rfl, rfl, by decide +kernel, rfl, by decide +kernel, by decide +kernel⟩
abbrev s_column_of : Stmt := topS 30
theorem sc_column_of : FnScope ["values", "gap", "plain", "best"] ["values", "gap"] (defScope s_column_of) := ⟨rfl, rfl, rfl, by decide +kernel, rfl, by decide +kernel, by decide +kernel⟩
abbrev s_settled : Stmt := topS 31
theorem sc_settled : FnScope ["block", "gap", "own", "row_gaps", "total", "row", "told", "columns", "number", "many", "has"] ["block", "gap", "own"] (defScope s_settled) := ⟨rfl, rfl, rfl, by decide +kernel, rfl, by decide +kernel, by decide +kernel⟩
abbrev s_best_block : Stmt := topS 32
theorem sc_best_block : FnScope ["block", "values", "best", "own", "gap", "here"] ["block"] (defScope s_best_block) := ⟨rfl, rfl, rfl, by decide +kernel, rfl, by decide +kernel, by decide +kernel⟩
abbrev s_need_partings : Stmt := topS 33
theorem sc_need_partings : FnScope ["face", "lefts", "rights", "one"] ["face", "lefts", "rights"] (defScope s_need_partings) := ⟨rfl, rfl, rfl, by decide +kernel, rfl, by decide +kernel, by decide +kernel⟩
abbrev s_fewest_told : Stmt := topS 34
theorem sc_fewest_told : FnScope ["face", "pairs", "lefts", "rights", "total", "left", "right"] ["face", "pairs", "lefts", "rights"] (defScope s_fewest_told) := ⟨rfl, rfl, rfl, by decide +kernel, rfl, by decide +kernel, by decide +kernel⟩
abbrev s_told_ones : Stmt := topS 35
theorem sc_told_ones : FnScope ["pairs", "left", "right", "numbers", "found", "total", "gap", "row_gaps", "columns", "singles", "rows", "downs", "one", "own", "other", "told", "due"] ["pairs", "left", "right", "numbers", "found"] (defScope s_told_ones) := ⟨rfl, rfl, rfl, by decide +kernel, rfl, by decide +kernel, by decide +kernel⟩
abbrev s_best_told : Stmt := topS 36
theorem sc_best_told : FnScope ["face", "pairs", "lefts", "rights", "gaps", "singles", "rows", "downs", "first", "left", "line", "second", "right", "found", "more"] ["face", "pairs", "lefts", "rights"] (defScope s_best_told) := ⟨rfl, rfl, rfl, by decide +kernel, rfl, by decide +kernel, by decide +kernel⟩
abbrev s_law_box : Stmt := topS 38
theorem sc_law_box : FnScope ["_law_script", "_law_k", "_law_cell"] ["_law_script", "_law_k"] (defScope s_law_box) := ⟨rfl, rfl, rfl, by decide +kernel, rfl, by decide +kernel, by decide +kernel⟩
abbrev s_law_take : Stmt := topS 39
theorem sc_law_take : FnScope ["_law_box_here", "_law_many", "_law_digit", "_law_high"] ["_law_box_here", "_law_many"] (defScope s_law_take) := ⟨rfl, rfl, rfl, by decide +kernel, rfl, by decide +kernel, by decide +kernel⟩
abbrev s_law_face : Stmt := topS 40
theorem sc_law_face : FnScope ["_law_box_here", "_law_least", "_law_most", "_law_pool", "_law_many", "_law_letters_here", "_law_turn"] ["_law_box_here", "_law_least", "_law_most"] (defScope s_law_face) := ⟨rfl, rfl, rfl, by decide +kernel, rfl, by decide +kernel, by decide +kernel⟩
abbrev s_law_letters : Stmt := topS 41
theorem sc_law_letters : FnScope ["_law_face_here", "_law_one"] ["_law_face_here"] (defScope s_law_letters) := ⟨rfl, rfl, rfl, by decide +kernel, rfl, by decide +kernel, by decide +kernel⟩
abbrev s_law_list : Stmt := topS 42
theorem sc_law_list : FnScope ["_law_face_here", "_law_rows", "_law_letters_here", "_law_found", "_law_left", "_law_row", "_law_right", "_law_gap"] ["_law_face_here", "_law_rows"] (defScope s_law_list) := ⟨rfl, rfl, rfl, by decide +kernel, rfl, by decide +kernel, by decide +kernel⟩
abbrev s_law_odd : Stmt := topS 43
theorem sc_law_odd : FnScope ["_law_box_here", "_law_face_here", "_law_letters_here", "_law_letter", "_law_other", "_law_some"] ["_law_box_here", "_law_face_here"] (defScope s_law_odd) := ⟨rfl, rfl, rfl, by decide +kernel, rfl, by decide +kernel, by decide +kernel⟩
abbrev s_law_spoil : Stmt := topS 44
theorem sc_law_spoil : FnScope ["_law_box_here", "_law_thing", "_law_odd_here", "_law_at", "_law_way", "_law_some"] ["_law_box_here", "_law_thing", "_law_odd_here"] (defScope s_law_spoil) := ⟨rfl, rfl, rfl, by decide +kernel, rfl, by decide +kernel, by decide +kernel⟩
abbrev s_law_grouped : Stmt := topS 47
theorem sc_law_grouped : FnScope ["_law_letters_here", "_law_marks", "_law_found", "_law_place", "_law_mark", "_law_letter", "_law_own"] ["_law_letters_here", "_law_marks"] (defScope s_law_grouped) := ⟨rfl, rfl, rfl, by decide +kernel, rfl, by decide +kernel, by decide +kernel⟩
abbrev s_law_parting : Stmt := topS 48
theorem sc_law_parting : FnScope ["_law_box_here", "_law_face_here", "_law_most", "_law_letters_here", "_law_letter"] ["_law_box_here", "_law_face_here", "_law_most"] (defScope s_law_parting) := ⟨rfl, rfl, rfl, by decide +kernel, rfl, by decide +kernel, by decide +kernel⟩
abbrev s_law_is_parting : Stmt := topS 49
theorem sc_law_is_parting : FnScope ["_law_face_here", "_law_thing", "_law_letters_here", "_law_met", "_law_firsts", "_law_one", "_law_here", "_law_letter"] ["_law_face_here", "_law_thing"] (defScope s_law_is_parting) := ⟨rfl, rfl, rfl, by decide +kernel, rfl, by decide +kernel, by decide +kernel⟩
abbrev s_law : Stmt := topS 50
theorem sc_law : FnScope ["_law_script", "_law_k", "_law_box_here", "_law_face_here", "_law_letters_here", "_law_pairs", "_law_at", "_law_great", "_law_turn", "_law_sides", "_law_side", "_law_parting_here", "_law_some", "_law_left", "_law_right", "_law_due", "_law_held", "_law_call", "_law_found", "_law_one"] ["_law_script"] (defScope s_law) := ⟨rfl, rfl, rfl, by decide +kernel, rfl, by decide +kernel, by decide +kernel⟩
abbrev s_law_word : Stmt := topS 45
theorem sc_law_word : FnScope ["_law_e", "_law_kinds", "_law_words"] ["_law_e"] (defScope s_law_word) := ⟨rfl, rfl, rfl, by decide +kernel, rfl, by decide +kernel, by decide +kernel⟩
abbrev s_law_said : Stmt := topS 46
theorem sc_law_said : FnScope ["_law_call", "_law_e"] ["_law_call"] (defScope s_law_said) := ⟨rfl, rfl, rfl, by decide +kernel, rfl, by decide +kernel, by decide +kernel⟩
noncomputable def b_word (c : String) (a : Nat) : Sx := (seqS (asgS (frzE (consA (isaE a 0 (isW c "NoLetter")) (consA (isaE a 0 (isW c "NoGap")) (consA (isaE a 0 (isW c "NoRows")) (consA (isaE a 0 (isW c "NoParting")) nilA))))) (nmG 1)) (seqS (asgS (opE addD (varE 1) (frzE (consA (isaE a 0 (isW c "NoTable")) (consA (isaE a 0 (isW c "NoOpen")) (consA (isaE a 0 (isW c "NoLine")) (consA (isaE a 0 (isW c "NoPiece")) nilA)))))) (nmG 1)) (seqS (asgS (opE addD (varE 1) (frzE (consA (isaE a 0 (isW c "NoNumber")) (consA (isaE a 0 (isW c "NoDeed")) (consA (isaE a 0 (isW c "NoText")) (consA (isaE a 0 (isW c "NoWord")) nilA)))))) (nmG 1)) (seqS (asgS (opE addD (varE 1) (frzE (consA (isaE a 0 (isW c "Clash")) (consA (isaE a 0 (isW c "Kept")) (consA (isaE a 0 (isW c "TooWide")) (consA (isaE a 0 (isW c "TooMany")) nilA)))))) (nmG 1)) (seqS (ifS (orT (notT (valT (isaE a 0 (isW c "ValueError")))) (valT (opE neFD (methL countD (varE 1) (consA (cE (.bool true)) nilA)) (cE (.int 1))))) (retS (cE (.str "! none of them"))) passS) (seqS (asgS (frzE (consA (cE (.str "letter")) (consA (cE (.str "gap")) (consA (cE (.str "rows")) (consA (cE (.str "parting")) (consA (cE (.str "table")) (consA (cE (.str "open")) (consA (cE (.str "line")) (consA (cE (.str "piece")) (consA (cE (.str "number")) (consA (cE (.str "deed")) (consA (cE (.str "text")) (consA (cE (.str "word")) nilA))))))))))))) (nmG 2)) (retS (opE addD (cE (.str "! ")) (opE itemD (opE addD (varE 2) (frzE (consA (cE (.str "clash")) (consA (cE (.str "kept")) (consA (cE (.str "wide")) (consA (cE (.str "many")) nilA)))))) (methL indexD (varE 1) (consA (cE (.bool true)) nilA)))))))))))
theorem res_NoParting (a : Nat) (S : Sto) : b_word "NoParting" a (init 3 [.raw a]) S = .rt (.py (.str "! parting")) S := by
  have e1 := countD_bools [false, false, false, true, false, false, false, false, false, false, false, false, false, false, false, false] true 1 (by decide) S
  have e2 := indexD_bools [false, false, false, true, false, false, false, false, false, false, false, false, false, false, false, false] true 3 (by decide) S
  simp only [List.map] at e1 e2
  simp [b_word, init, seqS, asgS, frzE, frz, consA, nilA, isW, nmG, opE, varE, addD, ifS, orT, notT, valT, retS, methL, lsOk, cE, passS, neFD, flatD, sl_word, e1, e2, itemD, seqOf, L2.atI, L2.ixN]
  have e3 : Str.ofString "! " ++ Str.ofString "parting" = Str.ofString "! parting" := by decide +kernel
  rw [if_pos (by decide +kernel), e3]
  rfl
theorem res_TooMany (a : Nat) (S : Sto) : b_word "TooMany" a (init 3 [.raw a]) S = .rt (.py (.str "! many")) S := by
  have e1 := countD_bools [false, false, false, false, false, false, false, false, false, false, false, false, false, false, false, true] true 1 (by decide) S
  have e2 := indexD_bools [false, false, false, false, false, false, false, false, false, false, false, false, false, false, false, true] true 15 (by decide) S
  simp only [List.map] at e1 e2
  simp [b_word, init, seqS, asgS, frzE, frz, consA, nilA, isW, nmG, opE, varE, addD, ifS, orT, notT, valT, retS, methL, lsOk, cE, passS, neFD, flatD, sl_word, e1, e2, itemD, seqOf, L2.atI, L2.ixN]
  have e3 : Str.ofString "! " ++ Str.ofString "many" = Str.ofString "! many" := by decide +kernel
  rw [if_pos (by decide +kernel), e3]
  rfl
section
variable {P : Program} {w : World} {K : PySem.W.Frag} {mg : Str → Option Value} {base : Heap}
theorem ok_word {f : Addr} {fd : FuncData} (F0 : L2.Fun K "_law_word" "_law_word" s_law_word f fd) (Bw : Binds K fd ["_law_e"] []) (m_isinstance : mg "isinstance" = none) (m_ValueError : mg "ValueError" = none) (c : String) {D : Addr} (hD : clsV mg (Str.ofString c) = .ref D) (EC : ExcC K D) {w_NoLetter : Addr} (mw_NoLetter : mg "NoLetter" = some (.ref w_NoLetter)) (kt_NoLetter : PySem.W.kitOne K (.ref D) (.ref w_NoLetter) = some (isW c "NoLetter")) {w_NoGap : Addr} (mw_NoGap : mg "NoGap" = some (.ref w_NoGap)) (kt_NoGap : PySem.W.kitOne K (.ref D) (.ref w_NoGap) = some (isW c "NoGap")) {w_NoRows : Addr} (mw_NoRows : mg "NoRows" = some (.ref w_NoRows)) (kt_NoRows : PySem.W.kitOne K (.ref D) (.ref w_NoRows) = some (isW c "NoRows")) {w_NoParting : Addr} (mw_NoParting : mg "NoParting" = some (.ref w_NoParting)) (kt_NoParting : PySem.W.kitOne K (.ref D) (.ref w_NoParting) = some (isW c "NoParting")) {w_NoTable : Addr} (mw_NoTable : mg "NoTable" = some (.ref w_NoTable)) (kt_NoTable : PySem.W.kitOne K (.ref D) (.ref w_NoTable) = some (isW c "NoTable")) {w_NoOpen : Addr} (mw_NoOpen : mg "NoOpen" = some (.ref w_NoOpen)) (kt_NoOpen : PySem.W.kitOne K (.ref D) (.ref w_NoOpen) = some (isW c "NoOpen")) {w_NoLine : Addr} (mw_NoLine : mg "NoLine" = some (.ref w_NoLine)) (kt_NoLine : PySem.W.kitOne K (.ref D) (.ref w_NoLine) = some (isW c "NoLine")) {w_NoPiece : Addr} (mw_NoPiece : mg "NoPiece" = some (.ref w_NoPiece)) (kt_NoPiece : PySem.W.kitOne K (.ref D) (.ref w_NoPiece) = some (isW c "NoPiece")) {w_NoNumber : Addr} (mw_NoNumber : mg "NoNumber" = some (.ref w_NoNumber)) (kt_NoNumber : PySem.W.kitOne K (.ref D) (.ref w_NoNumber) = some (isW c "NoNumber")) {w_NoDeed : Addr} (mw_NoDeed : mg "NoDeed" = some (.ref w_NoDeed)) (kt_NoDeed : PySem.W.kitOne K (.ref D) (.ref w_NoDeed) = some (isW c "NoDeed")) {w_NoText : Addr} (mw_NoText : mg "NoText" = some (.ref w_NoText)) (kt_NoText : PySem.W.kitOne K (.ref D) (.ref w_NoText) = some (isW c "NoText")) {w_NoWord : Addr} (mw_NoWord : mg "NoWord" = some (.ref w_NoWord)) (kt_NoWord : PySem.W.kitOne K (.ref D) (.ref w_NoWord) = some (isW c "NoWord")) {w_Clash : Addr} (mw_Clash : mg "Clash" = some (.ref w_Clash)) (kt_Clash : PySem.W.kitOne K (.ref D) (.ref w_Clash) = some (isW c "Clash")) {w_Kept : Addr} (mw_Kept : mg "Kept" = some (.ref w_Kept)) (kt_Kept : PySem.W.kitOne K (.ref D) (.ref w_Kept) = some (isW c "Kept")) {w_TooWide : Addr} (mw_TooWide : mg "TooWide" = some (.ref w_TooWide)) (kt_TooWide : PySem.W.kitOne K (.ref D) (.ref w_TooWide) = some (isW c "TooWide")) {w_TooMany : Addr} (mw_TooMany : mg "TooMany" = some (.ref w_TooMany)) (kt_TooMany : PySem.W.kitOne K (.ref D) (.ref w_TooMany) = some (isW c "TooMany")) (kt_ValueError : PySem.W.kitOne K (.ref D) (.type "ValueError") = some (isW c "ValueError")) {t : Str} (res : ∀ (a : Addr) (S : Sto), b_word c a (init 3 [.raw a]) S = .rt (.py (.str t)) S) : WordD P w K mg base 1 f (Str.ofString c) t :=
  word_ok (b := b_word c) F0 sc_law_word Bw hD (fun cdv A outer s H a oe hz hf hu => (dss_cons (ds_set 1 sc_law_word.nd (de_frz (dl_lst (da_cons (de_isa 0 EC (List.mem_singleton.mpr rfl) hz hf kt_NoLetter (cls_own mw_NoLetter) (fun _ r => r) m_isinstance) (da_cons (de_isa 0 EC (List.mem_singleton.mpr rfl) hz hf kt_NoGap (cls_own mw_NoGap) (fun _ r => r) m_isinstance) (da_cons (de_isa 0 EC (List.mem_singleton.mpr rfl) hz hf kt_NoRows (cls_own mw_NoRows) (fun _ r => r) m_isinstance) (da_cons (de_isa 0 EC (List.mem_singleton.mpr rfl) hz hf kt_NoParting (cls_own mw_NoParting) (fun _ r => r) m_isinstance) da_nil))))))) (dss_cons (ds_set 1 sc_law_word.nd (de_bin do_add (de_var 1) (de_frz (dl_lst (da_cons (de_isa 0 EC (List.mem_singleton.mpr rfl) hz hf kt_NoTable (cls_own mw_NoTable) (fun _ r => r) m_isinstance) (da_cons (de_isa 0 EC (List.mem_singleton.mpr rfl) hz hf kt_NoOpen (cls_own mw_NoOpen) (fun _ r => r) m_isinstance) (da_cons (de_isa 0 EC (List.mem_singleton.mpr rfl) hz hf kt_NoLine (cls_own mw_NoLine) (fun _ r => r) m_isinstance) (da_cons (de_isa 0 EC (List.mem_singleton.mpr rfl) hz hf kt_NoPiece (cls_own mw_NoPiece) (fun _ r => r) m_isinstance) da_nil)))))))) (dss_cons (ds_set 1 sc_law_word.nd (de_bin do_add (de_var 1) (de_frz (dl_lst (da_cons (de_isa 0 EC (List.mem_singleton.mpr rfl) hz hf kt_NoNumber (cls_own mw_NoNumber) (fun _ r => r) m_isinstance) (da_cons (de_isa 0 EC (List.mem_singleton.mpr rfl) hz hf kt_NoDeed (cls_own mw_NoDeed) (fun _ r => r) m_isinstance) (da_cons (de_isa 0 EC (List.mem_singleton.mpr rfl) hz hf kt_NoText (cls_own mw_NoText) (fun _ r => r) m_isinstance) (da_cons (de_isa 0 EC (List.mem_singleton.mpr rfl) hz hf kt_NoWord (cls_own mw_NoWord) (fun _ r => r) m_isinstance) da_nil)))))))) (dss_cons (ds_set 1 sc_law_word.nd (de_bin do_add (de_var 1) (de_frz (dl_lst (da_cons (de_isa 0 EC (List.mem_singleton.mpr rfl) hz hf kt_Clash (cls_own mw_Clash) (fun _ r => r) m_isinstance) (da_cons (de_isa 0 EC (List.mem_singleton.mpr rfl) hz hf kt_Kept (cls_own mw_Kept) (fun _ r => r) m_isinstance) (da_cons (de_isa 0 EC (List.mem_singleton.mpr rfl) hz hf kt_TooWide (cls_own mw_TooWide) (fun _ r => r) m_isinstance) (da_cons (de_isa 0 EC (List.mem_singleton.mpr rfl) hz hf kt_TooMany (cls_own mw_TooMany) (fun _ r => r) m_isinstance) da_nil)))))))) (dss_cons (ds_if (dt_w (dw_or (dt_not (dt_val (de_isa 0 EC (List.mem_singleton.mpr rfl) hz hf kt_ValueError (cls_bltn m_ValueError) (fun _ r => r) m_isinstance))) (dw_or1 (dt_cmp do_neF (de_methL PySem.F.slot_list_count PySem.F.type_list_count (dm_countU hu) (de_var 1) (da_cons de_bl da_nil)) de_int)))) (dss_one (ds_ret de_str)) dss_nil) (dss_cons (ds_set 2 sc_law_word.nd (de_frz (dl_lst (da_cons de_str (da_cons de_str (da_cons de_str (da_cons de_str (da_cons de_str (da_cons de_str (da_cons de_str (da_cons de_str (da_cons de_str (da_cons de_str (da_cons de_str (da_cons de_str da_nil))))))))))))))) (dss_one (ds_ret (de_bin do_add de_str (de_item (de_bin do_add (de_var 2) (de_frz (dl_lst (da_cons de_str (da_cons de_str (da_cons de_str (da_cons de_str da_nil))))))) (de_methL PySem.F.slot_list_index PySem.F.type_list_index (dm_indexU hu) (de_var 1) (da_cons de_bl da_nil))))))))))))) res
theorem ok_place_of {f : Addr} {fd : FuncData} (F0 : L2.Fun K "place_of" "place_of" s_place_of f fd) (m_enumerate : mg "enumerate" = none) : FnD P w K mg base 1 f fd ["face", "thing"] F_place_of :=
  dfn F0 sc_place_of (fun _ _ _ _ _ _ o => (dss_cons (ds_for (vs := [2, 3]) o (di_enum m_enumerate (de_item (de_var 0) de_int)) (dg_tup o.calm (dgs_cons (dg_name 2 o.nd) (dgs_cons (dg_name 3 o.nd) dgs_nil))) (dss_one (ds_if (dt_cmp (do_eq o) (de_item (de_var 3) de_int) (de_var 1)) (dss_one (ds_ret (de_var 2))) dss_nil))) (dss_one (ds_ret de_non))))
theorem ok_gap_in {f : Addr} {fd : FuncData} (F0 : L2.Fun K "gap_in" "gap_in" s_gap_in f fd) : FnD P w K mg base 1 f fd ["pairs", "left", "right"] F_gap_in :=
  dfn F0 sc_gap_in (fun _ _ _ _ _ _ o => (dss_cons (ds_for (vs := [3, 4, 5]) o (di_seq (de_var 0)) (dg_tup o.calm (dgs_cons (dg_name 3 o.nd) (dgs_cons (dg_name 4 o.nd) (dgs_cons (dg_name 5 o.nd) dgs_nil)))) (dss_one (ds_if (dt_w (dw_and (dt_cmp (do_eq o) (de_var 3) (de_var 1)) (dw_and1 (dt_cmp (do_eq o) (de_var 4) (de_var 2))))) (dss_one (ds_ret (de_var 5))) dss_nil))) (dss_one (ds_ret de_int))))
theorem ok_is_parting {f : Addr} {fd : FuncData} (F0 : L2.Fun K "is_parting" "is_parting" s_is_parting f fd) {f_place_of : Addr} {fd_place_of : FuncData} (G_place_of : FnD P w K mg base 1 f_place_of fd_place_of ["face", "thing"] F_place_of) (A_place_of : At K mg "place_of" f_place_of fd_place_of ["face", "thing"]) (m_isinstance : mg "isinstance" = none) (m_tuple : mg "tuple" = none) (m_sorted : mg "sorted" = none) (m_sum : mg "sum" = none) (m_list : mg "list" = none) (m_range : mg "range" = none) (m_len : mg "len" = none) : FnD P w K mg base 2 f fd ["face", "thing"] F_is_parting :=
  dfn F0 sc_is_parting (fun _ _ _ _ _ _ o => (dss_cons (ds_if (dt_not (dt_val (de_isi (T := "tuple") m_isinstance m_tuple (de_var 1)))) (dss_one (ds_ret de_bl)) dss_nil) (dss_cons (ds_set 2 o.nd (de_thw (dl_lst da_nil))) (dss_cons (ds_for (vs := [3]) o (di_seq (de_var 1)) (dg_name 3 o.nd) (dss_cons (ds_if (dt_w (dw_or (dt_not (dt_val (de_isi (T := "tuple") m_isinstance m_tuple (de_var 3)))) (dw_or1 (dt_cmp (do_eq o) (de_var 3) (de_tup da_nil))))) (dss_one (ds_ret de_bl)) dss_nil) (dss_cons (ds_setLcF 4 [("letter", 7)] o (di_seq (de_var 3)) (fun _ _ _ _ _ o => (dg_name 7 o.nd)) (fun _ _ _ _ _ o => dts_nil) (fun _ _ _ _ _ o => (de_call o G_place_of A_place_of (by decide) (da_cons (de_var 0) (da_cons (de_var 7) da_nil))))) (dss_cons (ds_if (dt_w (dw_or (dt_cmp (do_in o) de_non (de_var 4)) (dw_or1 (dt_cmp (do_ne o) (de_var 4) (de_frz (dl_callB (dcl_sorted o) m_sorted rfl (da_cons (de_var 4) da_nil))))))) (dss_one (ds_ret de_bl)) dss_nil) (dss_one (ds_expr (de_methL PySem.F.slot_list_append PySem.F.type_list_append dm_append (de_var 2) (da_cons (de_var 4) da_nil)))))))) (dss_fix 2 (dss_cons (ds_setLcF 5 [("here", 4)] o (di_seq (de_var 2)) (fun _ _ _ _ _ o => (dg_name 4 o.nd)) (fun _ _ _ _ _ o => dts_nil) (fun _ _ _ _ _ o => (de_item (de_var 4) de_int))) (dss_cons (ds_set 6 o.nd (de_frz (dl_callB (dcl_sorted o) m_sorted rfl (da_cons (de_frz (dl_sumL o.calm m_sum (de_var 2))) da_nil)))) (dss_one (ds_ret (de_and (de_cmp (do_eq o) (de_var 5) (de_frz (dl_callB (dcl_sorted o) m_sorted rfl (da_cons (de_var 5) da_nil)))) (de_one (de_cmp (do_eq o) (de_var 6) (de_frz (dl_lrg1 o.calm m_list m_range (de_callB dc_len m_len boot_len (da_cons (de_item (de_var 0) de_int) da_nil))))))))))))))))
theorem ok_need_parting {f : Addr} {fd : FuncData} (F0 : L2.Fun K "need_parting" "need_parting" s_need_parting f fd) {f_is_parting : Addr} {fd_is_parting : FuncData} (G_is_parting : FnD P w K mg base 2 f_is_parting fd_is_parting ["face", "thing"] F_is_parting) (A_is_parting : At K mg "is_parting" f_is_parting fd_is_parting ["face", "thing"]) {a_NoParting : Addr} (X_NoParting : ExcAt K mg "NoParting" a_NoParting) : FnD P w K mg base 3 f fd ["face", "thing"] F_need_parting :=
  dfn F0 sc_need_parting (fun _ _ _ _ _ _ o => (dss_one (ds_if (dt_not (dt_val (de_call o G_is_parting A_is_parting (by decide) (da_cons (de_var 0) (da_cons (de_var 1) da_nil))))) (dss_one (ds_raise o X_NoParting)) dss_nil)))
theorem ok_most_in {f : Addr} {fd : FuncData} (F0 : L2.Fun K "most_in" "most_in" s_most_in f fd) (m_min : mg "min" = none) : FnD P w K mg base 1 f fd ["values"] F_most_in :=
  dfn F0 sc_most_in (fun _ _ _ _ _ _ o => (dss_one (ds_ret (de_item (de_callB (dc_minX o) m_min PyProof.Rows.boot_min (da_cons (de_frz (dl_lc [("value", 1)] o (di_seq (de_var 0)) (fun _ _ _ _ _ o => (dg_name 1 o.nd)) (fun _ _ _ _ _ o => dts_nil) (fun _ _ _ _ _ o => (de_tup (da_cons (de_bin do_sub de_int (de_methL PySem.F.slot_list_count PySem.F.type_list_count (dm_count o) (de_var 0) (da_cons (de_var 1) da_nil))) (da_cons (de_var 1) da_nil)))))) da_nil)) de_int))))
theorem ok_block_of {f : Addr} {fd : FuncData} (F0 : L2.Fun K "block_of" "block_of" s_block_of f fd) {f_gap_in : Addr} {fd_gap_in : FuncData} (G_gap_in : FnD P w K mg base 1 f_gap_in fd_gap_in ["pairs", "left", "right"] F_gap_in) (A_gap_in : At K mg "gap_in" f_gap_in fd_gap_in ["pairs", "left", "right"]) : FnD P w K mg base 2 f fd ["pairs", "left", "right"] F_block_of :=
  dfn F0 sc_block_of (fun _ _ _ _ _ _ o => (dss_one (ds_ret (de_frz (dl_lc [("one", 3)] o (di_seq (de_var 1)) (fun _ _ _ _ _ o => (dg_name 3 o.nd)) (fun _ _ _ _ _ o => dts_nil) (fun _ _ _ _ _ o => (de_frz (dl_lc [("other", 4)] o (di_seq (de_var 2)) (fun _ _ _ _ _ o => (dg_name 4 o.nd)) (fun _ _ _ _ _ o => dts_nil) (fun _ _ _ _ _ o => (de_call o G_gap_in A_gap_in (by decide) (da_cons (de_var 0) (da_cons (de_var 3) (da_cons (de_var 4) da_nil)))))))))))))
theorem ok_sets_of {f : Addr} {fd : FuncData} (F0 : L2.Fun K "sets_of" "sets_of" s_sets_of f fd) (m_range : mg "range" = none) : FnD P w K mg base 1 f fd ["many"] F_sets_of :=
  dfn F0 sc_sets_of (fun _ _ _ _ _ _ o => (dss_cons (ds_set 1 o.nd (de_frz (dl_lst (da_cons (de_tup da_nil) da_nil)))) (dss_cons (ds_for (vs := [2]) o (di_rng1 m_range (de_var 0)) (dg_name 2 o.nd) (dss_one (ds_set 1 o.nd (de_bin do_add (de_frz (dl_lc [("row", 3)] o (di_seq (de_var 1)) (fun _ _ _ _ _ o => (dg_name 3 o.nd)) (fun _ _ _ _ _ o => dts_nil) (fun _ _ _ _ _ o => (de_bin do_add (de_var 3) (de_tup (da_cons de_bl da_nil)))))) (de_frz (dl_lc [("row", 3)] o (di_seq (de_var 1)) (fun _ _ _ _ _ o => (dg_name 3 o.nd)) (fun _ _ _ _ _ o => dts_nil) (fun _ _ _ _ _ o => (de_bin do_add (de_var 3) (de_tup (da_cons de_bl da_nil)))))))))) (dss_one (ds_ret (de_var 1))))))
theorem ok_column_of {f : Addr} {fd : FuncData} (F0 : L2.Fun K "column_of" "column_of" s_column_of f fd) {f_most_in : Addr} {fd_most_in : FuncData} (G_most_in : FnD P w K mg base 1 f_most_in fd_most_in ["values"] F_most_in) (A_most_in : At K mg "most_in" f_most_in fd_most_in ["values"]) (m_len : mg "len" = none) : FnD P w K mg base 2 f fd ["values", "gap"] F_column_of :=
  dfn F0 sc_column_of (fun _ _ _ _ _ _ o => (dss_cons (ds_set 2 o.nd (de_bin do_sub (de_callB dc_len m_len boot_len (da_cons (de_var 0) da_nil)) (de_methL PySem.F.slot_list_count PySem.F.type_list_count (dm_count o) (de_var 0) (da_cons (de_var 1) da_nil)))) (dss_cons (ds_if (dt_cmp (do_eq o) (de_var 0) (de_frz (dl_lst da_nil))) (dss_one (ds_ret (de_tup (da_cons de_int (da_cons de_non da_nil))))) dss_nil) (dss_cons (ds_set 3 o.nd (de_call o G_most_in A_most_in (by decide) (da_cons (de_var 0) da_nil))) (dss_cons (ds_if (dt_cmp (do_ltX o) (de_bin do_sub (de_bin do_add de_int (de_callB dc_len m_len boot_len (da_cons (de_var 0) da_nil))) (de_methL PySem.F.slot_list_count PySem.F.type_list_count (dm_count o) (de_var 0) (da_cons (de_var 3) da_nil))) (de_var 2)) (dss_one (ds_ret (de_tup (da_cons (de_bin do_sub (de_bin do_add de_int (de_callB dc_len m_len boot_len (da_cons (de_var 0) da_nil))) (de_methL PySem.F.slot_list_count PySem.F.type_list_count (dm_count o) (de_var 0) (da_cons (de_var 3) da_nil))) (da_cons (de_var 3) da_nil))))) dss_nil) (dss_one (ds_ret (de_tup (da_cons (de_var 2) (da_cons de_non da_nil))))))))))
theorem ok_settled {f : Addr} {fd : FuncData} (F0 : L2.Fun K "settled" "settled" s_settled f fd) {f_most_in : Addr} {fd_most_in : FuncData} (G_most_in : FnD P w K mg base 1 f_most_in fd_most_in ["values"] F_most_in) (A_most_in : At K mg "most_in" f_most_in fd_most_in ["values"]) {f_column_of : Addr} {fd_column_of : FuncData} (G_column_of : FnD P w K mg base 2 f_column_of fd_column_of ["values", "gap"] F_column_of) (A_column_of : At K mg "column_of" f_column_of fd_column_of ["values", "gap"]) (m_zip : mg "zip" = none) (m_len : mg "len" = none) (m_range : mg "range" = none) : FnD P w K mg base 3 f fd ["block", "gap", "own"] F_settled :=
  dfn F0 sc_settled (fun _ _ _ _ _ _ o => (dss_cons (ds_setLcF 3 [("row", 5), ("has", 10)] o (di_zip m_zip o.calm (de_var 0) (de_var 2)) (fun _ _ _ _ _ o => (dg_tup o.calm (dgs_cons (dg_name 5 o.nd) (dgs_cons (dg_name 10 o.nd) dgs_nil)))) (fun _ _ _ _ _ o => dts_nil) (fun _ _ _ _ _ o => (de_ife (dt_val (de_var 10)) (de_call o G_most_in A_most_in (by decide) (da_cons (de_var 5) da_nil)) de_non))) (dss_cons (ds_set 4 o.nd de_int) (dss_cons (ds_for (vs := [5, 6]) o (di_zip m_zip o.calm (de_var 0) (de_var 3)) (dg_tup o.calm (dgs_cons (dg_name 5 o.nd) (dgs_cons (dg_name 6 o.nd) dgs_nil))) (dss_one (ds_if (dt_cmp do_isnot (de_var 6) de_non) (dss_one (ds_set 4 o.nd (de_bin do_sub (de_bin do_add (de_bin do_add (de_var 4) de_int) (de_callB dc_len m_len boot_len (da_cons (de_var 5) da_nil))) (de_methL PySem.F.slot_list_count PySem.F.type_list_count (dm_count o) (de_var 5) (da_cons (de_var 6) da_nil))))) dss_nil))) (dss_cons (ds_set 7 o.nd (de_thw (dl_lst da_nil))) (dss_cons (ds_for (vs := [8]) o (di_rng1 m_range (de_callB dc_len m_len boot_len (da_cons (de_item (de_var 0) de_int) da_nil))) (dg_name 8 o.nd) (dss_cons (ds_asg (vs := [6, 9]) (de_call o G_column_of A_column_of (by decide) (da_cons (de_frz (dl_lc [("row", 5), ("has", 10)] o (di_zip m_zip o.calm (de_var 0) (de_var 2)) (fun _ _ _ _ _ o => (dg_tup o.calm (dgs_cons (dg_name 5 o.nd) (dgs_cons (dg_name 10 o.nd) dgs_nil)))) (fun _ _ _ _ _ o => (dts_one (dt_not (dt_val (de_var 10))))) (fun _ _ _ _ _ o => (de_item (de_var 5) (de_var 8))))) (da_cons (de_var 1) da_nil))) (dg_tup o.calm (dgs_cons (dg_name 9 o.nd) (dgs_cons (dg_name 6 o.nd) dgs_nil)))) (dss_cons (ds_set 4 o.nd (de_bin do_add (de_var 4) (de_var 9))) (dss_one (ds_expr (de_methL PySem.F.slot_list_append PySem.F.type_list_append dm_append (de_var 7) (da_cons (de_var 6) da_nil))))))) (dss_fix 7 (dss_one (ds_ret (de_tup (da_cons (de_var 4) (da_cons (de_var 1) (da_cons (de_var 3) (da_cons (de_var 7) da_nil))))))))))))))
theorem ok_best_block {f : Addr} {fd : FuncData} (F0 : L2.Fun K "best_block" "best_block" s_best_block f fd) {f_sets_of : Addr} {fd_sets_of : FuncData} (G_sets_of : FnD P w K mg base 1 f_sets_of fd_sets_of ["many"] F_sets_of) (A_sets_of : At K mg "sets_of" f_sets_of fd_sets_of ["many"]) {f_settled : Addr} {fd_settled : FuncData} (G_settled : FnD P w K mg base 3 f_settled fd_settled ["block", "gap", "own"] F_settled) (A_settled : At K mg "settled" f_settled fd_settled ["block", "gap", "own"]) (m_sorted : mg "sorted" = none) (m_set : mg "set" = none) (m_sum : mg "sum" = none) (m_len : mg "len" = none) : FnD P w K mg base 4 f fd ["block"] F_best_block :=
  dfn F0 sc_best_block (fun _ _ _ _ _ _ o => (dss_cons (ds_set 1 o.nd (de_frz (dl_sortSet o m_sorted m_set (de_frz (dl_sumL o.calm m_sum (de_var 0)))))) (dss_cons (ds_set 2 o.nd de_non) (dss_cons (ds_for (vs := [3]) o (di_seq (de_call o G_sets_of A_sets_of (by decide) (da_cons (de_callB dc_len m_len boot_len (da_cons (de_var 0) da_nil)) da_nil))) (dg_name 3 o.nd) (dss_one (ds_for (vs := [4]) o (di_seq (de_var 1)) (dg_name 4 o.nd) (dss_cons (ds_set 5 o.nd (de_call o G_settled A_settled (by decide) (da_cons (de_var 0) (da_cons (de_var 4) (da_cons (de_var 3) da_nil))))) (dss_one (ds_if (dt_w (dw_or (dt_cmp do_is (de_var 2) de_non) (dw_or1 (dt_cmp (do_ltX o) (de_item (de_var 5) de_int) (de_item (de_var 2) de_int))))) (dss_one (ds_set 2 o.nd (de_var 5))) dss_nil)))))) (dss_one (ds_ret (de_var 2)))))))
theorem ok_need_partings {f : Addr} {fd : FuncData} (F0 : L2.Fun K "need_partings" "need_partings" s_need_partings f fd) {f_need_parting : Addr} {fd_need_parting : FuncData} (G_need_parting : FnD P w K mg base 3 f_need_parting fd_need_parting ["face", "thing"] F_need_parting) (A_need_parting : At K mg "need_parting" f_need_parting fd_need_parting ["face", "thing"]) (m_len : mg "len" = none) (m_max : mg "max" = none) {t_MOST_ROWS : Tok} (c_MOST_ROWS : mg "MOST_ROWS" = some (.int 6 t_MOST_ROWS)) {a_TooMany : Addr} (X_TooMany : ExcAt K mg "TooMany" a_TooMany) : FnD P w K mg base 4 f fd ["face", "lefts", "rights"] F_need_partings :=
  dfn F0 sc_need_partings (fun _ _ _ _ _ _ o => (dss_cons (ds_expr (de_call o G_need_parting A_need_parting (by decide) (da_cons (de_var 0) (da_cons (de_var 1) da_nil)))) (dss_cons (ds_expr (de_call o G_need_parting A_need_parting (by decide) (da_cons (de_var 0) (da_cons (de_var 2) da_nil)))) (dss_one (ds_if (dt_cmp do_gt (de_callB (dc_max o) m_max PyProof.Rows.boot_max (da_cons (de_frz (dl_lc [("one", 3)] o (di_seq (de_var 1)) (fun _ _ _ _ _ o => (dg_name 3 o.nd)) (fun _ _ _ _ _ o => dts_nil) (fun _ _ _ _ _ o => (de_callB dc_len m_len boot_len (da_cons (de_var 3) da_nil))))) da_nil)) (de_gint c_MOST_ROWS)) (dss_one (ds_raise o X_TooMany)) dss_nil)))))
theorem ok_fewest_told {f : Addr} {fd : FuncData} (F0 : L2.Fun K "fewest_told" "fewest_told" s_fewest_told f fd) {f_need_partings : Addr} {fd_need_partings : FuncData} (G_need_partings : FnD P w K mg base 4 f_need_partings fd_need_partings ["face", "lefts", "rights"] F_need_partings) (A_need_partings : At K mg "need_partings" f_need_partings fd_need_partings ["face", "lefts", "rights"]) {f_best_block : Addr} {fd_best_block : FuncData} (G_best_block : FnD P w K mg base 4 f_best_block fd_best_block ["block"] F_best_block) (A_best_block : At K mg "best_block" f_best_block fd_best_block ["block"]) {f_block_of : Addr} {fd_block_of : FuncData} (G_block_of : FnD P w K mg base 2 f_block_of fd_block_of ["pairs", "left", "right"] F_block_of) (A_block_of : At K mg "block_of" f_block_of fd_block_of ["pairs", "left", "right"]) (m_sum : mg "sum" = none) : FnD P w K mg base 5 f fd ["face", "pairs", "lefts", "rights"] F_fewest_told :=
  dfn F0 sc_fewest_told (fun _ _ _ _ _ _ o => (dss_cons (ds_expr (de_call o G_need_partings A_need_partings (by decide) (da_cons (de_var 0) (da_cons (de_var 2) (da_cons (de_var 3) da_nil))))) (dss_cons (ds_set 4 o.nd de_int) (dss_cons (ds_for (vs := [5]) o (di_seq (de_var 2)) (dg_name 5 o.nd) (dss_one (ds_set 4 o.nd (de_bin do_add (de_var 4) (de_callB (dc_sum o) m_sum rfl (da_cons (de_frz (dl_lc [("right", 6)] o (di_seq (de_var 3)) (fun _ _ _ _ _ o => (dg_name 6 o.nd)) (fun _ _ _ _ _ o => dts_nil) (fun _ _ _ _ _ o => (de_item (de_call o G_best_block A_best_block (by decide) (da_cons (de_call o G_block_of A_block_of (by decide) (da_cons (de_var 1) (da_cons (de_var 5) (da_cons (de_var 6) da_nil)))) da_nil)) de_int)))) da_nil)))))) (dss_one (ds_ret (de_var 4)))))))
theorem ok_told_ones {f : Addr} {fd : FuncData} (F0 : L2.Fun K "told_ones" "told_ones" s_told_ones f fd) {f_gap_in : Addr} {fd_gap_in : FuncData} (G_gap_in : FnD P w K mg base 1 f_gap_in fd_gap_in ["pairs", "left", "right"] F_gap_in) (A_gap_in : At K mg "gap_in" f_gap_in fd_gap_in ["pairs", "left", "right"]) (m_zip : mg "zip" = none) : FnD P w K mg base 2 f fd ["pairs", "left", "right", "numbers", "found"] F_told_ones :=
  dfn F0 sc_told_ones (fun _ _ _ _ _ _ o => (dss_cons (ds_asg (vs := [5, 6, 7, 8]) (de_var 4) (dg_tup o.calm (dgs_cons (dg_name 5 o.nd) (dgs_cons (dg_name 6 o.nd) (dgs_cons (dg_name 7 o.nd) (dgs_cons (dg_name 8 o.nd) dgs_nil)))))) (dss_cons (ds_par3 o.calm o.nd (da_cons (de_thw (dl_lst da_nil)) (da_cons (de_thw (dl_lst da_nil)) (da_cons (de_thw (dl_lst da_nil)) da_nil)))) (dss_cons (ds_for (vs := [12, 13]) o (di_zip m_zip o.calm (de_var 1) (de_var 7)) (dg_tup o.calm (dgs_cons (dg_name 12 o.nd) (dgs_cons (dg_name 13 o.nd) dgs_nil))) (dss_cons (ds_if (dt_cmp do_isnot (de_var 13) de_non) (dss_one (ds_expr (de_methL PySem.F.slot_list_append PySem.F.type_list_append dm_append (de_var 10) (da_cons (de_tup (da_cons (de_var 12) (da_cons (de_item (de_var 3) de_int) (da_cons (de_var 13) da_nil)))) da_nil)))) dss_nil) (dss_one (ds_for (vs := [14, 15]) o (di_zip m_zip o.calm (de_var 2) (de_var 8)) (dg_tup o.calm (dgs_cons (dg_name 14 o.nd) (dgs_cons (dg_name 15 o.nd) dgs_nil))) (dss_cons (ds_set 16 o.nd (de_var 13)) (dss_cons (ds_if (dt_cmp do_is (de_var 13) de_non) (dss_one (ds_set 16 o.nd (de_ife (dt_cmp do_is (de_var 15) de_non) (de_var 6) (de_var 15)))) dss_nil) (dss_one (ds_if (dt_cmp (do_ne o) (de_call o G_gap_in A_gap_in (by decide) (da_cons (de_var 0) (da_cons (de_var 12) (da_cons (de_var 14) da_nil)))) (de_var 16)) (dss_one (ds_expr (de_methL PySem.F.slot_list_append PySem.F.type_list_append dm_append (de_var 9) (da_cons (de_tup (da_cons (de_var 12) (da_cons (de_var 14) (da_cons (de_call o G_gap_in A_gap_in (by decide) (da_cons (de_var 0) (da_cons (de_var 12) (da_cons (de_var 14) da_nil)))) da_nil)))) da_nil)))) dss_nil)))))))) (dss_cons (ds_for (vs := [14, 15]) o (di_zip m_zip o.calm (de_var 2) (de_var 8)) (dg_tup o.calm (dgs_cons (dg_name 14 o.nd) (dgs_cons (dg_name 15 o.nd) dgs_nil))) (dss_one (ds_if (dt_cmp do_isnot (de_var 15) de_non) (dss_one (ds_expr (de_methL PySem.F.slot_list_append PySem.F.type_list_append dm_append (de_var 11) (da_cons (de_tup (da_cons (de_item (de_var 3) de_int) (da_cons (de_var 14) (da_cons (de_var 15) da_nil)))) da_nil)))) dss_nil))) (dss_fix 9 (dss_fix 10 (dss_fix 11 (dss_one (ds_ret (de_tup (da_cons (de_var 9) (da_cons (de_var 10) (da_cons (de_var 11) da_nil))))))))))))))
theorem ok_best_told {f : Addr} {fd : FuncData} (F0 : L2.Fun K "best_told" "best_told" s_best_told f fd) {cL T : Nat} (hcL : fd.code = .ref cL) (TB : LamX.TabB base mg cL T) {f_need_partings : Addr} {fd_need_partings : FuncData} (G_need_partings : FnD P w K mg base 4 f_need_partings fd_need_partings ["face", "lefts", "rights"] F_need_partings) (A_need_partings : At K mg "need_partings" f_need_partings fd_need_partings ["face", "lefts", "rights"]) {f_best_block : Addr} {fd_best_block : FuncData} (G_best_block : FnD P w K mg base 4 f_best_block fd_best_block ["block"] F_best_block) (A_best_block : At K mg "best_block" f_best_block fd_best_block ["block"]) {f_block_of : Addr} {fd_block_of : FuncData} (G_block_of : FnD P w K mg base 2 f_block_of fd_block_of ["pairs", "left", "right"] F_block_of) (A_block_of : At K mg "block_of" f_block_of fd_block_of ["pairs", "left", "right"]) {f_told_ones : Addr} {fd_told_ones : FuncData} (G_told_ones : FnD P w K mg base 2 f_told_ones fd_told_ones ["pairs", "left", "right", "numbers", "found"] F_told_ones) (A_told_ones : At K mg "told_ones" f_told_ones fd_told_ones ["pairs", "left", "right", "numbers", "found"]) {f_place_of : Addr} {fd_place_of : FuncData} (G_place_of : FnD P w K mg base 1 f_place_of fd_place_of ["face", "thing"] F_place_of) (A_place_of : At K mg "place_of" f_place_of fd_place_of ["face", "thing"]) (m_enumerate : mg "enumerate" = none) (m_tuple : mg "tuple" = none) (m_sorted : mg "sorted" = none) : FnD P w K mg base 5 f fd ["face", "pairs", "lefts", "rights"] (F_best_told T) :=
  dfnT F0 hcL sc_best_told (fun _ _ _ _ _ o => (dss_cons (ds_expr (de_call o G_need_partings A_need_partings (by decide) (da_cons (de_var 0) (da_cons (de_var 2) (da_cons (de_var 3) da_nil))))) (dss_cons (ds_par4 (vs := [4, 5, 6, 7]) o.calm (da_cons (de_thw (dl_lst da_nil)) (da_cons (de_thw (dl_lst da_nil)) (da_cons (de_thw (dl_lst da_nil)) (da_cons (de_thw (dl_lst da_nil)) da_nil)))) (dgs_cons (dg_name 4 o.nd) (dgs_cons (dg_name 5 o.nd) (dgs_cons (dg_name 6 o.nd) (dgs_cons (dg_name 7 o.nd) dgs_nil))))) (dss_cons (ds_for (vs := [8, 9]) o (di_enum m_enumerate (de_var 2)) (dg_tup o.calm (dgs_cons (dg_name 8 o.nd) (dgs_cons (dg_name 9 o.nd) dgs_nil))) (dss_cons (ds_set 10 o.nd (de_thw (dl_lst da_nil))) (dss_cons (ds_for (vs := [11, 12]) o (di_enum m_enumerate (de_var 3)) (dg_tup o.calm (dgs_cons (dg_name 11 o.nd) (dgs_cons (dg_name 12 o.nd) dgs_nil))) (dss_cons (ds_set 13 o.nd (de_call o G_best_block A_best_block (by decide) (da_cons (de_call o G_block_of A_block_of (by decide) (da_cons (de_var 1) (da_cons (de_var 9) (da_cons (de_var 12) da_nil)))) da_nil))) (dss_cons (ds_set 14 o.nd (de_call o G_told_ones A_told_ones (by decide) (da_cons (de_var 1) (da_cons (de_var 9) (da_cons (de_var 12) (da_cons (de_tup (da_cons (de_var 8) (da_cons (de_var 11) da_nil))) (da_cons (de_var 13) da_nil))))))) (dss_cons (ds_expr (de_methL PySem.F.slot_list_append PySem.F.type_list_append dm_append (de_var 10) (da_cons (de_item (de_var 13) de_int) da_nil))) (dss_cons (ds_expr (de_methL PySem.F.slot_list_extend PySem.F.type_list_extend dm_extend (de_var 5) (da_cons (de_item (de_var 14) de_int) da_nil))) (dss_cons (ds_expr (de_methL PySem.F.slot_list_extend PySem.F.type_list_extend dm_extend (de_var 6) (da_cons (de_item (de_var 14) de_int) da_nil))) (dss_one (ds_expr (de_methL PySem.F.slot_list_extend PySem.F.type_list_extend dm_extend (de_var 7) (da_cons (de_item (de_var 14) de_int) da_nil)))))))))) (dss_one (ds_expr (de_methL PySem.F.slot_list_append PySem.F.type_list_append dm_append (de_var 4) (da_cons (de_callTy dc_tuple m_tuple PyProof.Rows.boot_tuple (da_cons (de_var 10) da_nil)) da_nil))))))) (dss_cons (ds_set 5 o.nd (de_thw (dl_sortKey (x := "one") o (de_var 5) rfl TB rfl rfl (show (lamN ["face", "pairs", "lefts", "rights", "gaps", "singles", "rows", "downs", "first", "left", "line", "second", "right", "found", "more"] "one").Nodup by decide +kernel) (fun _ _ _ _ _ _ _ o => (de_tup (da_cons (de_call o G_place_of A_place_of (by decide) (da_cons (de_var 0) (da_cons (de_item (de_var 15) de_int) da_nil))) (da_cons (de_call o G_place_of A_place_of (by decide) (da_cons (de_var 0) (da_cons (de_item (de_var 15) de_int) da_nil))) da_nil)))) m_sorted))) (dss_cons (ds_set 6 o.nd (de_thw (dl_sortKey (x := "one") o (de_var 6) rfl TB rfl rfl (show (lamN ["face", "pairs", "lefts", "rights", "gaps", "singles", "rows", "downs", "first", "left", "line", "second", "right", "found", "more"] "one").Nodup by decide +kernel) (fun _ _ _ _ _ _ _ o => (de_tup (da_cons (de_call o G_place_of A_place_of (by decide) (da_cons (de_var 0) (da_cons (de_item (de_var 15) de_int) da_nil))) (da_cons (de_item (de_var 15) de_int) da_nil)))) m_sorted))) (dss_cons (ds_set 7 o.nd (de_thw (dl_sortKey (x := "one") o (de_var 7) rfl TB rfl rfl (show (lamN ["face", "pairs", "lefts", "rights", "gaps", "singles", "rows", "downs", "first", "left", "line", "second", "right", "found", "more"] "one").Nodup by decide +kernel) (fun _ _ _ _ _ _ _ o => (de_tup (da_cons (de_item (de_var 15) de_int) (da_cons (de_call o G_place_of A_place_of (by decide) (da_cons (de_var 0) (da_cons (de_item (de_var 15) de_int) da_nil))) da_nil)))) m_sorted))) (dss_fix 5 (dss_fix 6 (dss_fix 7 (dss_one (ds_ret (de_tup (da_cons (de_var 2) (da_cons (de_var 3) (da_cons (de_callTy dc_tuple m_tuple PyProof.Rows.boot_tuple (da_cons (de_var 4) da_nil)) (da_cons (de_callTy dc_tuple m_tuple PyProof.Rows.boot_tuple (da_cons (de_bin do_add (de_bin do_add (de_var 5) (de_var 6)) (de_var 7)) da_nil)) da_nil)))))))))))))))))
theorem ok_law_box {f : Addr} {fd : FuncData} (F0 : L2.Fun K "_law_box" "_law_box" s_law_box f fd) (m_len : mg "len" = none) (m_abs : mg "abs" = none) : FnD P w K mg base 1 f fd ["_law_script", "_law_k"] F_law_box :=
  dfn F0 sc_law_box (fun _ _ _ _ _ _ o => (dss_cons (ds_set 2 o.nd (de_bin do_add (de_bin do_mul de_int (de_var 1)) de_int)) (dss_cons (ds_if (dt_cmp (do_ltX o) (de_var 1) (de_callB dc_len m_len boot_len (da_cons (de_var 0) da_nil))) (dss_one (ds_set 2 o.nd (de_item (de_var 0) (de_var 1)))) dss_nil) (dss_cons (ds_if (dt_cmp (do_eq o) (de_bin do_mod (de_var 2) de_int) de_int) (dss_one (ds_ret (de_thw (dl_lst (da_cons (de_bin do_fdiv (de_callB dc_abs m_abs PyProof.Rows.boot_abs (da_cons (de_var 2) da_nil)) de_int) (da_cons (de_bin do_add (de_bin do_add (de_bin do_mod (de_var 2) de_int) (de_bin do_mul de_int (de_var 1))) de_int) da_nil)))))) dss_nil) (dss_one (ds_ret (de_thw (dl_lst (da_cons de_int (da_cons (de_bin do_add (de_bin do_add (de_bin do_mod (de_var 2) de_int) (de_bin do_mul de_int (de_var 1))) de_int) da_nil))))))))))
theorem ok_law_take {f : Addr} {fd : FuncData} (F0 : L2.Fun K "_law_take" "_law_take" s_law_take f fd) (m_divmod : mg "divmod" = none) : FnD P w K mg base 1 f fd ["_law_box_here", "_law_many"] F_law_take :=
  dfn F0 sc_law_take (fun _ _ _ _ _ _ o => (dss_cons (ds_if (dt_cmp do_gt (de_item (de_var 0) de_int) de_int) (dss_cons (ds_asg (vs := [2]) (de_callB dc_divmod m_divmod PyProof.Rows.boot_divmod (da_cons (de_item (de_var 0) de_int) (da_cons (de_var 1) da_nil))) (dg_tup o.calm (dgs_cons (dg_ix (de_var 0) de_int) (dgs_cons (dg_name 2 o.nd) dgs_nil)))) (dss_one (ds_ret (de_var 2)))) dss_nil) (dss_cons (ds_asg (vs := []) (de_bin do_mod (de_bin do_add (de_bin do_mul (de_item (de_var 0) de_int) de_int) de_int) de_int) (dg_ix (de_var 0) de_int)) (dss_cons (ds_set 3 o.nd (de_bin do_add (de_bin do_fdiv (de_item (de_var 0) de_int) de_int) de_int)) (dss_one (ds_ret (de_bin do_mod (de_bin do_fdiv (de_bin do_mod (de_bin do_mul (de_bin do_mul (de_var 3) (de_var 3)) (de_var 3)) de_int) de_int) (de_var 1))))))))
theorem ok_law_face {f : Addr} {fd : FuncData} (F0 : L2.Fun K "_law_face" "_law_face" s_law_face f fd) {f_law_take : Addr} {fd_law_take : FuncData} (G_law_take : FnD P w K mg base 1 f_law_take fd_law_take ["_law_box_here", "_law_many"] F_law_take) (A_law_take : At K mg "_law_take" f_law_take fd_law_take ["_law_box_here", "_law_many"]) (m_list : mg "list" = none) (m_range : mg "range" = none) (m_len : mg "len" = none) (m_tuple : mg "tuple" = none) : FnD P w K mg base 2 f fd ["_law_box_here", "_law_least", "_law_most"] F_law_face :=
  dfn F0 sc_law_face (fun _ _ _ _ _ _ o => (dss_cons (ds_set 3 o.nd (de_thw (dl_callTy (dcl_list o) m_list PyProof.Rows.boot_list (da_cons de_str da_nil)))) (dss_cons (ds_set 4 o.nd (de_bin do_add (de_var 1) (de_call o G_law_take A_law_take (by decide) (da_cons (de_var 0) (da_cons (de_bin do_add (de_bin do_sub (de_var 2) (de_var 1)) de_int) da_nil))))) (dss_cons (ds_setLcF 5 [("_law_turn", 6)] o (di_rng1 m_range (de_var 4)) (fun _ _ _ _ _ o => (dg_name 6 o.nd)) (fun _ _ _ _ _ o => dts_nil) (fun _ _ _ _ _ o => (de_tup (da_cons (de_methL PySem.F.slot_list_pop PySem.F.type_list_pop dm_pop (de_var 3) (da_cons (de_call o G_law_take A_law_take (by decide) (da_cons (de_var 0) (da_cons (de_callB dc_len m_len boot_len (da_cons (de_var 3) da_nil)) da_nil))) da_nil)) (da_cons (de_bin do_add de_int (de_call o G_law_take A_law_take (by decide) (da_cons (de_var 0) (da_cons de_int da_nil)))) da_nil))))) (dss_one (ds_ret (de_tup (da_cons (de_bin do_add de_int (de_call o G_law_take A_law_take (by decide) (da_cons (de_var 0) (da_cons de_int da_nil)))) (da_cons (de_callTy dc_tuple m_tuple PyProof.Rows.boot_tuple (da_cons (de_var 5) da_nil)) da_nil)))))))))
theorem ok_law_letters {f : Addr} {fd : FuncData} (F0 : L2.Fun K "_law_letters" "_law_letters" s_law_letters f fd) : FnD P w K mg base 1 f fd ["_law_face_here"] F_law_letters :=
  dfn F0 sc_law_letters (fun _ _ _ _ _ _ o => (dss_one (ds_ret (de_frz (dl_lc [("_law_one", 1)] o (di_seq (de_item (de_var 0) de_int)) (fun _ _ _ _ _ o => (dg_name 1 o.nd)) (fun _ _ _ _ _ o => dts_nil) (fun _ _ _ _ _ o => (de_item (de_var 1) de_int)))))))
theorem ok_law_list {f : Addr} {fd : FuncData} (F0 : L2.Fun K "_law_list" "_law_list" s_law_list f fd) {f_law_letters : Addr} {fd_law_letters : FuncData} (G_law_letters : FnD P w K mg base 1 f_law_letters fd_law_letters ["_law_face_here"] F_law_letters) (A_law_letters : At K mg "_law_letters" f_law_letters fd_law_letters ["_law_face_here"]) (m_zip : mg "zip" = none) (m_tuple : mg "tuple" = none) : FnD P w K mg base 2 f fd ["_law_face_here", "_law_rows"] F_law_list :=
  dfn F0 sc_law_list (fun _ _ _ _ _ _ o => (dss_cons (ds_set 2 o.nd (de_call o G_law_letters A_law_letters (by decide) (da_cons (de_var 0) da_nil))) (dss_cons (ds_set 3 o.nd (de_thw (dl_lst da_nil))) (dss_cons (ds_for (vs := [4, 5]) o (di_zip m_zip o.calm (de_var 2) (de_var 1)) (dg_tup o.calm (dgs_cons (dg_name 4 o.nd) (dgs_cons (dg_name 5 o.nd) dgs_nil))) (dss_one (ds_for (vs := [6, 7]) o (di_zip m_zip o.calm (de_var 2) (de_var 5)) (dg_tup o.calm (dgs_cons (dg_name 6 o.nd) (dgs_cons (dg_name 7 o.nd) dgs_nil))) (dss_one (ds_if (dt_cmp (do_ne o) (de_var 7) de_int) (dss_one (ds_expr (de_methL PySem.F.slot_list_append PySem.F.type_list_append dm_append (de_var 3) (da_cons (de_tup (da_cons (de_var 4) (da_cons (de_var 6) (da_cons (de_var 7) da_nil)))) da_nil)))) dss_nil))))) (dss_one (ds_ret (de_callTy dc_tuple m_tuple PyProof.Rows.boot_tuple (da_cons (de_var 3) da_nil))))))))
theorem ok_law_odd {f : Addr} {fd : FuncData} (F0 : L2.Fun K "_law_odd" "_law_odd" s_law_odd f fd) {f_law_letters : Addr} {fd_law_letters : FuncData} (G_law_letters : FnD P w K mg base 1 f_law_letters fd_law_letters ["_law_face_here"] F_law_letters) (A_law_letters : At K mg "_law_letters" f_law_letters fd_law_letters ["_law_face_here"]) {f_law_take : Addr} {fd_law_take : FuncData} (G_law_take : FnD P w K mg base 1 f_law_take fd_law_take ["_law_box_here", "_law_many"] F_law_take) (A_law_take : At K mg "_law_take" f_law_take fd_law_take ["_law_box_here", "_law_many"]) (m_len : mg "len" = none) : FnD P w K mg base 2 f fd ["_law_box_here", "_law_face_here"] F_law_odd_v1 :=
  dfn F0 sc_law_odd (fun _ _ _ _ _ _ o => (dss_cons (ds_set 2 o.nd (de_call o G_law_letters A_law_letters (by decide) (da_cons (de_var 1) da_nil))) (dss_cons (ds_set 3 o.nd (de_item (de_var 2) (de_call o G_law_take A_law_take (by decide) (da_cons (de_var 0) (da_cons (de_callB dc_len m_len boot_len (da_cons (de_var 2) da_nil)) da_nil))))) (dss_cons (ds_set 4 o.nd (de_item de_str (de_call o G_law_take A_law_take (by decide) (da_cons (de_var 0) (da_cons de_int da_nil))))) (dss_cons (ds_set 5 o.nd (de_thw (dl_lst (da_cons de_non (da_cons de_bl (da_cons de_bl (da_cons de_int (da_cons de_int (da_cons de_int (da_cons de_int (da_cons de_int (da_cons de_int (da_cons de_int (da_cons de_int (da_cons (de_un du_neg de_int) (da_cons (de_un du_neg de_int) (da_cons (de_un du_neg de_int) (da_cons (de_bin do_pow de_int de_int) (da_cons (de_bin do_sub de_int (de_bin do_pow de_int de_int)) (da_cons (de_var 3) (da_cons (de_var 4) da_nil))))))))))))))))))))) (dss_cons (ds_set 5 o.nd (de_thw (dl_cat (de_var 5) (de_frz (dl_lst (da_cons de_str (da_cons de_str (da_cons de_str (da_cons (de_bin do_add (de_var 3) (de_var 4)) (da_cons (de_bin do_add (de_var 4) de_str) (da_cons de_str (da_cons de_str (da_cons de_str (da_cons (de_tup da_nil) (da_cons (de_frz (dl_lst da_nil)) (da_cons de_dict0 (da_cons (de_tup (da_cons (de_var 3) da_nil)) (da_cons (de_frz (dl_lst (da_cons (de_var 3) da_nil))) da_nil)))))))))))))))))) (dss_cons (ds_set 5 o.nd (de_thw (dl_cat (de_var 5) (de_frz (dl_lst (da_cons (de_tup (da_cons (de_var 3) (da_cons de_int da_nil))) (da_cons (de_frz (dl_lst (da_cons (de_var 3) (da_cons de_int da_nil)))) (da_cons (de_tup (da_cons (de_var 4) (da_cons de_int da_nil))) (da_cons (de_tup (da_cons (de_var 3) (da_cons (de_var 4) (da_cons de_int da_nil)))) (da_cons (de_tup (da_cons (de_var 3) (da_cons (de_var 3) (da_cons de_int da_nil)))) (da_cons (de_dict1 3) da_nil))))))))))) (dss_cons (ds_set 5 o.nd (de_thw (dl_cat (de_var 5) (de_frz (dl_lst (da_cons (de_tup (da_cons de_non da_nil)) (da_cons (de_tup (da_cons (de_tup da_nil) da_nil)) (da_cons (de_tup (da_cons de_bl (da_cons de_bl da_nil))) (da_cons (de_tup (da_cons (de_tup (da_cons (de_var 3) da_nil)) (da_cons (de_tup (da_cons (de_var 4) da_nil)) da_nil))) (da_cons (de_frz (dl_lst (da_cons (de_frz (dl_lst da_nil)) da_nil))) (da_cons (de_tup (da_cons de_str da_nil)) (da_cons (de_tup (da_cons de_int (da_cons de_int da_nil))) (da_cons (de_bin do_mulS (de_var 3) de_int) da_nil))))))))))))) (dss_cons (ds_expr (de_methL PySem.F.slot_list_append PySem.F.type_list_append dm_append (de_var 5) (da_cons (de_tup (da_cons (de_var 3) (da_cons de_int (da_cons de_int da_nil)))) da_nil))) (dss_one (ds_ret (de_item (de_var 5) (de_call o G_law_take A_law_take (by decide) (da_cons (de_var 0) (da_cons (de_callB dc_len m_len boot_len (da_cons (de_var 5) da_nil)) da_nil)))))))))))))))
theorem ok_law_spoil (m_ : Nat) {f : Addr} {fd : FuncData} (F0 : L2.Fun K "_law_spoil" "_law_spoil" s_law_spoil f fd) {f_law_take : Addr} {fd_law_take : FuncData} (G_law_take : FnD P w K mg base 1 f_law_take fd_law_take ["_law_box_here", "_law_many"] F_law_take) (A_law_take : At K mg "_law_take" f_law_take fd_law_take ["_law_box_here", "_law_many"]) (m_isinstance : mg "isinstance" = none) (m_tuple : mg "tuple" = none) (m_len : mg "len" = none) (m_list : mg "list" = none) (m_int : mg "int" = none) (m_str : mg "str" = none) (A_law_spoil : At K mg "_law_spoil" f fd ["_law_box_here", "_law_thing", "_law_odd_here"]) : FnD P w K mg base (1 + m_) f fd ["_law_box_here", "_law_thing", "_law_odd_here"] (F_law_spoil m_) := by
  induction m_ with
  | zero => exact ⟨fun A outer s H args us vs Q E hr hg e0 hb r hsp => by obtain ⟨_, _, _, _, _, _, h⟩ := hsp; exact h.elim⟩
  | succ m_ G_rec => exact dfn F0 sc_law_spoil (fun _ _ _ _ _ _ o => (dss_cons (ds_if (dt_w (dw_and (dt_val (de_isi (T := "tuple") m_isinstance m_tuple (de_var 1))) (dw_and (dt_cmp (do_ne o) (de_var 1) (de_tup da_nil)) (dw_and1 (dt_cmp do_gt (de_call o G_law_take A_law_take (le_lev (by decide)) (da_cons (de_var 0) (da_cons de_int da_nil))) de_int))))) (dss_cons (ds_set 3 o.nd (de_call o G_law_take A_law_take (le_lev (by decide)) (da_cons (de_var 0) (da_cons (de_callB dc_len m_len boot_len (da_cons (de_var 1) da_nil)) da_nil)))) (dss_one (ds_ret (de_bin do_add (de_bin do_add (de_slice (de_var 1) dp_none (dp_some (de_var 3))) (de_tup (da_cons (de_call o G_rec A_law_spoil (Nat.le_refl _) (da_cons (de_var 0) (da_cons (de_item (de_var 1) (de_var 3)) (da_cons (de_var 2) da_nil)))) da_nil))) (de_slice (de_var 1) (dp_some (de_bin do_add (de_var 3) de_int)) dp_none))))) dss_nil) (dss_cons (ds_set 4 o.nd (de_call o G_law_take A_law_take (le_lev (by decide)) (da_cons (de_var 0) (da_cons de_int da_nil)))) (dss_cons (ds_if (dt_val (de_isi (T := "tuple") m_isinstance m_tuple (de_var 1))) (dss_cons (ds_set 3 o.nd (de_call o G_law_take A_law_take (le_lev (by decide)) (da_cons (de_var 0) (da_cons (de_bin do_add (de_callB dc_len m_len boot_len (da_cons (de_var 1) da_nil)) de_int) da_nil)))) (dss_cons (ds_set 5 o.nd (de_frz (dl_lst (da_cons (de_bin do_add (de_slice (de_var 1) dp_none (dp_some (de_var 3))) (de_slice (de_var 1) (dp_some (de_bin do_add (de_var 3) de_int)) dp_none)) (da_cons (de_bin do_add (de_bin do_add (de_slice (de_var 1) dp_none (dp_some (de_var 3))) (de_slice (de_var 1) (dp_some (de_var 3)) (dp_some (de_bin do_add (de_var 3) de_int)))) (de_slice (de_var 1) (dp_some (de_var 3)) dp_none)) (da_cons (de_revTp (de_var 1)) (da_cons (de_frz (dl_callTy (dcl_list o) m_list PyProof.Rows.boot_list (da_cons (de_var 1) da_nil))) da_nil))))))) (dss_one (ds_ret (de_item (de_bin do_add (de_var 5) (de_frz (dl_lst (da_cons (de_bin do_add (de_var 1) (de_tup (da_cons (de_var 2) da_nil))) (da_cons (de_var 2) (da_cons (de_bin do_add (de_slice (de_var 1) (dp_some (de_var 3)) dp_none) (de_slice (de_var 1) dp_none (dp_some (de_var 3)))) da_nil)))))) (de_var 4)))))) dss_nil) (dss_cons (ds_if (dt_val (de_isi (T := "int") m_isinstance m_int (de_var 1))) (dss_one (ds_ret (de_item (de_frz (dl_lst (da_cons (de_bin do_add (de_var 1) de_int) (da_cons (de_bin do_sub (de_var 1) de_int) (da_cons (de_bin do_sub de_int (de_var 1)) (da_cons (de_callTy dc_str m_str PyProof.Rows.boot_str (da_cons (de_var 1) da_nil)) (da_cons (de_var 2) (da_cons (de_bin do_add (de_var 1) de_int) (da_cons (de_var 2) da_nil))))))))) (de_var 4)))) dss_nil) (dss_one (ds_ret (de_var 2))))))))
theorem ok_law_grouped {f : Addr} {fd : FuncData} (F0 : L2.Fun K "_law_grouped" "_law_grouped" s_law_grouped f fd) (m_enumerate : mg "enumerate" = none) (m_zip : mg "zip" = none) (m_tuple : mg "tuple" = none) : FnD P w K mg base 1 f fd ["_law_letters_here", "_law_marks"] F_law_grouped :=
  dfn F0 sc_law_grouped (fun _ _ _ _ _ _ o => (dss_cons (ds_set 2 o.nd (de_thw (dl_lst da_nil))) (dss_cons (ds_for (vs := [3, 4]) o (di_enum m_enumerate (de_var 1)) (dg_tup o.calm (dgs_cons (dg_name 3 o.nd) (dgs_cons (dg_name 4 o.nd) dgs_nil))) (dss_one (ds_if (dt_cmp (do_eq o) (de_methL PySem.F.slot_list_index PySem.F.type_list_index (dm_index o) (de_var 1) (da_cons (de_var 4) da_nil)) (de_var 3)) (dss_one (ds_expr (de_methL PySem.F.slot_list_append PySem.F.type_list_append dm_append (de_var 2) (da_cons (de_callTy dc_tuple m_tuple PyProof.Rows.boot_tuple (da_cons (de_frz (dl_lc [("_law_letter", 5), ("_law_own", 6)] o (di_zip m_zip o.calm (de_var 0) (de_var 1)) (fun _ _ _ _ _ o => (dg_tup o.calm (dgs_cons (dg_name 5 o.nd) (dgs_cons (dg_name 6 o.nd) dgs_nil)))) (fun _ _ _ _ _ o => (dts_one (dt_cmp (do_eq o) (de_var 6) (de_var 4)))) (fun _ _ _ _ _ o => (de_var 5)))) da_nil)) da_nil)))) dss_nil))) (dss_one (ds_ret (de_callTy dc_tuple m_tuple PyProof.Rows.boot_tuple (da_cons (de_var 2) da_nil)))))))
theorem ok_law_parting {f : Addr} {fd : FuncData} (F0 : L2.Fun K "_law_parting" "_law_parting" s_law_parting f fd) {f_law_letters : Addr} {fd_law_letters : FuncData} (G_law_letters : FnD P w K mg base 1 f_law_letters fd_law_letters ["_law_face_here"] F_law_letters) (A_law_letters : At K mg "_law_letters" f_law_letters fd_law_letters ["_law_face_here"]) {f_law_grouped : Addr} {fd_law_grouped : FuncData} (G_law_grouped : FnD P w K mg base 1 f_law_grouped fd_law_grouped ["_law_letters_here", "_law_marks"] F_law_grouped) (A_law_grouped : At K mg "_law_grouped" f_law_grouped fd_law_grouped ["_law_letters_here", "_law_marks"]) {f_law_take : Addr} {fd_law_take : FuncData} (G_law_take : FnD P w K mg base 1 f_law_take fd_law_take ["_law_box_here", "_law_many"] F_law_take) (A_law_take : At K mg "_law_take" f_law_take fd_law_take ["_law_box_here", "_law_many"]) : FnD P w K mg base 2 f fd ["_law_box_here", "_law_face_here", "_law_most"] F_law_parting :=
  dfn F0 sc_law_parting (fun _ _ _ _ _ _ o => (dss_cons (ds_set 3 o.nd (de_call o G_law_letters A_law_letters (by decide) (da_cons (de_var 1) da_nil))) (dss_one (ds_ret (de_call o G_law_grouped A_law_grouped (by decide) (da_cons (de_var 3) (da_cons (de_frz (dl_lc [("_law_letter", 4)] o (di_seq (de_var 3)) (fun _ _ _ _ _ o => (dg_name 4 o.nd)) (fun _ _ _ _ _ o => dts_nil) (fun _ _ _ _ _ o => (de_call o G_law_take A_law_take (by decide) (da_cons (de_var 0) (da_cons (de_var 2) da_nil)))))) da_nil)))))))
theorem ok_law_is_parting {f : Addr} {fd : FuncData} (F0 : L2.Fun K "_law_is_parting" "_law_is_parting" s_law_is_parting f fd) {f_law_letters : Addr} {fd_law_letters : FuncData} (G_law_letters : FnD P w K mg base 1 f_law_letters fd_law_letters ["_law_face_here"] F_law_letters) (A_law_letters : At K mg "_law_letters" f_law_letters fd_law_letters ["_law_face_here"]) (m_isinstance : mg "isinstance" = none) (m_tuple : mg "tuple" = none) (m_sorted : mg "sorted" = none) (m_list : mg "list" = none) (m_range : mg "range" = none) (m_len : mg "len" = none) : FnD P w K mg base 2 f fd ["_law_face_here", "_law_thing"] F_law_is_parting :=
  dfn F0 sc_law_is_parting (fun _ _ _ _ _ _ o => (dss_cons (ds_set 2 o.nd (de_call o G_law_letters A_law_letters (by decide) (da_cons (de_var 0) da_nil))) (dss_cons (ds_if (dt_not (dt_val (de_isi (T := "tuple") m_isinstance m_tuple (de_var 1)))) (dss_one (ds_ret de_bl)) dss_nil) (dss_cons (ds_par o.calm o.nd (da_cons (de_frz (dl_lst da_nil)) (da_cons (de_frz (dl_lst da_nil)) da_nil))) (dss_cons (ds_for (vs := [5]) o (di_seq (de_var 1)) (dg_name 5 o.nd) (dss_cons (ds_if (dt_w (dw_or (dt_not (dt_val (de_isi (T := "tuple") m_isinstance m_tuple (de_var 5)))) (dw_or (dt_cmp (do_eq o) (de_var 5) (de_tup da_nil)) (dw_or1 (dt_cmp (do_ne o) (de_frz (dl_lc [("_law_letter", 7)] o (di_seq (de_var 5)) (fun _ _ _ _ _ o => (dg_name 7 o.nd)) (fun _ _ _ _ _ o => (dts_one (dt_cmp (do_notin o) (de_var 7) (de_var 2)))) (fun _ _ _ _ _ o => (de_var 7)))) (de_frz (dl_lst da_nil))))))) (dss_one (ds_ret de_bl)) dss_nil) (dss_cons (ds_setLcF 6 [("_law_letter", 7)] o (di_seq (de_var 5)) (fun _ _ _ _ _ o => (dg_name 7 o.nd)) (fun _ _ _ _ _ o => dts_nil) (fun _ _ _ _ _ o => (de_methL PySem.F.slot_list_index PySem.F.type_list_index (dm_index o) (de_var 2) (da_cons (de_var 7) da_nil)))) (dss_cons (ds_if (dt_cmp (do_ne o) (de_var 6) (de_frz (dl_callB (dcl_sorted o) m_sorted rfl (da_cons (de_var 6) da_nil)))) (dss_one (ds_ret de_bl)) dss_nil) (dss_one (ds_par o.calm o.nd (da_cons (de_bin do_add (de_var 3) (de_var 6)) (da_cons (de_bin do_add (de_var 4) (de_frz (dl_slice (de_var 6) dp_none (dp_some de_int)))) da_nil)))))))) (dss_one (ds_ret (de_and (de_cmp (do_eq o) (de_frz (dl_callB (dcl_sorted o) m_sorted rfl (da_cons (de_var 3) da_nil))) (de_frz (dl_lrg1 o.calm m_list m_range (de_callB dc_len m_len boot_len (da_cons (de_var 2) da_nil))))) (de_one (de_cmp (do_eq o) (de_var 4) (de_frz (dl_callB (dcl_sorted o) m_sorted rfl (da_cons (de_var 4) da_nil)))))))))))))
theorem ok_law {f : Addr} {fd : FuncData} (F0 : L2.Fun K "law" "law" s_law f fd) {T U : Nat} {f_law_box : Addr} {fd_law_box : FuncData} (G_law_box : FnD P w K mg base 1 f_law_box fd_law_box ["_law_script", "_law_k"] F_law_box) (A_law_box : At K mg "_law_box" f_law_box fd_law_box ["_law_script", "_law_k"]) {f_law_face : Addr} {fd_law_face : FuncData} (G_law_face : FnD P w K mg base 2 f_law_face fd_law_face ["_law_box_here", "_law_least", "_law_most"] F_law_face) (A_law_face : At K mg "_law_face" f_law_face fd_law_face ["_law_box_here", "_law_least", "_law_most"]) {f_law_take : Addr} {fd_law_take : FuncData} (G_law_take : FnD P w K mg base 1 f_law_take fd_law_take ["_law_box_here", "_law_many"] F_law_take) (A_law_take : At K mg "_law_take" f_law_take fd_law_take ["_law_box_here", "_law_many"]) {f_law_letters : Addr} {fd_law_letters : FuncData} (G_law_letters : FnD P w K mg base 1 f_law_letters fd_law_letters ["_law_face_here"] F_law_letters) (A_law_letters : At K mg "_law_letters" f_law_letters fd_law_letters ["_law_face_here"]) {f_law_list : Addr} {fd_law_list : FuncData} (G_law_list : FnD P w K mg base 2 f_law_list fd_law_list ["_law_face_here", "_law_rows"] F_law_list) (A_law_list : At K mg "_law_list" f_law_list fd_law_list ["_law_face_here", "_law_rows"]) {f_law_parting : Addr} {fd_law_parting : FuncData} (G_law_parting : FnD P w K mg base 2 f_law_parting fd_law_parting ["_law_box_here", "_law_face_here", "_law_most"] F_law_parting) (A_law_parting : At K mg "_law_parting" f_law_parting fd_law_parting ["_law_box_here", "_law_face_here", "_law_most"]) {f_law_odd : Addr} {fd_law_odd : FuncData} (G_law_odd : FnD P w K mg base 2 f_law_odd fd_law_odd ["_law_box_here", "_law_face_here"] F_law_odd_v1) (A_law_odd : At K mg "_law_odd" f_law_odd fd_law_odd ["_law_box_here", "_law_face_here"]) {f_law_spoil : Addr} {fd_law_spoil : FuncData} (G_law_spoil : FnD P w K mg base 7 f_law_spoil fd_law_spoil ["_law_box_here", "_law_thing", "_law_odd_here"] (F_law_spoil 6)) (A_law_spoil : At K mg "_law_spoil" f_law_spoil fd_law_spoil ["_law_box_here", "_law_thing", "_law_odd_here"]) {f_law_is_parting : Addr} {fd_law_is_parting : FuncData} (G_law_is_parting : FnD P w K mg base 2 f_law_is_parting fd_law_is_parting ["_law_face_here", "_law_thing"] F_law_is_parting) (A_law_is_parting : At K mg "_law_is_parting" f_law_is_parting fd_law_is_parting ["_law_face_here", "_law_thing"]) {f_fewest_told : Addr} {fd_fewest_told : FuncData} (G_fewest_told : FnD P w K mg base 5 f_fewest_told fd_fewest_told ["face", "pairs", "lefts", "rights"] F_fewest_told) (A_fewest_told : At K mg "fewest_told" f_fewest_told fd_fewest_told ["face", "pairs", "lefts", "rights"]) {f_best_told : Addr} {fd_best_told : FuncData} (G_best_told : FnD P w K mg base 5 f_best_told fd_best_told ["face", "pairs", "lefts", "rights"] (F_best_told U)) (A_best_told : At K mg "best_told" f_best_told fd_best_told ["face", "pairs", "lefts", "rights"]) (m_range : mg "range" = none) (m_len : mg "len" = none) (m_min : mg "min" = none) (m_max : mg "max" = none) (m_int : mg "int" = none) (m_tuple : mg "tuple" = none) (m_repr : mg "repr" = none) {cL : Nat} (hcL : fd.code = .ref cL) (TB : LamX.TabB base mg cL T) {f_said : Addr} {fd_said : FuncData} (F_said : L2.Fun K "_law_said" "_law_said" s_law_said f_said fd_said) (A_said : At K mg "_law_said" f_said fd_said ["_law_call"]) {f_word : Addr} {fd_word : FuncData} (A_word : At K mg "_law_word" f_word fd_word ["_law_e"]) (hW : ∀ c t, words_.lookup c = some t → WordD P w K mg base 1 f_word c t) {aG : Addr} (mG : mg "GapError" = some (.ref aG)) (hG : ∀ c t, words_.lookup c = some t → PySem.W.exmOne K (clsV mg c) (.ref aG) = some true) : FnD P w K mg base 8 f fd ["_law_script"] (F_law f_fewest_told f_best_told T U) :=
  dfnT F0 hcL sc_law (fun _ _ _ _ _ o => (dss_cons (ds_for (vs := [1]) o (di_rng1 m_range (de_callB (dc_max2 o) m_max PyProof.Rows.boot_max (da_cons de_int (da_cons (de_callB (dc_min2 o) m_min PyProof.Rows.boot_min (da_cons (de_callB dc_len m_len boot_len (da_cons (de_var 0) da_nil)) (da_cons de_int da_nil))) da_nil)))) (dg_name 1 o.nd) (dss_cons (ds_set 2 o.nd (de_call o G_law_box A_law_box (by decide) (da_cons (de_var 0) (da_cons (de_var 1) da_nil)))) (dss_cons (ds_set 3 o.nd (de_call o G_law_face A_law_face (by decide) (da_cons (de_var 2) (da_cons (de_item (de_frz (dl_lst (da_cons de_int (da_cons de_int (da_cons de_int da_nil))))) (de_call o G_law_take A_law_take (by decide) (da_cons (de_var 2) (da_cons de_int da_nil)))) (da_cons de_int da_nil))))) (dss_cons (ds_set 4 o.nd (de_call o G_law_letters A_law_letters (by decide) (da_cons (de_var 3) da_nil))) (dss_cons (ds_set 5 o.nd (de_slice (de_call o G_law_list A_law_list (by decide) (da_cons (de_var 3) (da_cons (de_frz (dl_lc [("_law_left", 13)] o (di_seq (de_var 4)) (fun _ _ _ _ _ o => (dg_name 13 o.nd)) (fun _ _ _ _ _ o => dts_nil) (fun _ _ _ _ _ o => (de_frz (dl_lc [("_law_right", 14)] o (di_seq (de_var 4)) (fun _ _ _ _ _ o => (dg_name 14 o.nd)) (fun _ _ _ _ _ o => dts_nil) (fun _ _ _ _ _ o => (de_callTy dc_int m_int rfl (da_cons (de_cmp (do_ne o) (de_var 13) (de_var 14)) da_nil)))))))) da_nil))) dp_none (dp_some de_int))) (dss_cons (ds_set 6 o.nd (de_bin do_add de_int (de_call o G_law_take A_law_take (by decide) (da_cons (de_var 2) (da_cons de_int da_nil))))) (dss_cons (ds_set 7 o.nd (de_callTy dc_tuple m_tuple PyProof.Rows.boot_tuple (da_cons (de_frz (dl_lc [("_law_one", 19)] o (di_seq (de_tup (da_cons (de_callTy dc_tuple m_tuple PyProof.Rows.boot_tuple (da_cons (de_sliceA (de_var 4) dp_none (dp_some (de_var 6))) da_nil)) (da_cons (de_callTy dc_tuple m_tuple PyProof.Rows.boot_tuple (da_cons (de_sliceA (de_var 4) (dp_some (de_var 6)) dp_none) da_nil)) da_nil)))) (fun _ _ _ _ _ o => (dg_name 19 o.nd)) (fun _ _ _ _ _ o => (dts_one (dt_cmp (do_ne o) (de_var 19) (de_tup da_nil)))) (fun _ _ _ _ _ o => (de_var 19)))) da_nil))) (dss_one (ds_for (vs := [8]) o (di_rng1 m_range de_int) (dg_name 8 o.nd) (dss_cons (ds_set 9 o.nd (de_thw (dl_lst da_nil))) (dss_cons (ds_for (vs := [10]) o (di_rng1 m_range de_int) (dg_name 10 o.nd) (dss_cons (ds_set 11 o.nd (de_item (de_frz (dl_lst (da_cons (de_var 7) (da_cons (de_call o G_law_parting A_law_parting (by decide) (da_cons (de_var 2) (da_cons (de_var 3) (da_cons de_int da_nil)))) da_nil)))) (de_call o G_law_take A_law_take (by decide) (da_cons (de_var 2) (da_cons de_int da_nil))))) (dss_cons (ds_set 12 o.nd (de_frz (dl_lst (da_cons (de_var 11) (da_cons (de_var 11) (da_cons (de_call o G_law_spoil A_law_spoil (by decide) (da_cons (de_var 2) (da_cons (de_var 11) (da_cons (de_call o G_law_odd A_law_odd (by decide) (da_cons (de_var 2) (da_cons (de_var 3) da_nil))) da_nil)))) (da_cons (de_call o G_law_odd A_law_odd (by decide) (da_cons (de_var 2) (da_cons (de_var 3) da_nil))) da_nil))))))) (dss_one (ds_expr (de_methL PySem.F.slot_list_append PySem.F.type_list_append dm_append (de_var 9) (da_cons (de_item (de_var 12) (de_call o G_law_take A_law_take (by decide) (da_cons (de_var 2) (da_cons de_int da_nil)))) da_nil))))))) (dss_fix 9 (dss_cons (ds_asg (vs := [13, 14]) (de_var 9) (dg_lst o.calm (dgs_cons (dg_name 13 o.nd) (dgs_cons (dg_name 14 o.nd) dgs_nil)))) (dss_cons (ds_par o.calm o.nd (da_cons de_str (da_cons (de_callB (dc_reprX o) m_repr PyProof.Rows.boot_repr (da_cons (de_var 9) da_nil)) da_nil))) (dss_cons (ds_if (dt_w (dw_or (dt_not (dt_val (de_call o G_law_is_parting A_law_is_parting (by decide) (da_cons (de_var 3) (da_cons (de_var 13) da_nil))))) (dw_or1 (dt_not (dt_val (de_call o G_law_is_parting A_law_is_parting (by decide) (da_cons (de_var 3) (da_cons (de_var 14) da_nil)))))))) (dss_one (ds_set 15 o.nd de_str)) (dss_one (ds_if (dt_cmp do_gt (de_callB (dc_max o) m_max PyProof.Rows.boot_max (da_cons (de_frz (dl_lc [("_law_one", 19)] o (di_seq (de_var 13)) (fun _ _ _ _ _ o => (dg_name 19 o.nd)) (fun _ _ _ _ _ o => dts_nil) (fun _ _ _ _ _ o => (de_callB dc_len m_len boot_len (da_cons (de_var 19) da_nil))))) da_nil)) de_int) (dss_one (ds_set 15 o.nd de_str)) dss_nil))) (dss_cons (ds_for (vs := [17]) o (di_fns (n := 4) o (.cons G_fewest_told A_fewest_told (by decide) rfl rfl (by decide) (.cons G_best_told A_best_told (by decide) rfl rfl (by decide) .nil))) (dg_name 17 o.nd) (dss_cons (ds_set 18 o.nd (de_said (W := words_) o F_said sc_law_said A_said rfl A_word hW (by decide) mG hG m_repr rfl TB rfl rfl (fun _ _ _ _ _ _ _ o => (de_callV (n := 4) o (.cons G_fewest_told A_fewest_told (by decide) rfl (.cons G_best_told A_best_told (by decide) rfl .nil)) (de_var 17) (da_cons (de_var 3) (da_cons (de_var 5) (da_cons (de_var 13) (da_cons (de_var 14) da_nil)))) rfl)))) (dss_one (ds_if (dt_w (dw_or (dt_w (dw_and (dt_cmp (do_ne o) (de_var 15) de_str) (dw_and1 (dt_cmp (do_ne o) (de_var 18) (de_var 15))))) (dw_or1 (dt_w (dw_and (dt_cmp (do_eq o) (de_var 15) de_str) (dw_and1 (dt_cmp (do_eq o) (de_slice (de_var 18) dp_none (dp_some de_int)) de_str))))))) (dss_one (ds_ret de_bl)) dss_nil)))) (dss_one (ds_if (dt_cmp (do_ne o) (de_callB (dc_reprX o) m_repr PyProof.Rows.boot_repr (da_cons (de_var 9) da_nil)) (de_var 16)) (dss_one (ds_ret de_bl)) dss_nil)))))))))))))))))) (dss_one (ds_ret de_bl))))
end
theorem all_mk {l : PySem.W.OpenLaw} {w : World} {K : PySem.W.Frag} {h : Heap} {mg : Str → Option Value} {fa : Addr} (X : K.In h) (G : h.Ns mainGlobals mg) (hfa : mg "law" = some (.ref fa))
    {f0 : Addr} {od0 an0 : Option Addr} {sl0 : Array (Option Value)} {oc0 kV0 dc0 pm0 cd0 ct0 : Value}
    {f1 : Addr} {od1 an1 : Option Addr} {sl1 : Array (Option Value)} {oc1 kV1 dc1 pm1 cd1 ct1 : Value}
    {f2 : Addr} {od2 an2 : Option Addr} {sl2 : Array (Option Value)} {oc2 kV2 dc2 pm2 cd2 ct2 : Value}
    {f3 : Addr} {od3 an3 : Option Addr} {sl3 : Array (Option Value)} {oc3 kV3 dc3 pm3 cd3 ct3 : Value}
    {f4 : Addr} {od4 an4 : Option Addr} {sl4 : Array (Option Value)} {oc4 kV4 dc4 pm4 cd4 ct4 : Value}
    {f5 : Addr} {od5 an5 : Option Addr} {sl5 : Array (Option Value)} {oc5 kV5 dc5 pm5 cd5 ct5 : Value}
    {f6 : Addr} {od6 an6 : Option Addr} {sl6 : Array (Option Value)} {oc6 kV6 dc6 pm6 cd6 ct6 : Value}
    {f7 : Addr} {od7 an7 : Option Addr} {sl7 : Array (Option Value)} {oc7 kV7 dc7 pm7 cd7 ct7 : Value}
    {f8 : Addr} {od8 an8 : Option Addr} {sl8 : Array (Option Value)} {oc8 kV8 dc8 pm8 cd8 ct8 : Value}
    {f9 : Addr} {od9 an9 : Option Addr} {sl9 : Array (Option Value)} {oc9 kV9 dc9 pm9 cd9 ct9 : Value}
    {f10 : Addr} {od10 an10 : Option Addr} {sl10 : Array (Option Value)} {oc10 kV10 dc10 pm10 cd10 ct10 : Value}
    {f11 : Addr} {od11 an11 : Option Addr} {sl11 : Array (Option Value)} {oc11 kV11 dc11 pm11 cd11 ct11 : Value}
    {f12 : Addr} {od12 an12 : Option Addr} {sl12 : Array (Option Value)} {oc12 kV12 dc12 pm12 cd12 ct12 : Value}
    {f13 : Addr} {od13 an13 : Option Addr} {sl13 : Array (Option Value)} {oc13 kV13 dc13 pm13 ct13 : Value} {cU U : Addr}
    {f14 : Addr} {od14 an14 : Option Addr} {sl14 : Array (Option Value)} {oc14 kV14 dc14 pm14 cd14 ct14 : Value}
    {f15 : Addr} {od15 an15 : Option Addr} {sl15 : Array (Option Value)} {oc15 kV15 dc15 pm15 cd15 ct15 : Value}
    {f16 : Addr} {od16 an16 : Option Addr} {sl16 : Array (Option Value)} {oc16 kV16 dc16 pm16 cd16 ct16 : Value}
    {f17 : Addr} {od17 an17 : Option Addr} {sl17 : Array (Option Value)} {oc17 kV17 dc17 pm17 cd17 ct17 : Value}
    {f18 : Addr} {od18 an18 : Option Addr} {sl18 : Array (Option Value)} {oc18 kV18 dc18 pm18 cd18 ct18 : Value}
    {f19 : Addr} {od19 an19 : Option Addr} {sl19 : Array (Option Value)} {oc19 kV19 dc19 pm19 cd19 ct19 : Value}
    {f20 : Addr} {od20 an20 : Option Addr} {sl20 : Array (Option Value)} {oc20 kV20 dc20 pm20 cd20 ct20 : Value}
    {f21 : Addr} {od21 an21 : Option Addr} {sl21 : Array (Option Value)} {oc21 kV21 dc21 pm21 cd21 ct21 : Value}
    {f22 : Addr} {od22 an22 : Option Addr} {sl22 : Array (Option Value)} {oc22 kV22 dc22 pm22 cd22 ct22 : Value}
    {f23 : Addr} {od23 an23 : Option Addr} {sl23 : Array (Option Value)} {oc23 kV23 dc23 pm23 cd23 ct23 : Value}
    {f24 : Addr} {od24 an24 : Option Addr} {sl24 : Array (Option Value)} {oc24 kV24 dc24 pm24 cd24 ct24 : Value}
    {f25 : Addr} {od25 an25 : Option Addr} {sl25 : Array (Option Value)} {oc25 kV25 dc25 pm25 cd25 ct25 : Value}
    {f26 : Addr} {od26 an26 : Option Addr} {sl26 : Array (Option Value)} {oc26 kV26 dc26 pm26 ct26 : Value} {cL T : Addr}
    {a_NoParting b_NoParting n_NoParting m_NoParting : Addr} {cd_NoParting cb_NoParting : ClassData} {d1_NoParting d2_NoParting d3_NoParting d4_NoParting : Option Addr} {sl_NoParting sb_NoParting sn_NoParting sm_NoParting : Array (Option Value)} {c3_NoParting c4_NoParting : Value} {es_NoParting em_NoParting : Array DictEntry} {ep_NoParting eq_NoParting : Nat} {s1_NoParting s2_NoParting s3_NoParting s4_NoParting s6_NoParting : Option Value}
    {a_TooMany b_TooMany n_TooMany m_TooMany : Addr} {cd_TooMany cb_TooMany : ClassData} {d1_TooMany d2_TooMany d3_TooMany d4_TooMany : Option Addr} {sl_TooMany sb_TooMany sn_TooMany sm_TooMany : Array (Option Value)} {c3_TooMany c4_TooMany : Value} {es_TooMany em_TooMany : Array DictEntry} {ep_TooMany eq_TooMany : Nat} {s1_TooMany s2_TooMany s3_TooMany s4_TooMany s6_TooMany : Option Value}
    {w_NoLetter : Addr}
    {w_NoGap : Addr}
    {w_NoRows : Addr}
    {w_NoTable : Addr}
    {w_NoOpen : Addr}
    {w_NoLine : Addr}
    {w_NoPiece : Addr}
    {w_NoNumber : Addr}
    {w_NoDeed : Addr}
    {w_NoText : Addr}
    {w_NoWord : Addr}
    {w_Clash : Addr}
    {w_Kept : Addr}
    {w_TooWide : Addr}
    {aG : Addr}
    {t_MOST_ROWS : Tok}
    (a0 : PySem.W.nsIn K mainGlobals "place_of" = some (some (.ref f0))) (l0 : K.lookup f0 = some ⟨oc0, od0, .func (PySem.W.fnOf "place_of" "place_of" (defArgs s_place_of) (defBody s_place_of) (defScope s_place_of) .none kV0 dc0 pm0 an0 cd0 ct0), sl0⟩) (c0 : PySem.W.codeIn K cd0 "place_of" = true) (k0 : PySem.W.keepIn K (.ref f0) = true)
    (a1 : PySem.W.nsIn K mainGlobals "gap_in" = some (some (.ref f1))) (l1 : K.lookup f1 = some ⟨oc1, od1, .func (PySem.W.fnOf "gap_in" "gap_in" (defArgs s_gap_in) (defBody s_gap_in) (defScope s_gap_in) .none kV1 dc1 pm1 an1 cd1 ct1), sl1⟩) (c1 : PySem.W.codeIn K cd1 "gap_in" = true) (k1 : PySem.W.keepIn K (.ref f1) = true)
    (a2 : PySem.W.nsIn K mainGlobals "is_parting" = some (some (.ref f2))) (l2 : K.lookup f2 = some ⟨oc2, od2, .func (PySem.W.fnOf "is_parting" "is_parting" (defArgs s_is_parting) (defBody s_is_parting) (defScope s_is_parting) .none kV2 dc2 pm2 an2 cd2 ct2), sl2⟩) (c2 : PySem.W.codeIn K cd2 "is_parting" = true) (k2 : PySem.W.keepIn K (.ref f2) = true)
    (a3 : PySem.W.nsIn K mainGlobals "need_parting" = some (some (.ref f3))) (l3 : K.lookup f3 = some ⟨oc3, od3, .func (PySem.W.fnOf "need_parting" "need_parting" (defArgs s_need_parting) (defBody s_need_parting) (defScope s_need_parting) .none kV3 dc3 pm3 an3 cd3 ct3), sl3⟩) (c3 : PySem.W.codeIn K cd3 "need_parting" = true) (k3 : PySem.W.keepIn K (.ref f3) = true)
    (a4 : PySem.W.nsIn K mainGlobals "most_in" = some (some (.ref f4))) (l4 : K.lookup f4 = some ⟨oc4, od4, .func (PySem.W.fnOf "most_in" "most_in" (defArgs s_most_in) (defBody s_most_in) (defScope s_most_in) .none kV4 dc4 pm4 an4 cd4 ct4), sl4⟩) (c4 : PySem.W.codeIn K cd4 "most_in" = true) (k4 : PySem.W.keepIn K (.ref f4) = true)
    (a5 : PySem.W.nsIn K mainGlobals "block_of" = some (some (.ref f5))) (l5 : K.lookup f5 = some ⟨oc5, od5, .func (PySem.W.fnOf "block_of" "block_of" (defArgs s_block_of) (defBody s_block_of) (defScope s_block_of) .none kV5 dc5 pm5 an5 cd5 ct5), sl5⟩) (c5 : PySem.W.codeIn K cd5 "block_of" = true) (k5 : PySem.W.keepIn K (.ref f5) = true)
    (a6 : PySem.W.nsIn K mainGlobals "sets_of" = some (some (.ref f6))) (l6 : K.lookup f6 = some ⟨oc6, od6, .func (PySem.W.fnOf "sets_of" "sets_of" (defArgs s_sets_of) (defBody s_sets_of) (defScope s_sets_of) .none kV6 dc6 pm6 an6 cd6 ct6), sl6⟩) (c6 : PySem.W.codeIn K cd6 "sets_of" = true) (k6 : PySem.W.keepIn K (.ref f6) = true)
    (a7 : PySem.W.nsIn K mainGlobals "column_of" = some (some (.ref f7))) (l7 : K.lookup f7 = some ⟨oc7, od7, .func (PySem.W.fnOf "column_of" "column_of" (defArgs s_column_of) (defBody s_column_of) (defScope s_column_of) .none kV7 dc7 pm7 an7 cd7 ct7), sl7⟩) (c7 : PySem.W.codeIn K cd7 "column_of" = true) (k7 : PySem.W.keepIn K (.ref f7) = true)
    (a8 : PySem.W.nsIn K mainGlobals "settled" = some (some (.ref f8))) (l8 : K.lookup f8 = some ⟨oc8, od8, .func (PySem.W.fnOf "settled" "settled" (defArgs s_settled) (defBody s_settled) (defScope s_settled) .none kV8 dc8 pm8 an8 cd8 ct8), sl8⟩) (c8 : PySem.W.codeIn K cd8 "settled" = true) (k8 : PySem.W.keepIn K (.ref f8) = true)
    (a9 : PySem.W.nsIn K mainGlobals "best_block" = some (some (.ref f9))) (l9 : K.lookup f9 = some ⟨oc9, od9, .func (PySem.W.fnOf "best_block" "best_block" (defArgs s_best_block) (defBody s_best_block) (defScope s_best_block) .none kV9 dc9 pm9 an9 cd9 ct9), sl9⟩) (c9 : PySem.W.codeIn K cd9 "best_block" = true) (k9 : PySem.W.keepIn K (.ref f9) = true)
    (a10 : PySem.W.nsIn K mainGlobals "need_partings" = some (some (.ref f10))) (l10 : K.lookup f10 = some ⟨oc10, od10, .func (PySem.W.fnOf "need_partings" "need_partings" (defArgs s_need_partings) (defBody s_need_partings) (defScope s_need_partings) .none kV10 dc10 pm10 an10 cd10 ct10), sl10⟩) (c10 : PySem.W.codeIn K cd10 "need_partings" = true) (k10 : PySem.W.keepIn K (.ref f10) = true)
    (a11 : PySem.W.nsIn K mainGlobals "fewest_told" = some (some (.ref f11))) (l11 : K.lookup f11 = some ⟨oc11, od11, .func (PySem.W.fnOf "fewest_told" "fewest_told" (defArgs s_fewest_told) (defBody s_fewest_told) (defScope s_fewest_told) .none kV11 dc11 pm11 an11 cd11 ct11), sl11⟩) (c11 : PySem.W.codeIn K cd11 "fewest_told" = true) (k11 : PySem.W.keepIn K (.ref f11) = true)
    (a12 : PySem.W.nsIn K mainGlobals "told_ones" = some (some (.ref f12))) (l12 : K.lookup f12 = some ⟨oc12, od12, .func (PySem.W.fnOf "told_ones" "told_ones" (defArgs s_told_ones) (defBody s_told_ones) (defScope s_told_ones) .none kV12 dc12 pm12 an12 cd12 ct12), sl12⟩) (c12 : PySem.W.codeIn K cd12 "told_ones" = true) (k12 : PySem.W.keepIn K (.ref f12) = true)
    (a13 : PySem.W.nsIn K mainGlobals "best_told" = some (some (.ref f13))) (l13 : K.lookup f13 = some ⟨oc13, od13, .func (PySem.W.fnOf "best_told" "best_told" (defArgs s_best_told) (defBody s_best_told) (defScope s_best_told) .none kV13 dc13 pm13 an13 (.ref cU) ct13), sl13⟩) (c13 : PySem.W.codeIn K (.ref cU) "best_told" = true) (k13 : PySem.W.keepIn K (.ref f13) = true)
    (a14 : PySem.W.nsIn K mainGlobals "_law_box" = some (some (.ref f14))) (l14 : K.lookup f14 = some ⟨oc14, od14, .func (PySem.W.fnOf "_law_box" "_law_box" (defArgs s_law_box) (defBody s_law_box) (defScope s_law_box) .none kV14 dc14 pm14 an14 cd14 ct14), sl14⟩) (c14 : PySem.W.codeIn K cd14 "_law_box" = true) (k14 : PySem.W.keepIn K (.ref f14) = true)
    (a15 : PySem.W.nsIn K mainGlobals "_law_take" = some (some (.ref f15))) (l15 : K.lookup f15 = some ⟨oc15, od15, .func (PySem.W.fnOf "_law_take" "_law_take" (defArgs s_law_take) (defBody s_law_take) (defScope s_law_take) .none kV15 dc15 pm15 an15 cd15 ct15), sl15⟩) (c15 : PySem.W.codeIn K cd15 "_law_take" = true) (k15 : PySem.W.keepIn K (.ref f15) = true)
    (a16 : PySem.W.nsIn K mainGlobals "_law_face" = some (some (.ref f16))) (l16 : K.lookup f16 = some ⟨oc16, od16, .func (PySem.W.fnOf "_law_face" "_law_face" (defArgs s_law_face) (defBody s_law_face) (defScope s_law_face) .none kV16 dc16 pm16 an16 cd16 ct16), sl16⟩) (c16 : PySem.W.codeIn K cd16 "_law_face" = true) (k16 : PySem.W.keepIn K (.ref f16) = true)
    (a17 : PySem.W.nsIn K mainGlobals "_law_letters" = some (some (.ref f17))) (l17 : K.lookup f17 = some ⟨oc17, od17, .func (PySem.W.fnOf "_law_letters" "_law_letters" (defArgs s_law_letters) (defBody s_law_letters) (defScope s_law_letters) .none kV17 dc17 pm17 an17 cd17 ct17), sl17⟩) (c17 : PySem.W.codeIn K cd17 "_law_letters" = true) (k17 : PySem.W.keepIn K (.ref f17) = true)
    (a18 : PySem.W.nsIn K mainGlobals "_law_list" = some (some (.ref f18))) (l18 : K.lookup f18 = some ⟨oc18, od18, .func (PySem.W.fnOf "_law_list" "_law_list" (defArgs s_law_list) (defBody s_law_list) (defScope s_law_list) .none kV18 dc18 pm18 an18 cd18 ct18), sl18⟩) (c18 : PySem.W.codeIn K cd18 "_law_list" = true) (k18 : PySem.W.keepIn K (.ref f18) = true)
    (a19 : PySem.W.nsIn K mainGlobals "_law_odd" = some (some (.ref f19))) (l19 : K.lookup f19 = some ⟨oc19, od19, .func (PySem.W.fnOf "_law_odd" "_law_odd" (defArgs s_law_odd) (defBody s_law_odd) (defScope s_law_odd) .none kV19 dc19 pm19 an19 cd19 ct19), sl19⟩) (c19 : PySem.W.codeIn K cd19 "_law_odd" = true) (k19 : PySem.W.keepIn K (.ref f19) = true)
    (a20 : PySem.W.nsIn K mainGlobals "_law_spoil" = some (some (.ref f20))) (l20 : K.lookup f20 = some ⟨oc20, od20, .func (PySem.W.fnOf "_law_spoil" "_law_spoil" (defArgs s_law_spoil) (defBody s_law_spoil) (defScope s_law_spoil) .none kV20 dc20 pm20 an20 cd20 ct20), sl20⟩) (c20 : PySem.W.codeIn K cd20 "_law_spoil" = true) (k20 : PySem.W.keepIn K (.ref f20) = true)
    (a21 : PySem.W.nsIn K mainGlobals "_law_grouped" = some (some (.ref f21))) (l21 : K.lookup f21 = some ⟨oc21, od21, .func (PySem.W.fnOf "_law_grouped" "_law_grouped" (defArgs s_law_grouped) (defBody s_law_grouped) (defScope s_law_grouped) .none kV21 dc21 pm21 an21 cd21 ct21), sl21⟩) (c21 : PySem.W.codeIn K cd21 "_law_grouped" = true) (k21 : PySem.W.keepIn K (.ref f21) = true)
    (a22 : PySem.W.nsIn K mainGlobals "_law_parting" = some (some (.ref f22))) (l22 : K.lookup f22 = some ⟨oc22, od22, .func (PySem.W.fnOf "_law_parting" "_law_parting" (defArgs s_law_parting) (defBody s_law_parting) (defScope s_law_parting) .none kV22 dc22 pm22 an22 cd22 ct22), sl22⟩) (c22 : PySem.W.codeIn K cd22 "_law_parting" = true) (k22 : PySem.W.keepIn K (.ref f22) = true)
    (a23 : PySem.W.nsIn K mainGlobals "_law_is_parting" = some (some (.ref f23))) (l23 : K.lookup f23 = some ⟨oc23, od23, .func (PySem.W.fnOf "_law_is_parting" "_law_is_parting" (defArgs s_law_is_parting) (defBody s_law_is_parting) (defScope s_law_is_parting) .none kV23 dc23 pm23 an23 cd23 ct23), sl23⟩) (c23 : PySem.W.codeIn K cd23 "_law_is_parting" = true) (k23 : PySem.W.keepIn K (.ref f23) = true)
    (a24 : PySem.W.nsIn K mainGlobals "_law_word" = some (some (.ref f24))) (l24 : K.lookup f24 = some ⟨oc24, od24, .func (PySem.W.fnOf "_law_word" "_law_word" (defArgs s_law_word) (defBody s_law_word) (defScope s_law_word) .none kV24 dc24 pm24 an24 cd24 ct24), sl24⟩) (c24 : PySem.W.codeIn K cd24 "_law_word" = true) (k24 : PySem.W.keepIn K (.ref f24) = true)
    (a25 : PySem.W.nsIn K mainGlobals "_law_said" = some (some (.ref f25))) (l25 : K.lookup f25 = some ⟨oc25, od25, .func (PySem.W.fnOf "_law_said" "_law_said" (defArgs s_law_said) (defBody s_law_said) (defScope s_law_said) .none kV25 dc25 pm25 an25 cd25 ct25), sl25⟩) (c25 : PySem.W.codeIn K cd25 "_law_said" = true) (k25 : PySem.W.keepIn K (.ref f25) = true)
    (a26 : PySem.W.nsIn K mainGlobals "law" = some (some (.ref f26))) (l26 : K.lookup f26 = some ⟨oc26, od26, .func (PySem.W.fnOf "law" "law" (defArgs s_law) (defBody s_law) (defScope s_law) .none kV26 dc26 pm26 an26 (.ref cL) ct26), sl26⟩) (c26 : PySem.W.codeIn K (.ref cL) "law" = true) (k26 : PySem.W.keepIn K (.ref f26) = true)
    (xa_NoParting : PySem.W.nsIn K mainGlobals "NoParting" = some (some (.ref a_NoParting))) (h1_NoParting : K.lookup a_NoParting = some ⟨.type "type", d1_NoParting, .cls cd_NoParting, sl_NoParting⟩) (q1_NoParting : cd_NoParting.mro = .ref a_NoParting :: .ref b_NoParting :: veTail) (q2_NoParting : sl_NoParting.toList = [s1_NoParting, s2_NoParting, s3_NoParting, s4_NoParting, some (.builtin "ValueError.__new__"), s6_NoParting]) (q3_NoParting : cd_NoParting.hasDel = false) (q4_NoParting : cd_NoParting.ns = n_NoParting) (h2_NoParting : K.lookup n_NoParting = some ⟨c3_NoParting, d3_NoParting, .dict es_NoParting ep_NoParting, sn_NoParting⟩) (q5_NoParting : allStr es_NoParting = true) (n1_NoParting : PySem.W.nsIn K n_NoParting "__init__" = some none) (h3_NoParting : K.lookup b_NoParting = some ⟨.type "type", d2_NoParting, .cls cb_NoParting, sb_NoParting⟩) (q6_NoParting : cb_NoParting.ns = m_NoParting) (h4_NoParting : K.lookup m_NoParting = some ⟨c4_NoParting, d4_NoParting, .dict em_NoParting eq_NoParting, sm_NoParting⟩) (q7_NoParting : allStr em_NoParting = true) (n2_NoParting : PySem.W.nsIn K m_NoParting "__init__" = some none) (xk_NoParting : PySem.W.keepIn K (.ref a_NoParting) = true) (xb_NoParting : PySem.W.subIn K (.ref a_NoParting) (.type "BaseException") = some true) (xt_NoParting : PySem.W.typeIn K (.ref a_NoParting) = some (.type "type"))
    (xa_TooMany : PySem.W.nsIn K mainGlobals "TooMany" = some (some (.ref a_TooMany))) (h1_TooMany : K.lookup a_TooMany = some ⟨.type "type", d1_TooMany, .cls cd_TooMany, sl_TooMany⟩) (q1_TooMany : cd_TooMany.mro = .ref a_TooMany :: .ref b_TooMany :: veTail) (q2_TooMany : sl_TooMany.toList = [s1_TooMany, s2_TooMany, s3_TooMany, s4_TooMany, some (.builtin "ValueError.__new__"), s6_TooMany]) (q3_TooMany : cd_TooMany.hasDel = false) (q4_TooMany : cd_TooMany.ns = n_TooMany) (h2_TooMany : K.lookup n_TooMany = some ⟨c3_TooMany, d3_TooMany, .dict es_TooMany ep_TooMany, sn_TooMany⟩) (q5_TooMany : allStr es_TooMany = true) (n1_TooMany : PySem.W.nsIn K n_TooMany "__init__" = some none) (h3_TooMany : K.lookup b_TooMany = some ⟨.type "type", d2_TooMany, .cls cb_TooMany, sb_TooMany⟩) (q6_TooMany : cb_TooMany.ns = m_TooMany) (h4_TooMany : K.lookup m_TooMany = some ⟨c4_TooMany, d4_TooMany, .dict em_TooMany eq_TooMany, sm_TooMany⟩) (q7_TooMany : allStr em_TooMany = true) (n2_TooMany : PySem.W.nsIn K m_TooMany "__init__" = some none) (xk_TooMany : PySem.W.keepIn K (.ref a_TooMany) = true) (xb_TooMany : PySem.W.subIn K (.ref a_TooMany) (.type "BaseException") = some true) (xt_TooMany : PySem.W.typeIn K (.ref a_TooMany) = some (.type "type"))
    (xa_NoLetter : PySem.W.nsIn K mainGlobals "NoLetter" = some (some (.ref w_NoLetter)))
    (xa_NoGap : PySem.W.nsIn K mainGlobals "NoGap" = some (some (.ref w_NoGap)))
    (xa_NoRows : PySem.W.nsIn K mainGlobals "NoRows" = some (some (.ref w_NoRows)))
    (xa_NoTable : PySem.W.nsIn K mainGlobals "NoTable" = some (some (.ref w_NoTable)))
    (xa_NoOpen : PySem.W.nsIn K mainGlobals "NoOpen" = some (some (.ref w_NoOpen)))
    (xa_NoLine : PySem.W.nsIn K mainGlobals "NoLine" = some (some (.ref w_NoLine)))
    (xa_NoPiece : PySem.W.nsIn K mainGlobals "NoPiece" = some (some (.ref w_NoPiece)))
    (xa_NoNumber : PySem.W.nsIn K mainGlobals "NoNumber" = some (some (.ref w_NoNumber)))
    (xa_NoDeed : PySem.W.nsIn K mainGlobals "NoDeed" = some (some (.ref w_NoDeed)))
    (xa_NoText : PySem.W.nsIn K mainGlobals "NoText" = some (some (.ref w_NoText)))
    (xa_NoWord : PySem.W.nsIn K mainGlobals "NoWord" = some (some (.ref w_NoWord)))
    (xa_Clash : PySem.W.nsIn K mainGlobals "Clash" = some (some (.ref w_Clash)))
    (xa_Kept : PySem.W.nsIn K mainGlobals "Kept" = some (some (.ref w_Kept)))
    (xa_TooWide : PySem.W.nsIn K mainGlobals "TooWide" = some (some (.ref w_TooWide)))
    (xa_GapError : PySem.W.nsIn K mainGlobals "GapError" = some (some (.ref aG)))
    (e0_NoParting : PySem.W.findIn K (.ref a_NoParting) "__getattribute__" = some (some (.builtin "BaseException.__getattribute__")))
    (e1_NoParting : PySem.W.findIn K (.ref a_NoParting) "__getattr__" = some none)
    (e2_NoParting : PySem.W.subIn K (.ref a_NoParting) (.type "BaseException") = some true)
    (e3_NoParting : PySem.W.hasDictIn K a_NoParting = true)
    (e4_NoParting : PySem.W.findIn K (.ref a_NoParting) "__class__" = some (some (.builtin "object.__class__")))
    (e5_NoParting : PySem.W.specialIn K (.builtin "object.__class__") "__get__" = some (some (.builtin "getset_descriptor.__get__")))
    (e6_NoParting : PySem.W.takesIn K (.builtin "object.__class__") = some true)
    (e7_NoParting : PySem.W.mroIn K a_NoParting (.type "object") = some true)
    (kt_NoParting_NoLetter : PySem.W.kitOne K (.ref a_NoParting) (.ref w_NoLetter) = some false)
    (kt_NoParting_NoGap : PySem.W.kitOne K (.ref a_NoParting) (.ref w_NoGap) = some false)
    (kt_NoParting_NoRows : PySem.W.kitOne K (.ref a_NoParting) (.ref w_NoRows) = some false)
    (kt_NoParting_NoParting : PySem.W.kitOne K (.ref a_NoParting) (.ref a_NoParting) = some true)
    (kt_NoParting_NoTable : PySem.W.kitOne K (.ref a_NoParting) (.ref w_NoTable) = some false)
    (kt_NoParting_NoOpen : PySem.W.kitOne K (.ref a_NoParting) (.ref w_NoOpen) = some false)
    (kt_NoParting_NoLine : PySem.W.kitOne K (.ref a_NoParting) (.ref w_NoLine) = some false)
    (kt_NoParting_NoPiece : PySem.W.kitOne K (.ref a_NoParting) (.ref w_NoPiece) = some false)
    (kt_NoParting_NoNumber : PySem.W.kitOne K (.ref a_NoParting) (.ref w_NoNumber) = some false)
    (kt_NoParting_NoDeed : PySem.W.kitOne K (.ref a_NoParting) (.ref w_NoDeed) = some false)
    (kt_NoParting_NoText : PySem.W.kitOne K (.ref a_NoParting) (.ref w_NoText) = some false)
    (kt_NoParting_NoWord : PySem.W.kitOne K (.ref a_NoParting) (.ref w_NoWord) = some false)
    (kt_NoParting_Clash : PySem.W.kitOne K (.ref a_NoParting) (.ref w_Clash) = some false)
    (kt_NoParting_Kept : PySem.W.kitOne K (.ref a_NoParting) (.ref w_Kept) = some false)
    (kt_NoParting_TooWide : PySem.W.kitOne K (.ref a_NoParting) (.ref w_TooWide) = some false)
    (kt_NoParting_TooMany : PySem.W.kitOne K (.ref a_NoParting) (.ref a_TooMany) = some false)
    (kv_NoParting : PySem.W.kitOne K (.ref a_NoParting) (.type "ValueError") = some true)
    (hx_NoParting : PySem.W.exmOne K (.ref a_NoParting) (.ref aG) = some true)
    (e0_TooMany : PySem.W.findIn K (.ref a_TooMany) "__getattribute__" = some (some (.builtin "BaseException.__getattribute__")))
    (e1_TooMany : PySem.W.findIn K (.ref a_TooMany) "__getattr__" = some none)
    (e2_TooMany : PySem.W.subIn K (.ref a_TooMany) (.type "BaseException") = some true)
    (e3_TooMany : PySem.W.hasDictIn K a_TooMany = true)
    (e4_TooMany : PySem.W.findIn K (.ref a_TooMany) "__class__" = some (some (.builtin "object.__class__")))
    (e5_TooMany : PySem.W.specialIn K (.builtin "object.__class__") "__get__" = some (some (.builtin "getset_descriptor.__get__")))
    (e6_TooMany : PySem.W.takesIn K (.builtin "object.__class__") = some true)
    (e7_TooMany : PySem.W.mroIn K a_TooMany (.type "object") = some true)
    (kt_TooMany_NoLetter : PySem.W.kitOne K (.ref a_TooMany) (.ref w_NoLetter) = some false)
    (kt_TooMany_NoGap : PySem.W.kitOne K (.ref a_TooMany) (.ref w_NoGap) = some false)
    (kt_TooMany_NoRows : PySem.W.kitOne K (.ref a_TooMany) (.ref w_NoRows) = some false)
    (kt_TooMany_NoParting : PySem.W.kitOne K (.ref a_TooMany) (.ref a_NoParting) = some false)
    (kt_TooMany_NoTable : PySem.W.kitOne K (.ref a_TooMany) (.ref w_NoTable) = some false)
    (kt_TooMany_NoOpen : PySem.W.kitOne K (.ref a_TooMany) (.ref w_NoOpen) = some false)
    (kt_TooMany_NoLine : PySem.W.kitOne K (.ref a_TooMany) (.ref w_NoLine) = some false)
    (kt_TooMany_NoPiece : PySem.W.kitOne K (.ref a_TooMany) (.ref w_NoPiece) = some false)
    (kt_TooMany_NoNumber : PySem.W.kitOne K (.ref a_TooMany) (.ref w_NoNumber) = some false)
    (kt_TooMany_NoDeed : PySem.W.kitOne K (.ref a_TooMany) (.ref w_NoDeed) = some false)
    (kt_TooMany_NoText : PySem.W.kitOne K (.ref a_TooMany) (.ref w_NoText) = some false)
    (kt_TooMany_NoWord : PySem.W.kitOne K (.ref a_TooMany) (.ref w_NoWord) = some false)
    (kt_TooMany_Clash : PySem.W.kitOne K (.ref a_TooMany) (.ref w_Clash) = some false)
    (kt_TooMany_Kept : PySem.W.kitOne K (.ref a_TooMany) (.ref w_Kept) = some false)
    (kt_TooMany_TooWide : PySem.W.kitOne K (.ref a_TooMany) (.ref w_TooWide) = some false)
    (kt_TooMany_TooMany : PySem.W.kitOne K (.ref a_TooMany) (.ref a_TooMany) = some true)
    (kv_TooMany : PySem.W.kitOne K (.ref a_TooMany) (.type "ValueError") = some true)
    (hx_TooMany : PySem.W.exmOne K (.ref a_TooMany) (.ref aG) = some true)
    (zc_MOST_ROWS : PySem.W.nsIn K mainGlobals "MOST_ROWS" = some (some (.int 6 t_MOST_ROWS)))
    (z_enumerate : PySem.W.nsIn K mainGlobals "enumerate" = some none)
    (z_isinstance : PySem.W.nsIn K mainGlobals "isinstance" = some none)
    (z_tuple : PySem.W.nsIn K mainGlobals "tuple" = some none)
    (z_sorted : PySem.W.nsIn K mainGlobals "sorted" = some none)
    (z_sum : PySem.W.nsIn K mainGlobals "sum" = some none)
    (z_list : PySem.W.nsIn K mainGlobals "list" = some none)
    (z_range : PySem.W.nsIn K mainGlobals "range" = some none)
    (z_len : PySem.W.nsIn K mainGlobals "len" = some none)
    (z_min : PySem.W.nsIn K mainGlobals "min" = some none)
    (z_zip : PySem.W.nsIn K mainGlobals "zip" = some none)
    (z_set : PySem.W.nsIn K mainGlobals "set" = some none)
    (z_max : PySem.W.nsIn K mainGlobals "max" = some none)
    (z_abs : PySem.W.nsIn K mainGlobals "abs" = some none)
    (z_divmod : PySem.W.nsIn K mainGlobals "divmod" = some none)
    (z_int : PySem.W.nsIn K mainGlobals "int" = some none)
    (z_str : PySem.W.nsIn K mainGlobals "str" = some none)
    (z_repr : PySem.W.nsIn K mainGlobals "repr" = some none)
    (z_ValueError : PySem.W.nsIn K mainGlobals "ValueError" = some none) :
    ∃ fd : FuncData, (∀ (s : Shared) (v : Value), BindsTo s fd ⟨[v], []⟩ [("_law_script", v)]) ∧ ∀ base : Heap, K.In base → base.Ns mainGlobals mg → LamX.TabB base mg cL T → LamX.TabB base mg cU U → FnD l.prog w K mg base 8 fa fd ["_law_script"] (F_law f11 f13 T U) := by
  have e := hfa.symm.trans (PySem.W.mg_of X G a26)
  cases e
  have F0 := fun_mk (st := s_place_of) l0 c0 k0
  have F1 := fun_mk (st := s_gap_in) l1 c1 k1
  have F2 := fun_mk (st := s_is_parting) l2 c2 k2
  have F3 := fun_mk (st := s_need_parting) l3 c3 k3
  have F4 := fun_mk (st := s_most_in) l4 c4 k4
  have F5 := fun_mk (st := s_block_of) l5 c5 k5
  have F6 := fun_mk (st := s_sets_of) l6 c6 k6
  have F7 := fun_mk (st := s_column_of) l7 c7 k7
  have F8 := fun_mk (st := s_settled) l8 c8 k8
  have F9 := fun_mk (st := s_best_block) l9 c9 k9
  have F10 := fun_mk (st := s_need_partings) l10 c10 k10
  have F11 := fun_mk (st := s_fewest_told) l11 c11 k11
  have F12 := fun_mk (st := s_told_ones) l12 c12 k12
  have F13 := fun_mk (st := s_best_told) l13 c13 k13
  have F14 := fun_mk (st := s_law_box) l14 c14 k14
  have F15 := fun_mk (st := s_law_take) l15 c15 k15
  have F16 := fun_mk (st := s_law_face) l16 c16 k16
  have F17 := fun_mk (st := s_law_letters) l17 c17 k17
  have F18 := fun_mk (st := s_law_list) l18 c18 k18
  have F19 := fun_mk (st := s_law_odd) l19 c19 k19
  have F20 := fun_mk (st := s_law_spoil) l20 c20 k20
  have F21 := fun_mk (st := s_law_grouped) l21 c21 k21
  have F22 := fun_mk (st := s_law_parting) l22 c22 k22
  have F23 := fun_mk (st := s_law_is_parting) l23 c23 k23
  have F24 := fun_mk (st := s_law_word) l24 c24 k24
  have F25 := fun_mk (st := s_law_said) l25 c25 k25
  have F26 := fun_mk (st := s_law) l26 c26 k26
  have b0 := F0.binds (ps := ["face", "thing"]) fun _ _ _ _ _ _ us hl => match us, hl with | [_, _], _ => rfl
  have A_place_of : At K mg "place_of" _ _ _ := ⟨PySem.W.mg_of X G a0, k0, b0⟩
  have b1 := F1.binds (ps := ["pairs", "left", "right"]) fun _ _ _ _ _ _ us hl => match us, hl with | [_, _, _], _ => rfl
  have A_gap_in : At K mg "gap_in" _ _ _ := ⟨PySem.W.mg_of X G a1, k1, b1⟩
  have b2 := F2.binds (ps := ["face", "thing"]) fun _ _ _ _ _ _ us hl => match us, hl with | [_, _], _ => rfl
  have A_is_parting : At K mg "is_parting" _ _ _ := ⟨PySem.W.mg_of X G a2, k2, b2⟩
  have b3 := F3.binds (ps := ["face", "thing"]) fun _ _ _ _ _ _ us hl => match us, hl with | [_, _], _ => rfl
  have A_need_parting : At K mg "need_parting" _ _ _ := ⟨PySem.W.mg_of X G a3, k3, b3⟩
  have b4 := F4.binds (ps := ["values"]) fun _ _ _ _ _ _ us hl => match us, hl with | [_], _ => rfl
  have A_most_in : At K mg "most_in" _ _ _ := ⟨PySem.W.mg_of X G a4, k4, b4⟩
  have b5 := F5.binds (ps := ["pairs", "left", "right"]) fun _ _ _ _ _ _ us hl => match us, hl with | [_, _, _], _ => rfl
  have A_block_of : At K mg "block_of" _ _ _ := ⟨PySem.W.mg_of X G a5, k5, b5⟩
  have b6 := F6.binds (ps := ["many"]) fun _ _ _ _ _ _ us hl => match us, hl with | [_], _ => rfl
  have A_sets_of : At K mg "sets_of" _ _ _ := ⟨PySem.W.mg_of X G a6, k6, b6⟩
  have b7 := F7.binds (ps := ["values", "gap"]) fun _ _ _ _ _ _ us hl => match us, hl with | [_, _], _ => rfl
  have A_column_of : At K mg "column_of" _ _ _ := ⟨PySem.W.mg_of X G a7, k7, b7⟩
  have b8 := F8.binds (ps := ["block", "gap", "own"]) fun _ _ _ _ _ _ us hl => match us, hl with | [_, _, _], _ => rfl
  have A_settled : At K mg "settled" _ _ _ := ⟨PySem.W.mg_of X G a8, k8, b8⟩
  have b9 := F9.binds (ps := ["block"]) fun _ _ _ _ _ _ us hl => match us, hl with | [_], _ => rfl
  have A_best_block : At K mg "best_block" _ _ _ := ⟨PySem.W.mg_of X G a9, k9, b9⟩
  have b10 := F10.binds (ps := ["face", "lefts", "rights"]) fun _ _ _ _ _ _ us hl => match us, hl with | [_, _, _], _ => rfl
  have A_need_partings : At K mg "need_partings" _ _ _ := ⟨PySem.W.mg_of X G a10, k10, b10⟩
  have b11 := F11.binds (ps := ["face", "pairs", "lefts", "rights"]) fun _ _ _ _ _ _ us hl => match us, hl with | [_, _, _, _], _ => rfl
  have A_fewest_told : At K mg "fewest_told" _ _ _ := ⟨PySem.W.mg_of X G a11, k11, b11⟩
  have b12 := F12.binds (ps := ["pairs", "left", "right", "numbers", "found"]) fun _ _ _ _ _ _ us hl => match us, hl with | [_, _, _, _, _], _ => rfl
  have A_told_ones : At K mg "told_ones" _ _ _ := ⟨PySem.W.mg_of X G a12, k12, b12⟩
  have b13 := F13.binds (ps := ["face", "pairs", "lefts", "rights"]) fun _ _ _ _ _ _ us hl => match us, hl with | [_, _, _, _], _ => rfl
  have A_best_told : At K mg "best_told" _ _ _ := ⟨PySem.W.mg_of X G a13, k13, b13⟩
  have b14 := F14.binds (ps := ["_law_script", "_law_k"]) fun _ _ _ _ _ _ us hl => match us, hl with | [_, _], _ => rfl
  have A_law_box : At K mg "_law_box" _ _ _ := ⟨PySem.W.mg_of X G a14, k14, b14⟩
  have b15 := F15.binds (ps := ["_law_box_here", "_law_many"]) fun _ _ _ _ _ _ us hl => match us, hl with | [_, _], _ => rfl
  have A_law_take : At K mg "_law_take" _ _ _ := ⟨PySem.W.mg_of X G a15, k15, b15⟩
  have b16 := F16.binds (ps := ["_law_box_here", "_law_least", "_law_most"]) fun _ _ _ _ _ _ us hl => match us, hl with | [_, _, _], _ => rfl
  have A_law_face : At K mg "_law_face" _ _ _ := ⟨PySem.W.mg_of X G a16, k16, b16⟩
  have b17 := F17.binds (ps := ["_law_face_here"]) fun _ _ _ _ _ _ us hl => match us, hl with | [_], _ => rfl
  have A_law_letters : At K mg "_law_letters" _ _ _ := ⟨PySem.W.mg_of X G a17, k17, b17⟩
  have b18 := F18.binds (ps := ["_law_face_here", "_law_rows"]) fun _ _ _ _ _ _ us hl => match us, hl with | [_, _], _ => rfl
  have A_law_list : At K mg "_law_list" _ _ _ := ⟨PySem.W.mg_of X G a18, k18, b18⟩
  have b19 := F19.binds (ps := ["_law_box_here", "_law_face_here"]) fun _ _ _ _ _ _ us hl => match us, hl with | [_, _], _ => rfl
  have A_law_odd : At K mg "_law_odd" _ _ _ := ⟨PySem.W.mg_of X G a19, k19, b19⟩
  have b20 := F20.binds (ps := ["_law_box_here", "_law_thing", "_law_odd_here"]) fun _ _ _ _ _ _ us hl => match us, hl with | [_, _, _], _ => rfl
  have A_law_spoil : At K mg "_law_spoil" _ _ _ := ⟨PySem.W.mg_of X G a20, k20, b20⟩
  have b21 := F21.binds (ps := ["_law_letters_here", "_law_marks"]) fun _ _ _ _ _ _ us hl => match us, hl with | [_, _], _ => rfl
  have A_law_grouped : At K mg "_law_grouped" _ _ _ := ⟨PySem.W.mg_of X G a21, k21, b21⟩
  have b22 := F22.binds (ps := ["_law_box_here", "_law_face_here", "_law_most"]) fun _ _ _ _ _ _ us hl => match us, hl with | [_, _, _], _ => rfl
  have A_law_parting : At K mg "_law_parting" _ _ _ := ⟨PySem.W.mg_of X G a22, k22, b22⟩
  have b23 := F23.binds (ps := ["_law_face_here", "_law_thing"]) fun _ _ _ _ _ _ us hl => match us, hl with | [_, _], _ => rfl
  have A_law_is_parting : At K mg "_law_is_parting" _ _ _ := ⟨PySem.W.mg_of X G a23, k23, b23⟩
  have b24 := F24.binds (ps := ["_law_e"]) fun _ _ _ _ _ _ us hl => match us, hl with | [_], _ => rfl
  have A_law_word : At K mg "_law_word" _ _ _ := ⟨PySem.W.mg_of X G a24, k24, b24⟩
  have b25 := F25.binds (ps := ["_law_call"]) fun _ _ _ _ _ _ us hl => match us, hl with | [_], _ => rfl
  have A_law_said : At K mg "_law_said" _ _ _ := ⟨PySem.W.mg_of X G a25, k25, b25⟩
  have b26 := F26.binds (ps := ["_law_script"]) fun _ _ _ _ _ _ us hl => match us, hl with | [_], _ => rfl
  have A_law : At K mg "law" _ _ _ := ⟨PySem.W.mg_of X G a26, k26, b26⟩
  have X_NoParting : ExcAt K mg "NoParting" a_NoParting := ⟨PySem.W.mg_of X G xa_NoParting, exc_two h1_NoParting q1_NoParting q2_NoParting q3_NoParting q4_NoParting h2_NoParting q5_NoParting n1_NoParting h3_NoParting q6_NoParting h4_NoParting q7_NoParting n2_NoParting rfl, xk_NoParting, xb_NoParting, xt_NoParting⟩
  have X_TooMany : ExcAt K mg "TooMany" a_TooMany := ⟨PySem.W.mg_of X G xa_TooMany, exc_two h1_TooMany q1_TooMany q2_TooMany q3_TooMany q4_TooMany h2_TooMany q5_TooMany n1_TooMany h3_TooMany q6_TooMany h4_TooMany q7_TooMany n2_TooMany rfl, xk_TooMany, xb_TooMany, xt_TooMany⟩
  have c_MOST_ROWS := PySem.W.mg_of X G zc_MOST_ROWS
  have m_enumerate := PySem.W.mg_none_of X G z_enumerate
  have m_isinstance := PySem.W.mg_none_of X G z_isinstance
  have m_tuple := PySem.W.mg_none_of X G z_tuple
  have m_sorted := PySem.W.mg_none_of X G z_sorted
  have m_sum := PySem.W.mg_none_of X G z_sum
  have m_list := PySem.W.mg_none_of X G z_list
  have m_range := PySem.W.mg_none_of X G z_range
  have m_len := PySem.W.mg_none_of X G z_len
  have m_min := PySem.W.mg_none_of X G z_min
  have m_zip := PySem.W.mg_none_of X G z_zip
  have m_set := PySem.W.mg_none_of X G z_set
  have m_max := PySem.W.mg_none_of X G z_max
  have m_abs := PySem.W.mg_none_of X G z_abs
  have m_divmod := PySem.W.mg_none_of X G z_divmod
  have m_int := PySem.W.mg_none_of X G z_int
  have m_str := PySem.W.mg_none_of X G z_str
  have m_repr := PySem.W.mg_none_of X G z_repr
  have m_ValueError := PySem.W.mg_none_of X G z_ValueError
  refine ⟨PySem.W.fnOf "law" "law" (defArgs s_law) (defBody s_law) (defScope s_law) .none kV26 dc26 pm26 an26 (.ref cL) ct26, fun s v => .of_eq rfl, fun base _ _ TB TBU => ?_⟩
  have hD_NoParting : clsV mg (Str.ofString "NoParting") = .ref a_NoParting := by unfold clsV; rw [PySem.W.mg_of X G xa_NoParting]; rfl
  have W_NoParting : WordD l.prog w K mg base 1 f24 (Str.ofString "NoParting") (Str.ofString "! parting") := ok_word F24 b24 m_isinstance m_ValueError "NoParting" hD_NoParting ⟨e0_NoParting, e1_NoParting, e2_NoParting, e3_NoParting, e4_NoParting, e5_NoParting, e6_NoParting, e7_NoParting⟩ (PySem.W.mg_of X G xa_NoLetter) (kt_NoParting_NoLetter.trans (by decide +kernel)) (PySem.W.mg_of X G xa_NoGap) (kt_NoParting_NoGap.trans (by decide +kernel)) (PySem.W.mg_of X G xa_NoRows) (kt_NoParting_NoRows.trans (by decide +kernel)) (PySem.W.mg_of X G xa_NoParting) (kt_NoParting_NoParting.trans (by decide +kernel)) (PySem.W.mg_of X G xa_NoTable) (kt_NoParting_NoTable.trans (by decide +kernel)) (PySem.W.mg_of X G xa_NoOpen) (kt_NoParting_NoOpen.trans (by decide +kernel)) (PySem.W.mg_of X G xa_NoLine) (kt_NoParting_NoLine.trans (by decide +kernel)) (PySem.W.mg_of X G xa_NoPiece) (kt_NoParting_NoPiece.trans (by decide +kernel)) (PySem.W.mg_of X G xa_NoNumber) (kt_NoParting_NoNumber.trans (by decide +kernel)) (PySem.W.mg_of X G xa_NoDeed) (kt_NoParting_NoDeed.trans (by decide +kernel)) (PySem.W.mg_of X G xa_NoText) (kt_NoParting_NoText.trans (by decide +kernel)) (PySem.W.mg_of X G xa_NoWord) (kt_NoParting_NoWord.trans (by decide +kernel)) (PySem.W.mg_of X G xa_Clash) (kt_NoParting_Clash.trans (by decide +kernel)) (PySem.W.mg_of X G xa_Kept) (kt_NoParting_Kept.trans (by decide +kernel)) (PySem.W.mg_of X G xa_TooWide) (kt_NoParting_TooWide.trans (by decide +kernel)) (PySem.W.mg_of X G xa_TooMany) (kt_NoParting_TooMany.trans (by decide +kernel)) (kv_NoParting.trans (by decide +kernel)) res_NoParting
  have hD_TooMany : clsV mg (Str.ofString "TooMany") = .ref a_TooMany := by unfold clsV; rw [PySem.W.mg_of X G xa_TooMany]; rfl
  have W_TooMany : WordD l.prog w K mg base 1 f24 (Str.ofString "TooMany") (Str.ofString "! many") := ok_word F24 b24 m_isinstance m_ValueError "TooMany" hD_TooMany ⟨e0_TooMany, e1_TooMany, e2_TooMany, e3_TooMany, e4_TooMany, e5_TooMany, e6_TooMany, e7_TooMany⟩ (PySem.W.mg_of X G xa_NoLetter) (kt_TooMany_NoLetter.trans (by decide +kernel)) (PySem.W.mg_of X G xa_NoGap) (kt_TooMany_NoGap.trans (by decide +kernel)) (PySem.W.mg_of X G xa_NoRows) (kt_TooMany_NoRows.trans (by decide +kernel)) (PySem.W.mg_of X G xa_NoParting) (kt_TooMany_NoParting.trans (by decide +kernel)) (PySem.W.mg_of X G xa_NoTable) (kt_TooMany_NoTable.trans (by decide +kernel)) (PySem.W.mg_of X G xa_NoOpen) (kt_TooMany_NoOpen.trans (by decide +kernel)) (PySem.W.mg_of X G xa_NoLine) (kt_TooMany_NoLine.trans (by decide +kernel)) (PySem.W.mg_of X G xa_NoPiece) (kt_TooMany_NoPiece.trans (by decide +kernel)) (PySem.W.mg_of X G xa_NoNumber) (kt_TooMany_NoNumber.trans (by decide +kernel)) (PySem.W.mg_of X G xa_NoDeed) (kt_TooMany_NoDeed.trans (by decide +kernel)) (PySem.W.mg_of X G xa_NoText) (kt_TooMany_NoText.trans (by decide +kernel)) (PySem.W.mg_of X G xa_NoWord) (kt_TooMany_NoWord.trans (by decide +kernel)) (PySem.W.mg_of X G xa_Clash) (kt_TooMany_Clash.trans (by decide +kernel)) (PySem.W.mg_of X G xa_Kept) (kt_TooMany_Kept.trans (by decide +kernel)) (PySem.W.mg_of X G xa_TooWide) (kt_TooMany_TooWide.trans (by decide +kernel)) (PySem.W.mg_of X G xa_TooMany) (kt_TooMany_TooMany.trans (by decide +kernel)) (kv_TooMany.trans (by decide +kernel)) res_TooMany
  have hW : ∀ c t, words_.lookup c = some t → WordD l.prog w K mg base 1 f24 c t := fun c t h => by
    have m := PySem.mem_of_lookup h
    simp only [words_, List.mem_cons, List.not_mem_nil, or_false, Prod.mk.injEq] at m
    rcases m with ⟨rfl, rfl⟩ | ⟨rfl, rfl⟩
    · exact W_NoParting
    · exact W_TooMany
  have hG : ∀ c t, words_.lookup c = some t → PySem.W.exmOne K (clsV mg c) (.ref aG) = some true := fun c t h => by
    have m := PySem.mem_of_lookup h
    simp only [words_, List.mem_cons, List.not_mem_nil, or_false, Prod.mk.injEq] at m
    rcases m with ⟨rfl, rfl⟩ | ⟨rfl, rfl⟩
    · rw [hD_NoParting]; exact hx_NoParting
    · rw [hD_TooMany]; exact hx_TooMany
  have G_place_of := ok_place_of (P := l.prog) (w := w) (mg := mg) (base := base) F0 m_enumerate
  have G_gap_in := ok_gap_in (P := l.prog) (w := w) (mg := mg) (base := base) F1 
  have G_is_parting := ok_is_parting (P := l.prog) (w := w) (mg := mg) (base := base) F2 G_place_of A_place_of m_isinstance m_tuple m_sorted m_sum m_list m_range m_len
  have G_need_parting := ok_need_parting (P := l.prog) (w := w) (mg := mg) (base := base) F3 G_is_parting A_is_parting X_NoParting
  have G_most_in := ok_most_in (P := l.prog) (w := w) (mg := mg) (base := base) F4 m_min
  have G_block_of := ok_block_of (P := l.prog) (w := w) (mg := mg) (base := base) F5 G_gap_in A_gap_in
  have G_sets_of := ok_sets_of (P := l.prog) (w := w) (mg := mg) (base := base) F6 m_range
  have G_column_of := ok_column_of (P := l.prog) (w := w) (mg := mg) (base := base) F7 G_most_in A_most_in m_len
  have G_settled := ok_settled (P := l.prog) (w := w) (mg := mg) (base := base) F8 G_most_in A_most_in G_column_of A_column_of m_zip m_len m_range
  have G_best_block := ok_best_block (P := l.prog) (w := w) (mg := mg) (base := base) F9 G_sets_of A_sets_of G_settled A_settled m_sorted m_set m_sum m_len
  have G_need_partings := ok_need_partings (P := l.prog) (w := w) (mg := mg) (base := base) F10 G_need_parting A_need_parting m_len m_max c_MOST_ROWS X_TooMany
  have G_fewest_told := ok_fewest_told (P := l.prog) (w := w) (mg := mg) (base := base) F11 G_need_partings A_need_partings G_best_block A_best_block G_block_of A_block_of m_sum
  have G_told_ones := ok_told_ones (P := l.prog) (w := w) (mg := mg) (base := base) F12 G_gap_in A_gap_in m_zip
  have G_best_told := ok_best_told (P := l.prog) (w := w) (mg := mg) (base := base) F13 rfl TBU G_need_partings A_need_partings G_best_block A_best_block G_block_of A_block_of G_told_ones A_told_ones G_place_of A_place_of m_enumerate m_tuple m_sorted
  have G_law_box := ok_law_box (P := l.prog) (w := w) (mg := mg) (base := base) F14 m_len m_abs
  have G_law_take := ok_law_take (P := l.prog) (w := w) (mg := mg) (base := base) F15 m_divmod
  have G_law_face := ok_law_face (P := l.prog) (w := w) (mg := mg) (base := base) F16 G_law_take A_law_take m_list m_range m_len m_tuple
  have G_law_letters := ok_law_letters (P := l.prog) (w := w) (mg := mg) (base := base) F17 
  have G_law_list := ok_law_list (P := l.prog) (w := w) (mg := mg) (base := base) F18 G_law_letters A_law_letters m_zip m_tuple
  have G_law_odd := ok_law_odd (P := l.prog) (w := w) (mg := mg) (base := base) F19 G_law_letters A_law_letters G_law_take A_law_take m_len
  have G_law_spoil := ok_law_spoil 6 (P := l.prog) (w := w) (mg := mg) (base := base) F20 G_law_take A_law_take m_isinstance m_tuple m_len m_list m_int m_str A_law_spoil
  have G_law_grouped := ok_law_grouped (P := l.prog) (w := w) (mg := mg) (base := base) F21 m_enumerate m_zip m_tuple
  have G_law_parting := ok_law_parting (P := l.prog) (w := w) (mg := mg) (base := base) F22 G_law_letters A_law_letters G_law_grouped A_law_grouped G_law_take A_law_take
  have G_law_is_parting := ok_law_is_parting (P := l.prog) (w := w) (mg := mg) (base := base) F23 G_law_letters A_law_letters m_isinstance m_tuple m_sorted m_list m_range m_len
  have G_law := ok_law (P := l.prog) (w := w) (mg := mg) (base := base) F26 G_law_box A_law_box G_law_face A_law_face G_law_take A_law_take G_law_letters A_law_letters G_law_list A_law_list G_law_parting A_law_parting G_law_odd A_law_odd G_law_spoil A_law_spoil G_law_is_parting A_law_is_parting G_fewest_told A_fewest_told G_best_told A_best_told m_range m_len m_min m_max m_int m_tuple m_repr rfl TB F25 A_law_said A_law_word hW (PySem.W.mg_of X G xa_GapError) hG
  exact G_law
end DV.k53

set_option maxHeartbeats 4000000
namespace DV
open PySem
/-! What a data-level program promises: plain rules. -/
def R.wp {α : Type} (r : R α) (P : α → Sto → Prop) (E : Str → Sto → Prop) : Prop :=
  match r with
  | .ok a S => P a S
  | .ex c S => E c S
  | .no => False
structure K where
  nx : En → Sto → Prop
  rt : D → Sto → Prop := fun _ _ => False
  bk : En → Sto → Prop := fun _ _ => False
  ct : En → Sto → Prop := fun _ _ => False
  ex : Str → Sto → Prop := fun _ _ => False
def F.wp (f : F) (N : K) : Prop :=
  match f with
  | .nx σ S => N.nx σ S
  | .rt d S => N.rt d S
  | .bk σ S => N.bk σ S
  | .ct σ S => N.ct σ S
  | .ex c S => N.ex c S
  | .no => False
abbrev noE : Str → Sto → Prop := fun _ _ => False
section
variable {α β : Type} {P : α → Sto → Prop} {E : Str → Sto → Prop} {N : K} {σ : En} {S : Sto}
@[simp ↓] theorem wp_ok (a : α) (S : Sto) : (R.ok a S).wp P E = P a S := id rfl
@[simp ↓] theorem wp_ex (c : Str) (S : Sto) : (R.ex c S : R α).wp P E = E c S := id rfl
@[simp ↓] theorem wp_no : (R.no : R α).wp P E = False := id rfl
@[simp ↓] theorem wp_nx : (F.nx σ S).wp N = N.nx σ S := id rfl
@[simp ↓] theorem wp_rt (d : D) : (F.rt d S).wp N = N.rt d S := id rfl
@[simp ↓] theorem wp_bk : (F.bk σ S).wp N = N.bk σ S := id rfl
@[simp ↓] theorem wp_ct : (F.ct σ S).wp N = N.ct σ S := id rfl
@[simp ↓] theorem wp_fex (c : Str) : (F.ex c S).wp N = N.ex c S := id rfl
@[simp ↓] theorem wp_fno : F.no.wp N = False := id rfl
@[simp ↓] theorem wp_bind (r : R β) (k : β → Sto → R α) : (r.bind k).wp P E = r.wp (fun a S => (k a S).wp P E) E := by cases r <;> rfl
@[simp ↓] theorem wp_run (r : R β) (k : β → Sto → F) : (r.run k).wp N = r.wp (fun a S => (k a S).wp N) N.ex := by cases r <;> rfl
theorem R.wp.mono {r : R α} {P' : α → Sto → Prop} {E' : Str → Sto → Prop} (h : r.wp P E) (hp : ∀ a S, P a S → P' a S) (he : ∀ c S, E c S → E' c S) : r.wp P' E' := by
  cases r with
  | ok a S => exact hp _ _ h
  | ex c S => exact he _ _ h
  | no => exact h
theorem R.wp.to {r : R α} {P' : α → Sto → Prop} (h : r.wp P noE) (hp : ∀ a S, P a S → P' a S) : r.wp P' E := h.mono hp fun _ _ h => h.elim
theorem R.wp.out {r : R α} (h : r.wp P noE) : ∃ a S, r = .ok a S ∧ P a S := by
  cases r with
  | ok a S => exact ⟨a, S, rfl, h⟩
  | ex c S => exact h.elim
  | no => exact h.elim
theorem F.wp.mono {f : F} {N' : K} (h : f.wp N) (h1 : ∀ σ S, N.nx σ S → N'.nx σ S) (h2 : ∀ d S, N.rt d S → N'.rt d S) (h3 : ∀ σ S, N.bk σ S → N'.bk σ S) (h4 : ∀ σ S, N.ct σ S → N'.ct σ S) (h5 : ∀ c S, N.ex c S → N'.ex c S) : f.wp N' := by
  cases f with
  | nx σ S => exact h1 _ _ h
  | rt d S => exact h2 _ _ h
  | bk σ S => exact h3 _ _ h
  | ct σ S => exact h4 _ _ h
  | ex c S => exact h5 _ _ h
  | no => exact h
/-! ### statements -/
@[simp ↓] theorem wp_seq (a b : Sx) : (seqS a b σ S).wp N = (a σ S).wp { N with nx := fun σ S => (b σ S).wp N } := by
  unfold seqS
  cases a σ S <;> rfl
@[simp ↓] theorem wp_pass : (passS σ S).wp N = N.nx σ S := id rfl
@[simp ↓] theorem wp_brk : (brkS σ S).wp N = N.bk σ S := id rfl
@[simp ↓] theorem wp_cnt : (cntS σ S).wp N = N.ct σ S := id rfl
@[simp ↓] theorem wp_asg (e : Ex) (g : Tg) : (asgS e g σ S).wp N = (e σ S).wp (fun d S1 => (g d σ S1).wp (fun σ2 S2 => N.nx σ2 S2) N.ex) N.ex := by
  unfold asgS
  rw [wp_run]
  congr 1
  funext d S1
  rw [wp_run]
  rfl
@[simp ↓] theorem wp_par (is : List Nat) (a : Ax) : (parS is a σ S).wp N = (a σ S).wp (fun ds S1 => N.nx (setAll is ds σ) S1) N.ex := by
  unfold parS
  rw [wp_run]
  rfl
@[simp ↓] theorem wp_expr (e : Ex) : (exprS e σ S).wp N = (e σ S).wp (fun _ S1 => N.nx σ S1) N.ex := by
  unfold exprS
  rw [wp_run]
  rfl
@[simp ↓] theorem wp_ret (e : Ex) : (retS e σ S).wp N = (e σ S).wp (fun d S1 => N.rt d S1) N.ex := by
  unfold retS
  rw [wp_run]
  rfl
@[simp ↓] theorem wp_if (c : Tx) (a b : Sx) : (ifS c a b σ S).wp N = (c σ S).wp (fun k S1 => (if k = true then a σ S1 else b σ S1).wp N) N.ex := by
  unfold ifS
  rw [wp_run]
theorem wp_ite {f g : F} {p : Prop} [Decidable p] : (if p then f else g).wp N = if p then f.wp N else g.wp N := by split <;> rfl
theorem wp_iteR {f g : R α} {p : Prop} [Decidable p] : (if p then f else g).wp P E = if p then f.wp P E else g.wp P E := by split <;> rfl
@[simp ↓] theorem wp_raise (c : Str) : (raiseS c σ S).wp N = N.ex c S := id rfl
@[simp ↓] theorem wp_for (it : It) (g : Tg) (b : Sx) : (forS it g b σ S).wp N = (it σ S).wp (fun xs S1 => (forL g b xs σ S1).wp N) N.ex := by
  unfold forS
  rw [wp_run]
/-- a walk: I of what has been walked -/
theorem wp_forL {g : Tg} {b : Sx} {xs : List D} (I : List D → En → Sto → Prop) (h0 : I [] σ S)
    (hs : ∀ pre x post σ S, xs = pre ++ x :: post → I pre σ S → (g x σ S).wp (fun σ1 S1 => (b σ1 S1).wp { N with nx := fun σ2 S2 => I (pre ++ [x]) σ2 S2, ct := fun σ2 S2 => I (pre ++ [x]) σ2 S2, bk := fun σ2 S2 => N.nx σ2 S2 }) N.ex)
    (he : ∀ σ S, I xs σ S → N.nx σ S) : (forL g b xs σ S).wp N := by
  have key : ∀ (post pre : List D) (σ : En) (S : Sto), xs = pre ++ post → I pre σ S → (forL g b post σ S).wp N := by
    intro post
    induction post with
    | nil =>
      intro pre σ S e h
      rw [List.append_nil] at e
      subst e
      exact he σ S h
    | cons x post ih =>
      intro pre σ S e h
      have z := hs pre x post σ S e h
      have e2 : xs = (pre ++ [x]) ++ post := by rw [e]; simp
      unfold forL
      cases hg : g x σ S with
      | ok σ1 S1 =>
        rw [hg] at z
        have z2 : (b σ1 S1).wp _ := z
        simp only
        cases hb : b σ1 S1 with
        | nx σ2 S2 => rw [hb] at z2; exact ih _ σ2 S2 e2 z2
        | ct σ2 S2 => rw [hb] at z2; exact ih _ σ2 S2 e2 z2
        | bk σ2 S2 => rw [hb] at z2; exact z2
        | rt d S2 => rw [hb] at z2; exact z2
        | ex c S2 => rw [hb] at z2; exact z2
        | no => rw [hb] at z2; exact z2
      | ex c S1 => rw [hg] at z; exact z
      | no => rw [hg] at z; exact z
  exact key xs [] σ S rfl h0
/-- a comprehension that may change the store: I of what has been walked and what has been made -/
theorem wp_lcL {g : Tg} {c : Tx} {e : Ex} {xs : List D} {P : List D → Sto → Prop} {E : Str → Sto → Prop} (I : List D → List D → Sto → Prop) (h0 : I [] [] S)
    (hs : ∀ pre x post acc S, xs = pre ++ x :: post → I pre acc S → (g x σ S).wp (fun σ1 S1 => (c σ1 S1).wp (fun k S2 => if k = true then (e σ1 S2).wp (fun d S3 => I (pre ++ [x]) (acc ++ [d]) S3) noE else I (pre ++ [x]) acc S2) noE) noE)
    (he : ∀ acc S, I xs acc S → P acc S) : (lcL g c e σ xs S).wp P E := by
  have key : ∀ (post pre acc : List D) (S : Sto), xs = pre ++ post → I pre acc S → (lcL g c e σ post S).wp (fun ds S' => I xs (acc ++ ds) S') E := by
    intro post
    induction post with
    | nil =>
      intro pre acc S e h
      rw [List.append_nil] at e
      subst e
      show I xs (acc ++ []) S
      rw [List.append_nil]
      exact h
    | cons x post ih =>
      intro pre acc S e1 h
      have z := hs pre x post acc S e1 h
      have e2 : xs = (pre ++ [x]) ++ post := by rw [e1]; simp
      unfold lcL
      cases hg : g x σ S with
      | ex c S1 => rw [hg] at z; exact z.elim
      | no => rw [hg] at z; exact z.elim
      | ok σ1 S1 =>
        rw [hg, wp_ok] at z
        simp only
        cases hc : c σ1 S1 with
        | ex c S1 => rw [hc] at z; exact z.elim
        | no => rw [hc] at z; exact z.elim
        | ok k S2 =>
          rw [hc, wp_ok] at z
          simp only
          cases k with
          | false =>
            simp only [Bool.false_eq_true, if_false] at z ⊢
            exact ih _ _ _ e2 z
          | true =>
            simp only [if_true] at z ⊢
            cases hd : e σ1 S2 with
            | ex c S1 => rw [hd] at z; exact z.elim
            | no => rw [hd] at z; exact z.elim
            | ok d S3 =>
              rw [hd, wp_ok] at z
              simp only
              rw [wp_bind]
              refine (ih _ _ _ e2 z).mono (fun ds S' h => ?_) fun _ _ h => h
              show I xs (acc ++ d :: ds) S'
              have : acc ++ d :: ds = acc ++ [d] ++ ds := by simp
              rw [this]
              exact h
  exact (key xs [] [] S rfl h0).mono (fun a S h => he _ _ h) fun _ _ h => h
/-! ### expressions -/
@[simp ↓] theorem wp_cons (e : Ex) (r : Ax) {P : List D → Sto → Prop} : (consA e r σ S).wp P E = (e σ S).wp (fun d S1 => (r σ S1).wp (fun ds S2 => P (d :: ds) S2) E) E := by
  unfold consA
  rw [wp_bind]
  congr 1
  funext d S1
  rw [wp_bind]
  rfl
@[simp ↓] theorem wp_nil {P : List D → Sto → Prop} : (nilA σ S).wp P E = P [] S := id rfl
@[simp ↓] theorem wp_c (d : PyData) {P : D → Sto → Prop} : (cE d σ S).wp P E = P (.py d) S := id rfl
@[simp ↓] theorem wp_op (g : D → D → Sto → R D) (a b : Ex) {P : D → Sto → Prop} : (opE g a b σ S).wp P E = (a σ S).wp (fun x S1 => (b σ S1).wp (fun y S2 => (g x y S2).wp P E) E) E := by
  unfold opE
  rw [wp_bind]
  congr 1
  funext d S1
  rw [wp_bind]
@[simp ↓] theorem wp_op1 (g : D → Sto → R D) (a : Ex) {P : D → Sto → Prop} : (op1 g a σ S).wp P E = (a σ S).wp (fun x S1 => (g x S1).wp P E) E := by
  unfold op1
  rw [wp_bind]
@[simp ↓] theorem wp_call (g : List D → Sto → R D) (a : Ax) {P : D → Sto → Prop} : (callE g a σ S).wp P E = (a σ S).wp (fun ds S1 => (g ds S1).wp P E) E := by
  unfold callE
  rw [wp_bind]
@[simp ↓] theorem wp_callL (g : List D → Sto → R (List D)) (a : Ax) {P : List D → Sto → Prop} : (callL g a σ S).wp P E = (a σ S).wp (fun ds S1 => (g ds S1).wp P E) E := by
  unfold callL
  rw [wp_bind]
@[simp ↓] theorem wp_methL (g : D → List D → Sto → R D) (o : Ex) (a : Ax) {P : D → Sto → Prop} : (methL g o a σ S).wp P E = (o σ S).wp (fun x S1 => if lsOk S1 x = true then (a σ S1).wp (fun ds S2 => (g x ds S2).wp P E) E else False) E := by
  unfold methL
  rw [wp_bind]
  congr 1
  funext d S1
  rw [wp_iteR, wp_bind]
  rfl
@[simp ↓] theorem wp_tup (a : Ax) {P : D → Sto → Prop} : (tupE a σ S).wp P E = (a σ S).wp (fun ds S1 => match pysOf ds with
  | some ps => P (.py (.tuple ps)) S1
  | none => False) E := by
  unfold tupE
  rw [wp_bind]
  congr 1
  funext d S1
  cases pysOf d <;> rfl
@[simp ↓] theorem wp_frz (a : Ax) {P : D → Sto → Prop} : (frzE a σ S).wp P E = (a σ S).wp (fun ds S1 => match pysOf ds with
  | some ps => P (.py (.list ps)) S1
  | none => False) E := by
  unfold frzE frz
  rw [wp_bind]
  congr 1
  funext d S1
  cases pysOf d <;> rfl
@[simp ↓] theorem wp_thw (a : Ax) {P : D → Sto → Prop} : (thwE a σ S).wp P E = (a σ S).wp (fun ds S1 => P (.obj S1.length) (S1 ++ [.lst ds])) E := by
  unfold thwE thw
  rw [wp_bind]
  rfl
@[simp ↓] theorem wp_lcX (it : It) (vs : List Nat) (g : Tg) (c : Tx) (e : Ex) {P : List D → Sto → Prop} : (lcX it vs g c e σ S).wp P E = (it σ S).wp (fun xs S1 => (lcL g c e (wipeD σ vs) xs S1).wp P E) E := by
  unfold lcX
  rw [wp_bind]
@[simp ↓] theorem wp_val (a : Ex) {P : Bool → Sto → Prop} : (valT a σ S).wp P E = (a σ S).wp (fun x S1 => ∃ k, x = .py (.bool k) ∧ P k S1) E := by
  unfold valT
  rw [wp_bind]
  congr 1
  funext d S1
  split
  · exact propext ⟨fun h => ⟨_, rfl, h⟩, fun ⟨k, e, h⟩ => by cases e; exact h⟩
  · rename_i hn
    exact propext ⟨fun h => h.elim, fun ⟨k, e, h⟩ => (hn k e).elim⟩
@[simp ↓] theorem wp_andT (a b : Tx) {P : Bool → Sto → Prop} : (andT a b σ S).wp P E = (a σ S).wp (fun k S1 => if k = true then (b σ S1).wp P E else P false S1) E := by
  unfold andT
  rw [wp_bind]
  congr 1
  funext d S1
  split <;> rfl
@[simp ↓] theorem wp_orT (a b : Tx) {P : Bool → Sto → Prop} : (orT a b σ S).wp P E = (a σ S).wp (fun k S1 => if k = true then P true S1 else (b σ S1).wp P E) E := by
  unfold orT
  rw [wp_bind]
  congr 1
  funext d S1
  split <;> rfl
@[simp ↓] theorem wp_notT (a : Tx) {P : Bool → Sto → Prop} : (notT a σ S).wp P E = (a σ S).wp (fun k S1 => P (!k) S1) E := by
  unfold notT
  rw [wp_bind]
  rfl
@[simp ↓] theorem wp_yes {P : Bool → Sto → Prop} : (yesT σ S).wp P E = P true S := id rfl
@[simp ↓] theorem wp_ifE (c : Tx) (a b : Ex) {P : D → Sto → Prop} : (ifE c a b σ S).wp P E = (c σ S).wp (fun k S1 => if k = true then (a σ S1).wp P E else (b σ S1).wp P E) E := by
  unfold ifE
  rw [wp_bind]
  congr 1
  funext d S1
  split <;> rfl
@[simp] theorem var_zero (d : D) (r : En) : varE 0 (some d :: r) S = .ok d S := id rfl
@[simp] theorem var_succ (i : Nat) (x : Option D) (r : En) : varE (i + 1) (x :: r) S = varE i r S := id rfl
@[simp ↓] theorem wp_nm (i : Nat) (d : D) {P : En → Sto → Prop} : (nmG i d σ S).wp P E = P (σ.set i (some d)) S := id rfl
@[simp ↓] theorem wp_tupG (n : Nat) (r : List D → En → Sto → R En) (ps : List PyData) {P : En → Sto → Prop} : (tupG n r (.py (.tuple ps)) σ S).wp P E = if ps.length = n then (r (ps.map .py) σ S).wp P E else False := by
  unfold tupG
  rw [wp_iteR]
  rfl
@[simp ↓] theorem wp_consG (g : Tg) (r : List D → En → Sto → R En) (d : D) (ds : List D) {P : En → Sto → Prop} : (consG g r (d :: ds) σ S).wp P E = (g d σ S).wp (fun σ1 S1 => (r ds σ1 S1).wp P E) E := by
  unfold consG
  rw [wp_bind]
@[simp ↓] theorem wp_nilG {P : En → Sto → Prop} : (nilG [] σ S).wp P E = P σ S := id rfl
def seqD : D → Option (List PyData)
  | .py (.list ds) => some ds
  | .py (.tuple ds) => some ds
  | _ => none
@[simp] theorem seqD_list (ds : List PyData) : seqD (.py (.list ds)) = some ds := id rfl
@[simp] theorem seqD_tuple (ds : List PyData) : seqD (.py (.tuple ds)) = some ds := id rfl
@[simp ↓] theorem wp_seqI (e : Ex) {P : List D → Sto → Prop} : (seqI e σ S).wp P E = (e σ S).wp (fun d S1 => ∃ ds, seqD d = some ds ∧ P (ds.map .py) S1) E := by
  unfold seqI
  rw [wp_bind]
  congr 1
  funext d S1
  rcases d with d | n | n
  · cases d
    case list ds => exact propext ⟨fun h => ⟨ds, rfl, h⟩, fun ⟨_, e, h⟩ => by cases e; exact h⟩
    case tuple ds => exact propext ⟨fun h => ⟨ds, rfl, h⟩, fun ⟨_, e, h⟩ => by cases e; exact h⟩
    all_goals exact propext ⟨fun h => h.elim, fun ⟨_, e, _⟩ => by cases e⟩
  · exact propext ⟨fun h => h.elim, fun ⟨_, e, _⟩ => by cases e⟩
  · exact propext ⟨fun h => h.elim, fun ⟨_, e, _⟩ => by cases e⟩
@[simp ↓] theorem wp_rng1 (e : Ex) {P : List D → Sto → Prop} : (rng1I e σ S).wp P E = (e σ S).wp (fun d S1 => ∃ j, d = .py (.int j) ∧ (-(2 ^ 62) ≤ j ∧ j ≤ 16777216) ∧ P (rngV 0 j.toNat) S1) E := by
  unfold rng1I
  rw [wp_bind]
  congr 1
  funext d S1
  split
  · rw [wp_iteR]
    split
    · rename_i h
      exact propext ⟨fun p => ⟨_, rfl, h, p⟩, fun ⟨j, e, _, p⟩ => by cases e; exact p⟩
    · rename_i h
      exact propext ⟨fun p => p.elim, fun ⟨j, e, h', p⟩ => by cases e; exact h h'⟩
  · rename_i hn
    exact propext ⟨fun h => h.elim, fun ⟨k, e, _, h⟩ => (hn k e).elim⟩
@[simp ↓] theorem wp_zip (a b : Ex) {P : List D → Sto → Prop} : (zipI a b σ S).wp P E = (a σ S).wp (fun x S1 => (b σ S1).wp (fun y S2 => ∃ xs ys, pyWalk S2 x = some xs ∧ pyWalk S2 y = some ys ∧ P ((xs.zip ys).map fun p => D.py (.tuple [p.1, p.2])) S2) E) E := by
  unfold zipI
  rw [wp_bind]
  congr 1
  funext d S1
  rw [wp_bind]
  congr 1
  funext d2 S2
  split
  · rename_i h1 h2
    exact propext ⟨fun p => ⟨_, _, h1, h2, p⟩, fun ⟨_, _, e1, e2, p⟩ => by rw [h1] at e1; rw [h2] at e2; cases e1; cases e2; exact p⟩
  · rename_i hn
    exact propext ⟨fun h => h.elim, fun ⟨_, _, e1, e2, _⟩ => (hn _ _ e1 e2).elim⟩
/-! ### operators upon known values -/
section
variable {i j : Int} {S : Sto}
@[simp] theorem addD_int : addD (.py (.int i)) (.py (.int j)) S = .ok (.py (.int (i + j))) S := id rfl
@[simp] theorem subD_int : subD (.py (.int i)) (.py (.int j)) S = .ok (.py (.int (i - j))) S := id rfl
@[simp] theorem mulD_l (h : -(2 ^ 64) < i ∧ i < 2 ^ 64) : mulD (.py (.int i)) (.py (.int j)) S = .ok (.py (.int (i * j))) S := if_pos (.inl h)
@[simp] theorem mulD_r (h : -(2 ^ 64) < j ∧ j < 2 ^ 64) : mulD (.py (.int i)) (.py (.int j)) S = .ok (.py (.int (i * j))) S := if_pos (.inr h)
@[simp] theorem fdivD_int (h : 0 < j ∧ j < 1073741824) : fdivD (.py (.int i)) (.py (.int j)) S = .ok (.py (.int (i / j))) S := if_pos h
@[simp] theorem modD_int (h : 0 < j) : modD (.py (.int i)) (.py (.int j)) S = .ok (.py (.int (i % j))) S := if_pos h
@[simp] theorem divmodD_int (h : 0 < j ∧ j < 1073741824) : divmodD [.py (.int i), .py (.int j)] S = .ok (.py (.tuple [.int (i / j), .int (i % j)])) S := if_pos h
@[simp] theorem negD_int : negD (.py (.int i)) S = .ok (.py (.int (-i))) S := id rfl
@[simp] theorem eqD_int : eqD (.py (.int i)) (.py (.int j)) S = .ok (.py (.bool (decide (i = j)))) S := id rfl
@[simp] theorem neD_int : neD (.py (.int i)) (.py (.int j)) S = .ok (.py (.bool (!decide (i = j)))) S := id rfl
@[simp] theorem eqD_str {x y : Str} : eqD (.py (.str x)) (.py (.str y)) S = .ok (.py (.bool (decide (x = y)))) S := id rfl
@[simp] theorem neD_str {x y : Str} : neD (.py (.str x)) (.py (.str y)) S = .ok (.py (.bool (!decide (x = y)))) S := id rfl
@[simp] theorem ltD_int : ltD (.py (.int i)) (.py (.int j)) S = .ok (.py (.bool (decide (i < j)))) S := id rfl
@[simp] theorem cmpI_int {p : Int → Int → Bool} : cmpI p (.py (.int i)) (.py (.int j)) S = .ok (.py (.bool (p i j))) S := id rfl
@[simp] theorem lenD_list {ds : List PyData} : lenD [.py (.list ds)] S = .ok (.py (.int (ds.length : Nat))) S := by simp [lenD, seqOf]
@[simp] theorem lenD_tuple {ds : List PyData} : lenD [.py (.tuple ds)] S = .ok (.py (.int (ds.length : Nat))) S := by simp [lenD, seqOf]
theorem lenD_obj {n : Nat} {ds : List D} (h : S[n]? = some (.lst ds)) : lenD [.obj n] S = .ok (.py (.int (ds.length : Nat))) S := by simp [lenD, seqOf, h]
@[simp] theorem tupleD_list {ds : List PyData} : tupleD [.py (.list ds)] S = .ok (.py (.tuple ds)) S := by simp [tupleD, seqOf]
theorem tupleD_obj {n : Nat} {ds : List PyData} (h : S[n]? = some (.lst (ds.map .py))) : tupleD [.obj n] S = .ok (.py (.tuple ds)) S := by simp [tupleD, seqOf, h]
@[simp] theorem listD_list {ds : List PyData} : listD [.py (.list ds)] S = .ok (ds.map .py) S := by simp [listD, seqOf]
@[simp] theorem max2D_int : max2D [.py (.int i), .py (.int j)] S = .ok (.py (.int (if j > i then j else i))) S := id rfl
@[simp] theorem min2D_int : min2D [.py (.int i), .py (.int j)] S = .ok (.py (.int (if j < i then j else i))) S := id rfl
@[simp] theorem absD_int : absD [.py (.int i)] S = .ok (.py (.int (if i < 0 then -i else i))) S := id rfl
theorem atI_nat {α : Type} {xs : List α} (k : Nat) (x : α) (h : xs[k]? = some x) : L2.atI xs (k : Int) = some x := L2.atI_nat h
theorem itemD_list {ds : List PyData} (k : Nat) {d : PyData} (h : ds[k]? = some d) : itemD (.py (.list ds)) (.py (.int k)) S = .ok (.py d) S := by
  simp [itemD, seqOf, atI_nat k (D.py d) (xs := ds.map .py) (by simp [h])]
theorem itemD_tuple {ds : List PyData} (k : Nat) {d : PyData} (h : ds[k]? = some d) : itemD (.py (.tuple ds)) (.py (.int k)) S = .ok (.py d) S := by
  simp [itemD, seqOf, atI_nat k (D.py d) (xs := ds.map .py) (by simp [h])]
theorem itemD_obj {n : Nat} {ds : List D} (hn : S[n]? = some (.lst ds)) (k : Nat) {d : D} (h : ds[k]? = some d) : itemD (.obj n) (.py (.int k)) S = .ok d S := by
  simp [itemD, seqOf, hn, atI_nat k d h]
@[simp] theorem itemD_l0 {a : PyData} {r : List PyData} : itemD (.py (.list (a :: r))) (.py (.int 0)) S = .ok (.py a) S := itemD_list 0 rfl
@[simp] theorem itemD_l1 {a b : PyData} {r : List PyData} : itemD (.py (.list (a :: b :: r))) (.py (.int 1)) S = .ok (.py b) S := itemD_list 1 rfl
@[simp] theorem itemD_t0 {a : PyData} {r : List PyData} : itemD (.py (.tuple (a :: r))) (.py (.int 0)) S = .ok (.py a) S := itemD_tuple 0 rfl
@[simp] theorem itemD_t1 {a b : PyData} {r : List PyData} : itemD (.py (.tuple (a :: b :: r))) (.py (.int 1)) S = .ok (.py b) S := itemD_tuple 1 rfl
@[simp] theorem itemD_t2 {a b c : PyData} {r : List PyData} : itemD (.py (.tuple (a :: b :: c :: r))) (.py (.int 2)) S = .ok (.py c) S := itemD_tuple 2 rfl
theorem appendD_obj {n : Nat} {ds : List D} {d : D} (h : S[n]? = some (.lst ds)) (hl : ds.length < sizeLine) : appendD (.obj n) [d] S = .ok (.py .none) (S.set n (.lst (ds ++ [d]))) := by simp [appendD, h, hl]
@[simp] theorem lsOk_list {ds : List PyData} : lsOk S (.py (.list ds)) = true := id rfl
theorem lsOk_obj {n : Nat} {ds : List D} (h : S[n]? = some (.lst ds)) : lsOk S (.obj n) = true := by simp [lsOk, h]
@[simp] theorem pw_list {ds : List PyData} : pyWalk S (.py (.list ds)) = some ds := id rfl
@[simp] theorem pw_tuple {ds : List PyData} : pyWalk S (.py (.tuple ds)) = some ds := id rfl
end
@[simp] theorem pysOf_comp {α : Type} (f : α → PyData) (l : List α) : pysOf (l.map (D.py ∘ f)) = some (l.map f) := by
  rw [← List.map_map, pysOf_map]
@[simp] theorem pysOf_fun {α : Type} (f : α → PyData) (l : List α) : pysOf (l.map fun x => D.py (f x)) = some (l.map f) := pysOf_comp f l
theorem listD_str {x : Str} {S : Sto} (h : x.length ≤ sizeLine) : listD [.py (.str x)] S = .ok (x.cps.toList.map fun c => D.py (.str ⟨#[c]⟩)) S := if_pos h
@[simp] theorem setAll_nil (ds : List D) (σ : En) : setAll [] ds σ = σ := id rfl
@[simp] theorem setAll_cons (i : Nat) (is : List Nat) (d : D) (ds : List D) (σ : En) : setAll (i :: is) (d :: ds) σ = setAll is ds (σ.set i (some d)) := id rfl
@[simp] theorem wipe_nil (σ : En) : wipeD σ [] = σ := id rfl
@[simp] theorem wipe_cons (σ : En) (v : Nat) (vs : List Nat) : wipeD σ (v :: vs) = (wipeD σ vs).set v none := id rfl
theorem popD_at {n : Nat} {ds : List D} {i : Int} {d : D} {S : Sto} (h : S[n]? = some (.lst ds)) (hi : 0 ≤ i ∧ i < 2 ^ 62) (hd : ds[i.toNat]? = some d) : popD (.obj n) [.py (.int i)] S = .ok d (S.set n (.lst (ds.eraseIdx i.toNat))) := by
  simp only [popD, h, hd]
  rw [if_pos hi]
theorem wp_eq {α : Type} {r : R α} {v : α} {S : Sto} (h : r.wp (fun a T => a = v ∧ T = S) noE) : r = .ok v S := by
  obtain ⟨a, T, e, rfl, rfl⟩ := h.out
  exact e
theorem wp_of {α : Type} {r : R α} {v : α} {S : Sto} {P : α → Sto → Prop} {E : Str → Sto → Prop} (h : r = .ok v S) (q : P v S) : r.wp P E := by rw [h]; exact q
theorem slot_any {σ l : En} {i : Nat} (h : σ.set i none = l) : ∃ y, σ = l.set i y := by
  subst h
  by_cases hi : i < σ.length
  · refine ⟨σ[i], ?_⟩
    rw [List.set_set, List.set_getElem_self]
  · exact ⟨none, by rw [List.set_set, List.set_eq_of_length_le (by omega)]⟩
theorem itemD_listI {ds : List PyData} {i : Int} {d : PyData} {S : Sto} (h0 : 0 ≤ i) (h : ds[i.toNat]? = some d) : itemD (.py (.list ds)) (.py (.int i)) S = .ok (.py d) S := by
  obtain ⟨k, rfl⟩ : ∃ k : Nat, i = k := ⟨i.toNat, by omega⟩
  exact itemD_list k h
theorem itemD_tupleI {ds : List PyData} {i : Int} {d : PyData} {S : Sto} (h0 : 0 ≤ i) (h : ds[i.toNat]? = some d) : itemD (.py (.tuple ds)) (.py (.int i)) S = .ok (.py d) S := by
  obtain ⟨k, rfl⟩ : ∃ k : Nat, i = k := ⟨i.toNat, by omega⟩
  exact itemD_tuple k h
/-! ### an item is set -/
def ixP (x k d : D) (σ : En) (S2 : Sto) : R En := match x, k with
  | .obj n, .py (.int k) => (match S2[n]? with
    | some (.lst ds) => (match L2.ixN ds.length k with
      | some j => .ok σ (S2.set n (.lst (ds.set j d)))
      | none => .no)
    | _ => .no)
  | _, _ => .no
@[simp ↓] theorem wp_ix (o i : Ex) (d : D) {σ : En} {S : Sto} {P : En → Sto → Prop} {E : Str → Sto → Prop} : (ixG o i d σ S).wp P E = (o σ S).wp (fun x S1 => (i σ S1).wp (fun k S2 => (ixP x k d σ S2).wp P E) E) E := by
  unfold ixG
  rw [wp_bind]
  congr 1
  funext x S1
  rw [wp_bind]
  rfl
theorem ixP_obj {n k : Nat} {ds : List D} {d : D} {σ : En} {S : Sto} (h : S[n]? = some (.lst ds)) (hk : k < ds.length) : ixP (.obj n) (.py (.int k)) d σ S = .ok σ (S.set n (.lst (ds.set k d))) := by
  have : L2.ixN ds.length (k : Int) = some k := by simp [L2.ixN]; omega
  simp [ixP, h, this]
theorem ixP_0 {n : Nat} {a : D} {ds : List D} {d : D} {σ : En} {S : Sto} (h : S[n]? = some (.lst (a :: ds))) : ixP (.obj n) (.py (.int 0)) d σ S = .ok σ (S.set n (.lst (d :: ds))) := ixP_obj (k := 0) h (by simp)
theorem ixP_1 {n : Nat} {a b : D} {ds : List D} {d : D} {σ : En} {S : Sto} (h : S[n]? = some (.lst (a :: b :: ds))) : ixP (.obj n) (.py (.int 1)) d σ S = .ok σ (S.set n (.lst (a :: d :: ds))) := ixP_obj (k := 1) h (by simp)
theorem wp_mid {f : Sx} {σ : En} {S : Sto} {N : K} (Mid : En → En → Sto → Prop) (h : (f σ S).wp { N with nx := Mid σ }) (q : ∀ σ' S', Mid σ σ' S' → N.nx σ' S') : (f σ S).wp N :=
  F.wp.mono h q (fun _ _ h => h) (fun _ _ h => h) (fun _ _ h => h) fun _ _ h => h
@[simp] theorem exists_bool {P : Bool → Prop} {d : Bool} : (∃ k, D.py (.bool d) = D.py (.bool k) ∧ P k) = P d := propext ⟨fun ⟨k, e, h⟩ => by cases e; exact h, fun h => ⟨d, rfl, h⟩⟩
@[simp ↓] theorem wp_zip3 (a b c : Ex) {σ : En} {S : Sto} {P : List D → Sto → Prop} {E : Str → Sto → Prop} : (zip3I a b c σ S).wp P E = (a σ S).wp (fun x S1 => (b σ S1).wp (fun y S2 => (c σ S2).wp (fun z S3 => ∃ xs ys zs, pyWalk S3 x = some xs ∧ pyWalk S3 y = some ys ∧ pyWalk S3 z = some zs ∧ P ((xs.zip (ys.zip zs)).map fun p => D.py (.tuple [p.1, p.2.1, p.2.2])) S3) E) E) E := by
  unfold zip3I
  rw [wp_bind]
  congr 1
  funext d S1
  rw [wp_bind]
  congr 1
  funext d2 S2
  rw [wp_bind]
  congr 1
  funext d3 S3
  split
  · rename_i h1 h2 h3
    exact propext ⟨fun p => ⟨_, _, _, h1, h2, h3, p⟩, fun ⟨_, _, _, e1, e2, e3, p⟩ => by rw [h1] at e1; rw [h2] at e2; rw [h3] at e3; cases e1; cases e2; cases e3; exact p⟩
  · rename_i hn
    exact propext ⟨fun h => h.elim, fun ⟨_, _, _, e1, e2, e3, _⟩ => (hn _ _ _ e1 e2 e3).elim⟩
@[simp] theorem zip3_mmm {α β γ : Type} (f : α → PyData) (g : β → PyData) (h : γ → PyData) (xs : List α) (ys : List β) (zs : List γ) : ((xs.map f).zip ((ys.map g).zip (zs.map h))).map (fun p => D.py (.tuple [p.1, p.2.1, p.2.2])) = (xs.zip (ys.zip zs)).map fun p => D.py (.tuple [f p.1, g p.2.1, h p.2.2]) := by
  rw [List.zip_map, List.zip_map, List.map_map]
  rfl
@[simp ↓] theorem wp_forL_nil {g : Tg} {b : Sx} {σ : En} {S : Sto} {N : K} : (forL g b [] σ S).wp N = N.nx σ S := id rfl
@[simp ↓] theorem wp_forL_cons {g : Tg} {b : Sx} {σ : En} {S : Sto} {N : K} {x : D} {xs : List D} : (forL g b (x :: xs) σ S).wp N =
    (g x σ S).wp (fun σ1 S1 => (b σ1 S1).wp { N with nx := fun σ2 S2 => (forL g b xs σ2 S2).wp N, ct := fun σ2 S2 => (forL g b xs σ2 S2).wp N, bk := fun σ2 S2 => N.nx σ2 S2 }) N.ex := by
  rw [forL]
  cases g x σ S with
  | ok σ1 S1 =>
    simp only [wp_ok]
    cases b σ1 S1 <;> rfl
  | ex c S1 => rfl
  | no => rfl
@[simp ↓] theorem wp_enum (a : Ex) {σ : En} {S : Sto} {P : List D → Sto → Prop} {E : Str → Sto → Prop} : (enumI a σ S).wp P E = (a σ S).wp (fun x S1 => ∃ xs, pyWalk S1 x = some xs ∧ P (xs.zipIdx.map fun p => D.py (.tuple [.int (p.2 : Nat), p.1])) S1) E := by
  unfold enumI
  rw [wp_bind]
  congr 1
  funext d S1
  split
  · rename_i h1
    exact propext ⟨fun p => ⟨_, h1, p⟩, fun ⟨_, e1, p⟩ => by rw [h1] at e1; cases e1; exact p⟩
  · rename_i hn
    exact propext ⟨fun h => h.elim, fun ⟨_, e1, _⟩ => by rw [hn] at e1; cases e1⟩
@[simp] theorem enum_m {α : Type} (f : α → PyData) (xs : List α) : ((xs.map f).zipIdx).map (fun p => D.py (.tuple [.int (p.2 : Nat), p.1])) = xs.zipIdx.map fun p => D.py (.tuple [.int (p.2 : Nat), f p.1]) := by
  rw [List.zipIdx_map, List.map_map]
  rfl
section
variable {a b c : Ex} {σ : En} {S : Sto} {P : D → Sto → Prop} {E : Str → Sto → Prop}
@[simp ↓] theorem wp_andE : (andE a b σ S).wp P E = (a σ S).wp (fun x S1 => ∃ k, x = .py (.bool k) ∧ if k = true then (b σ S1).wp P E else P (.py (.bool false)) S1) E := by
  unfold andE
  rw [wp_bind]
  congr 1
  funext x S1
  rcases x with d | n | n
  · cases d
    case bool k => cases k <;> exact propext ⟨fun h => ⟨_, rfl, by simpa using h⟩, fun ⟨k, e, h⟩ => by cases e; simpa using h⟩
    all_goals exact propext ⟨fun h => h.elim, fun ⟨k, e, _⟩ => by cases e⟩
  · exact propext ⟨fun h => h.elim, fun ⟨k, e, _⟩ => by cases e⟩
  · exact propext ⟨fun h => h.elim, fun ⟨k, e, _⟩ => by cases e⟩
@[simp ↓] theorem wp_orE : (orE a b σ S).wp P E = (a σ S).wp (fun x S1 => ∃ k, x = .py (.bool k) ∧ if k = true then P (.py (.bool true)) S1 else (b σ S1).wp P E) E := by
  unfold orE
  rw [wp_bind]
  congr 1
  funext x S1
  rcases x with d | n | n
  · cases d
    case bool k => cases k <;> exact propext ⟨fun h => ⟨_, rfl, by simpa using h⟩, fun ⟨k, e, h⟩ => by cases e; simpa using h⟩
    all_goals exact propext ⟨fun h => h.elim, fun ⟨k, e, _⟩ => by cases e⟩
  · exact propext ⟨fun h => h.elim, fun ⟨k, e, _⟩ => by cases e⟩
  · exact propext ⟨fun h => h.elim, fun ⟨k, e, _⟩ => by cases e⟩
@[simp ↓] theorem wp_notE : (notE a σ S).wp P E = (a σ S).wp (fun x S1 => ∃ k, x = .py (.bool k) ∧ P (.py (.bool (!k))) S1) E := by
  unfold notE
  rw [wp_bind]
  congr 1
  funext x S1
  split
  · exact propext ⟨fun h => ⟨_, rfl, h⟩, fun ⟨k, e, h⟩ => by cases e; exact h⟩
  · rename_i hn
    exact propext ⟨fun h => h.elim, fun ⟨k, e, _⟩ => (hn k e).elim⟩
@[simp ↓] theorem wp_chain {g g' : D → D → Sto → R D} : (chainE g g' a b c σ S).wp P E = (a σ S).wp (fun x S1 => (b σ S1).wp (fun y S2 => (g x y S2).wp (fun z S3 => ∃ k, z = .py (.bool k) ∧ if k = true then (c σ S3).wp (fun w S4 => (g' y w S4).wp P E) E else P (.py (.bool false)) S3) E) E) E := by
  unfold chainE
  rw [wp_bind]
  congr 1
  funext x S1
  rw [wp_bind]
  congr 1
  funext y S2
  rw [wp_bind]
  congr 1
  funext z S3
  rcases z with d | n | n
  · cases d
    case bool k => cases k <;> exact propext ⟨fun h => ⟨_, rfl, by simpa [wp_bind] using h⟩, fun ⟨k, e, h⟩ => by cases e; simpa [wp_bind] using h⟩
    all_goals exact propext ⟨fun h => h.elim, fun ⟨k, e, _⟩ => by cases e⟩
  · exact propext ⟨fun h => h.elim, fun ⟨k, e, _⟩ => by cases e⟩
  · exact propext ⟨fun h => h.elim, fun ⟨k, e, _⟩ => by cases e⟩
@[simp] theorem isiD_none {T : String} : isiD T (.py .none) S = .ok (.py (.bool (isB "NoneType" T))) S := id rfl
@[simp] theorem isiD_bool {T : String} {k : Bool} : isiD T (.py (.bool k)) S = .ok (.py (.bool (isB "bool" T))) S := id rfl
@[simp] theorem isiD_int {T : String} {i : Int} : isiD T (.py (.int i)) S = .ok (.py (.bool (isB "int" T))) S := id rfl
@[simp] theorem isiD_str {T : String} {x : Str} : isiD T (.py (.str x)) S = .ok (.py (.bool (isB "str" T))) S := id rfl
@[simp] theorem isiD_list {T : String} {x : List PyData} : isiD T (.py (.list x)) S = .ok (.py (.bool (isB "list" T))) S := id rfl
@[simp] theorem isiD_tuple {T : String} {x : List PyData} : isiD T (.py (.tuple x)) S = .ok (.py (.bool (isB "tuple" T))) S := id rfl
@[simp] theorem isNon_int {i : Int} : isNon (.int i) = false := id rfl
@[simp] theorem isNon_none : isNon .none = true := id rfl
@[simp] theorem isND_py {d : PyData} : isND (.py d) (.py .none) S = .ok (.py (.bool (isNon d))) S := id rfl
@[simp] theorem notND_py {d : PyData} : notND (.py d) (.py .none) S = .ok (.py (.bool (!isNon d))) S := id rfl
theorem boolsOf_map : ∀ bs : List Bool, boolsOf (bs.map .bool) = some bs
  | [] => rfl
  | b :: bs => by
    show (boolsOf (bs.map .bool)).map (b :: ·) = _
    rw [boolsOf_map bs]
    rfl
theorem intsOf_map : ∀ bs : List Int, intsOf (bs.map .int) = some bs
  | [] => rfl
  | b :: bs => by
    show (intsOf (bs.map .int)).map (b :: ·) = _
    rw [intsOf_map bs]
    rfl
@[simp] theorem allD_bools {bs : List Bool} : allD [.py (.list (bs.map .bool))] S = .ok (.py (.bool (bs.all id))) S := by simp only [allD, boolsOf_map]
@[simp] theorem anyD_bools {bs : List Bool} : anyD [.py (.list (bs.map .bool))] S = .ok (.py (.bool (bs.any id))) S := by simp only [anyD, boolsOf_map]
@[simp] theorem sumD_ints {bs : List Int} : sumD [.py (.list (bs.map .int))] S = .ok (.py (.int bs.sum)) S := by simp only [sumD, intsOf_map]
end
/-! ### the last list of the store -/
section
variable {S : Sto} {o o' : O} {ds : List D} {d : D} {σ : En}
@[simp] theorem last_get : (S ++ [o])[S.length]? = some o := by simp
@[simp] theorem last_set : (S ++ [o]).set S.length o' = S ++ [o'] := by simp [List.set_append_right]
theorem appendD_last (h : ds.length < sizeLine) : appendD (.obj S.length) [d] (S ++ [.lst ds]) = .ok (.py .none) (S ++ [.lst (ds ++ [d])]) := by
  rw [appendD_obj last_get h, last_set]
@[simp] theorem lsOk_last : lsOk (S ++ [.lst ds]) (.obj S.length) = true := lsOk_obj last_get
theorem tupleD_last {ps : List PyData} : tupleD [.obj S.length] (S ++ [.lst (ps.map .py)]) = .ok (.py (.tuple ps)) (S ++ [.lst (ps.map .py)]) := tupleD_obj last_get
theorem fix_last {i : Nat} {ps : List PyData} {N : K} (hi : σ[i]? = some (some (.obj S.length))) (q : N.nx (σ.set i (some (.py (.list ps)))) (S ++ [.gone])) : (fixS i σ (S ++ [.lst (ps.map .py)])).wp N := by
  unfold fixS
  simp only [hi, last_get, pysOf_map, last_set]
  exact q
/-- S and one list more -/
def stL (S : Sto) (ds : List PyData) : Sto := S ++ [.lst (ds.map .py)]
theorem stL_nil : S ++ [.lst []] = stL S [] := rfl
@[simp] theorem stL_get {ds : List PyData} : (stL S ds)[S.length]? = some (.lst (ds.map .py)) := last_get
@[simp] theorem stL_lsOk {ds : List PyData} : lsOk (stL S ds) (.obj S.length) = true := lsOk_last
theorem stL_app {ds : List PyData} {d : PyData} (h : ds.length < sizeLine) : appendD (.obj S.length) [.py d] (stL S ds) = .ok (.py .none) (stL S (ds ++ [d])) := by
  unfold stL
  rw [appendD_last (by simpa using h)]
  simp
@[simp] theorem stL_tuple {ds : List PyData} : tupleD [.obj S.length] (stL S ds) = .ok (.py (.tuple ds)) (stL S ds) := tupleD_last
@[simp] theorem stL_len {ds : List PyData} : lenD [.obj S.length] (stL S ds) = .ok (.py (.int (ds.length : Nat))) (stL S ds) := by rw [lenD_obj stL_get, List.length_map]
theorem stL_fix {i : Nat} {ps : List PyData} {N : K} (hi : σ[i]? = some (some (.obj S.length))) (q : N.nx (σ.set i (some (.py (.list ps)))) (S ++ [.gone])) : (fixS i σ (stL S ps)).wp N := fix_last hi q
@[simp] theorem stL_length {ds : List PyData} : (stL S ds).length = S.length + 1 := by simp [stL]
def lstAt (S : Sto) (n : Nat) : Option (List D) := match S[n]? with
  | some (.lst ds) => some ds
  | _ => none
theorem lstAt_of {n : Nat} (h : S[n]? = some (.lst ds)) : lstAt S n = some ds := by simp [lstAt, h]
theorem lstAt_get {n : Nat} (h : lstAt S n = some ds) : S[n]? = some (.lst ds) := by
  unfold lstAt at h
  split at h
  · rename_i ds' e
    cases h
    exact e
  · cases h
@[simp] theorem stL_lstAt {es : List PyData} : lstAt (stL S es) S.length = some (es.map .py) := lstAt_of stL_get
@[simp ↓] theorem wp_ext (e : Ex) (a : Ax) {P : D → Sto → Prop} {E : Str → Sto → Prop} : (extE e a σ S).wp P E = (e σ S).wp (fun x S1 => ∃ n es, x = .obj n ∧ lstAt S1 n = some es ∧ (a σ S1).wp (fun ds S2 => ∃ es2, lstAt S2 n = some es2 ∧ es2.length + ds.length ≤ sizeLine ∧ P (.py .none) (S2.set n (.lst (es2 ++ ds)))) E) E := by
  unfold extE
  rw [wp_bind]
  congr 1
  funext x S1
  rcases x with x | n | n
  · exact propext ⟨fun h => h.elim, fun ⟨_, _, e, _⟩ => by cases e⟩
  · cases h1 : S1[n]? with
    | none => exact propext ⟨fun h => by simp only [h1] at h; exact h.elim, fun ⟨_, _, e, h2, _⟩ => by cases e; rw [lstAt_get h2] at h1; cases h1⟩
    | some o =>
      cases o with
      | gone => exact propext ⟨fun h => by simp only [h1] at h; exact h.elim, fun ⟨_, _, e, h2, _⟩ => by cases e; rw [lstAt_get h2] at h1; cases h1⟩
      | tab _ _ => exact propext ⟨fun h => by simp only [h1] at h; exact h.elim, fun ⟨_, _, e, h2, _⟩ => by cases e; rw [lstAt_get h2] at h1; cases h1⟩
      | dt _ => exact propext ⟨fun h => by simp only [h1] at h; exact h.elim, fun ⟨_, _, e, h2, _⟩ => by cases e; rw [lstAt_get h2] at h1; cases h1⟩
      | dk _ => exact propext ⟨fun h => by simp only [h1] at h; exact h.elim, fun ⟨_, _, e, h2, _⟩ => by cases e; rw [lstAt_get h2] at h1; cases h1⟩
      | ins _ _ => exact propext ⟨fun h => by simp only [h1] at h; exact h.elim, fun ⟨_, _, e, h2, _⟩ => by cases e; rw [lstAt_get h2] at h1; cases h1⟩
      | tpl _ => exact propext ⟨fun h => by simp only [h1] at h; exact h.elim, fun ⟨_, _, e, h2, _⟩ => by cases e; rw [lstAt_get h2] at h1; cases h1⟩
      | lst es =>
        simp only [h1, wp_bind]
        refine propext ⟨fun h => ⟨n, es, rfl, lstAt_of h1, h.mono (fun ds S2 h => ?_) fun _ _ h => h⟩, fun ⟨m, es', e, h2, h⟩ => ?_⟩
        · cases h3 : S2[n]? with
          | none => simp only [h3] at h; exact h.elim
          | some o =>
            cases o with
            | gone => simp only [h3] at h; exact h.elim
            | tab _ _ => simp only [h3] at h; exact h.elim
            | dt _ => simp only [h3] at h; exact h.elim
            | dk _ => simp only [h3] at h; exact h.elim
            | ins _ _ => simp only [h3] at h; exact h.elim
            | tpl _ => simp only [h3] at h; exact h.elim
            | lst es2 =>
              simp only [h3] at h
              by_cases hl : es2.length + ds.length ≤ sizeLine
              · rw [if_pos hl] at h
                exact ⟨es2, lstAt_of h3, hl, h⟩
              · rw [if_neg hl] at h
                exact h.elim
        · cases e
          refine h.mono (fun ds S2 ⟨es2, h3, hl, h⟩ => ?_) fun _ _ h => h
          simp only [lstAt_get h3]
          rw [if_pos hl]
          exact h
  · exact propext ⟨fun h => h.elim, fun ⟨_, _, e, _⟩ => by cases e⟩
end
@[simp] theorem zip_mm {α β : Type} (f : α → PyData) (g : β → PyData) (xs : List α) (ys : List β) : ((xs.map f).zip (ys.map g)).map (fun p => D.py (.tuple [p.1, p.2])) = (xs.zip ys).map fun p => D.py (.tuple [f p.1, g p.2]) := by
  rw [List.zip_map, List.map_map]
  rfl
/-! ### defs -/
/-- what is left of the store when a def is done -/
structure Cut (S S' T : Sto) : Prop where
  le : S.length ≤ S'.length
  cut : T = S'.take S.length
  sub : ∀ (i : Nat) (o : O), i < S.length → S'[i]? = some o → S[i]? = some o ∨ o.pure = true
theorem Cut.self {S : Sto} : Cut S S S := ⟨Nat.le_refl _, (List.take_length).symm, fun i o _ h => .inl h⟩
theorem Cut.app {S T : Sto} : Cut S (S ++ T) S := ⟨by simp, by simp, fun i o hi h => .inl (by rwa [List.getElem?_append_left hi] at h)⟩
theorem Cut.stL {S : Sto} {ds : List PyData} : Cut S (stL S ds) S := Cut.app
theorem gc_cut {γ : Type} {p : Prop} {S S' T : Sto} {k : Sto → γ} (hp : p) (h : Cut S S' T) : gc p S S' k = k T := by
  unfold gc
  rw [if_pos ⟨hp, h.le, h.sub⟩, h.cut]
theorem wp_fn {n : Nat} {b : Sx} {ds : List D} {S : Sto} {Q : D → Sto → Prop} {E : Str → Sto → Prop}
    (h : (b (init n ds) S).wp { nx := fun _ S' => ∃ T, Cut S S' T ∧ Q (.py .none) T, rt := fun d S' => ∃ T, Cut S S' T ∧ d.pure = true ∧ Q d T, ex := fun c S' => ∃ T, Cut S S' T ∧ E c T }) : (fnF n b ds S).wp Q E := by
  unfold fnF fnR
  cases hb : b (init n ds) S with
  | nx σ S' =>
    rw [hb] at h
    obtain ⟨T, c, q⟩ := h
    simp only [gc_cut (p := True) trivial c]
    exact q
  | rt d S' =>
    rw [hb] at h
    obtain ⟨T, c, p, q⟩ := h
    simp only [gc_cut p c]
    exact q
  | ex c S' =>
    rw [hb] at h
    obtain ⟨T, c, q⟩ := h
    simp only [gc_cut (p := True) trivial c]
    exact q
  | bk σ S' => rw [hb] at h; exact h.elim
  | ct σ S' => rw [hb] at h; exact h.elim
  | no => rw [hb] at h; exact h.elim
/-- a def whose answer may be a list that is changed -/
theorem wp_fnM {n : Nat} {b : Sx} {ds : List D} {S : Sto} {Q : D → Sto → Prop} {E : Str → Sto → Prop}
    (h : (b (init n ds) S).wp { nx := fun _ _ => False, rt := fun d S' => d.pure = false ∧ Q d S' }) : (fnF n b ds S).wp Q E := by
  unfold fnF fnR
  cases hb : b (init n ds) S with
  | rt d S' =>
    rw [hb] at h
    obtain ⟨p, q⟩ := h
    show (gc (d.pure = true) S S' fun T => R.ok d T).wp Q E
    unfold gc
    rw [if_neg (by rw [p]; simp)]
    exact q
  | nx σ S' => rw [hb] at h; exact h.elim
  | ex c S' => rw [hb] at h; exact h.elim
  | bk σ S' => rw [hb] at h; exact h.elim
  | ct σ S' => rw [hb] at h; exact h.elim
  | no => rw [hb] at h; exact h.elim
/-- a def that makes nothing but its answer -/
theorem fn_eq {n : Nat} {b : Sx} {ds : List D} {S : Sto} {d : D} (h : (fnF n b ds S).wp (fun x T => x = d ∧ T = S) noE) : fnF n b ds S = .ok d S := by
  obtain ⟨a, T, e, rfl, rfl⟩ := h.out
  exact e
end
end DV

set_option maxHeartbeats 4000000
namespace DV
open PySem
/-! The box of the law's random numbers, and what is drawn from it. -/
/-- at n stands a box -/
def BoxAt (S : Sto) (n : Nat) : Prop := ∃ a b : Int, S[n]? = some (.lst [.py (.int a), .py (.int b)])
/-- but for n nothing of S has changed -/
structure Ch (n : Nat) (S S' : Sto) : Prop where
  le : S.length ≤ S'.length
  same : ∀ i, i < S.length → i ≠ n → S'[i]? = S[i]?
  box : BoxAt S' n
theorem BoxAt.lt {S : Sto} {n : Nat} (h : BoxAt S n) : n < S.length := by
  obtain ⟨a, b, e⟩ := h
  exact (List.getElem?_eq_some_iff.mp e).1
theorem Ch.refl {S : Sto} {n : Nat} (h : BoxAt S n) : Ch n S S := ⟨Nat.le_refl _, fun _ _ _ => rfl, h⟩
theorem Ch.trans {S S1 S2 : Sto} {n : Nat} (h : Ch n S S1) (h2 : Ch n S1 S2) : Ch n S S2 :=
  ⟨Nat.le_trans h.le h2.le, fun i hi ne => (h2.same i (Nat.lt_of_lt_of_le hi h.le) ne).trans (h.same i hi ne), h2.box⟩
theorem Ch.at_ {S S' : Sto} {n m : Nat} {o : O} (h : Ch n S S') (e : S[m]? = some o) (ne : m ≠ n) : S'[m]? = some o :=
  (h.same m (List.getElem?_eq_some_iff.mp e).1 ne).trans e
theorem Ch.set {S : Sto} {n : Nat} {a b : Int} (h : n < S.length) : Ch n S (S.set n (.lst [.py (.int a), .py (.int b)])) :=
  ⟨by simp, fun i hi ne => by rw [List.getElem?_set_ne (Ne.symm ne)], a, b, by simp [h]⟩
theorem Ch.app {S T : Sto} {n : Nat} (h : BoxAt S n) : Ch n S (S ++ T) :=
  ⟨by simp, fun i hi _ => by rw [List.getElem?_append_left hi], by
    obtain ⟨a, b, e⟩ := h
    exact ⟨a, b, by rw [List.getElem?_append_left (List.getElem?_eq_some_iff.mp e).1]; exact e⟩⟩
/-- a list of one's own is changed -/
theorem Ch.own {S S' : Sto} {n m : Nat} {o : O} (h : Ch n S S') (hm : S.length ≤ m) (hn : n < S.length) : Ch n S (S'.set m o) :=
  ⟨by rw [List.length_set]; exact h.le, fun i hi ne => by rw [List.getElem?_set_ne (by omega)]; exact h.same i hi ne, by
    obtain ⟨a, b, e⟩ := h.box
    exact ⟨a, b, by rw [List.getElem?_set_ne (by omega)]; exact e⟩⟩
theorem Ch.cut {S S' : Sto} {n : Nat} (h : Ch n S S') (hn : n < S.length) : ∃ T, Cut S S' T ∧ Ch n S T ∧ T.length = S.length := by
  refine ⟨S'.take S.length, ⟨h.le, rfl, fun i o hi e => ?_⟩, ⟨by rw [List.length_take]; have := h.le; omega, fun i hi ne => ?_, ?_⟩, by rw [List.length_take]; have := h.le; omega⟩
  · by_cases q : i = n
    · subst q
      obtain ⟨a, b, e2⟩ := h.box
      rw [e] at e2
      cases e2
      exact .inr rfl
    · exact .inl ((h.same i hi q).symm.trans e)
  · rw [List.getElem?_take_of_lt hi]
    exact h.same i hi ne
  · obtain ⟨a, b, e⟩ := h.box
    exact ⟨a, b, by rw [List.getElem?_take_of_lt hn]; exact e⟩
/-- a law's draw -/
theorem take_ok {S : Sto} {n : Nat} {many : Int} (h : BoxAt S n) (h0 : 0 < many) (h1 : many < 1073741824) :
    (F_law_take [.obj n, .py (.int many)] S).wp (fun d S' => ∃ r, d = .py (.int r) ∧ 0 ≤ r ∧ r < many ∧ Ch n S S' ∧ S'.length = S.length) noE := by
  have hn := h.lt
  obtain ⟨a, b, e⟩ := h
  have fin : ∀ (r x y : Int), 0 ≤ r → r < many → ∃ T, Cut S (S.set n (.lst [.py (.int x), .py (.int y)])) T ∧ (D.py (.int r)).pure = true ∧ ∃ r', D.py (.int r) = .py (.int r') ∧ 0 ≤ r' ∧ r' < many ∧ Ch n S T ∧ T.length = S.length := fun r x y h1 h2 => by
    obtain ⟨T, c, q, l⟩ := (Ch.set (a := x) (b := y) hn).cut hn
    exact ⟨T, c, rfl, r, rfl, h1, h2, q, l⟩
  unfold F_law_take b_law_take
  refine wp_fn ?_
  have i0 : itemD (.obj n) (.py (.int 0)) S = .ok (.py (.int a)) S := itemD_obj e 0 rfl
  have i1 : itemD (.obj n) (.py (.int 1)) S = .ok (.py (.int b)) S := itemD_obj e 1 rfl
  by_cases ha : 0 < a
  · simp [init, i0, ha, h0, h1, ixP_0 e]
    have := fin (a % many) (a / many) b (Int.emod_nonneg _ (by omega)) (Int.emod_lt_of_pos _ h0)
    simpa using this
  · simp [init, i0, i1, ha, ixP_1 e]
    have b0 : 0 ≤ (b * 48271 + 11) % 2147483647 := Int.emod_nonneg _ (by decide)
    have b1 : (b * 48271 + 11) % 2147483647 < 2147483647 := Int.emod_lt_of_pos _ (by decide)
    generalize (b * 48271 + 11) % 2147483647 = c at *
    have j1 : itemD (.obj n) (.py (.int 1)) (S.set n (.lst [.py (.int a), .py (.int c)])) = .ok (.py (.int c)) _ := itemD_obj (ds := [.py (.int a), .py (.int c)]) (by simp [hn]) 1 rfl
    have d0 : 0 ≤ c / 1009 := Int.ediv_nonneg b0 (by decide)
    have d1 : c / 1009 ≤ 2147483647 := by omega
    have q1 : -(2 ^ 64) < c / 1009 + 1 ∧ c / 1009 + 1 < 2 ^ 64 := by omega
    have q2 : ∀ x S, mulD (.py (.int x)) (.py (.int (c / 1009 + 1))) S = .ok (.py (.int (x * (c / 1009 + 1)))) S := fun x S => mulD_r q1
    simp [j1, q2, h0]
    have z := fin ((c / 1009 + 1) * (c / 1009 + 1) * (c / 1009 + 1) % 2147483629 / 61 % many) a c (Int.emod_nonneg _ (by omega)) (Int.emod_lt_of_pos _ h0)
    simpa using z
/-- the box of a script's number -/
theorem box_ok {S : Sto} {ns : List Int} {k : Nat} (hk : k < 1000000) :
    (F_law_box [.py (.list (ns.map .int)), .py (.int k)] S).wp (fun d S' => d = .obj S.length ∧ ∃ a b : Int, S' = S ++ [.lst [.py (.int a), .py (.int b)]]) noE := by
  unfold F_law_box b_law_box
  refine wp_fnM ?_
  have hk1 : -(2 ^ 64) < (k : Int) ∧ (k : Int) < 2 ^ 64 := by omega
  have m1 : ∀ x S, mulD (.py (.int x)) (.py (.int k)) S = .ok (.py (.int (x * k))) S := fun x S => mulD_r hk1
  by_cases hl : k < ns.length
  · have it : itemD (.py (.list (ns.map .int))) (.py (.int k)) S = .ok (.py (.int ns[k])) S := itemD_list k (by simp [hl])
    simp [init, m1, hl, it, wp_ite, D.pure]
    omega
  · simp [init, m1, hl, wp_ite, D.pure]
    try omega
end DV

set_option maxHeartbeats 4000000
namespace DV
open PySem
/-! Faces drawn from the box. -/
abbrev lt (c : Nat) : PyData := .str ⟨#[c]⟩
abbrev encL (p : Nat × Int) : PyData := .tuple [lt p.1, .int p.2]
structure Face where
  w : Int
  ls : List (Nat × Int)
abbrev Face.py (f : Face) : PyData := .tuple [.int f.w, .tuple (f.ls.map encL)]
structure Face.Good (f : Face) (lo hi : Int) : Prop where
  w0 : 1 ≤ f.w
  w1 : f.w ≤ 99
  lo : lo ≤ (f.ls.length : Int)
  hi : (f.ls.length : Int) ≤ hi
  nd : (f.ls.map (·.1)).Nodup
  ok : ∀ p ∈ f.ls, 97 ≤ p.1 ∧ p.1 ≤ 122 ∧ 10 ≤ p.2 ∧ p.2 ≤ 99
theorem alphabet : ("abcdefghijklmnopqrstuvwxyz" : Str).cps.toList = (List.range 26).map (97 + ·) := by decide +kernel
theorem list_alphabet (S : Sto) : listD [.py (.str "abcdefghijklmnopqrstuvwxyz")] S = .ok (((List.range 26).map (97 + ·)).map fun c => D.py (lt c)) S := by
  rw [listD_str (by decide +kernel), alphabet, List.map_map]
theorem nodup_pop : ∀ {l : List Nat} {r c : Nat}, l.Nodup → l[r]? = some c → c ∉ l.eraseIdx r ∧ (l.eraseIdx r).Nodup
  | [], r, c, _, hc => by simp at hc
  | a :: l, 0, c, h, hc => by
    simp at hc
    subst hc
    exact List.nodup_cons.mp h
  | a :: l, r + 1, c, h, hc => by
    rw [List.nodup_cons] at h
    have hc : l[r]? = some c := by simpa using hc
    have ih := nodup_pop h.2 hc
    have mc := List.mem_of_getElem? hc
    show c ∉ a :: l.eraseIdx r ∧ (a :: l.eraseIdx r).Nodup
    rw [List.nodup_cons, List.mem_cons, not_or]
    exact ⟨⟨fun e => h.1 (e ▸ mc), ih.1⟩, fun m => h.1 (List.mem_of_mem_eraseIdx m), ih.2⟩
def PoolI (n : Nat) (S T : Sto) (acc : List D) (k : Nat) : Prop :=
  Ch n S T ∧ ∃ (ls : List (Nat × Int)) (pl : List Nat), acc = ls.map (fun p => D.py (encL p)) ∧ T[S.length]? = some (.lst (pl.map fun c => D.py (lt c))) ∧ ls.length = k ∧ pl.length + k = 26 ∧ pl.Nodup ∧ (ls.map (·.1)).Nodup ∧
    (∀ p ∈ ls, p.1 ∉ pl ∧ 97 ≤ p.1 ∧ p.1 ≤ 122 ∧ 10 ≤ p.2 ∧ p.2 ≤ 99) ∧ ∀ c ∈ pl, 97 ≤ c ∧ c ≤ 122
theorem eraseIdx_map {α β : Type} (f : α → β) : ∀ (l : List α) (r : Nat), (l.map f).eraseIdx r = (l.eraseIdx r).map f
  | [], _ => rfl
  | _ :: _, 0 => rfl
  | a :: l, r + 1 => congrArg (f a :: ·) (eraseIdx_map f l r)
theorem face_ok {S : Sto} {n : Nat} {lo hi : Int} (h : BoxAt S n) (h0 : 0 ≤ lo) (h1 : lo ≤ hi) (h2 : hi ≤ 26) :
    (F_law_face [.obj n, .py (.int lo), .py (.int hi)] S).wp (fun d S' => ∃ f : Face, d = .py f.py ∧ f.Good lo hi ∧ Ch n S S' ∧ S'.length = S.length) noE := by
  have hn := h.lt
  unfold F_law_face b_law_face
  refine wp_fn ?_
  simp [init, list_alphabet]
  refine (take_ok (n := n) (many := hi - lo + 1) (Ch.app h).box (by omega) (by omega)).to ?_
  rintro d S1 ⟨m, rfl, m0, m1, c1, l1⟩
  have hp : S1[S.length]? = some (.lst (((List.range 26).map (97 + ·)).map fun c => D.py (lt c))) := c1.at_ (by simp) (by omega)
  have c1 := (Ch.app (T := [.lst (List.map ((fun c => D.py (lt c)) ∘ fun x => 97 + x) (List.range 26))]) h).trans c1
  simp at l1 ⊢
  refine ⟨by omega, ?_⟩
  refine wp_lcL (fun pre acc T => PoolI n S T acc pre.length) ?_ ?_ ?_
  · refine ⟨c1, [], (List.range 26).map (97 + ·), rfl, hp, rfl, by decide, by decide, by decide, by simp, by decide⟩
  · rintro pre x post acc T hxs ⟨cT, ls, pl, rfl, hpl, hl, hlen, ndp, ndl, hls, hcs⟩
    have hlp : pre.length + post.length + 1 = (lo + m).toNat := by
      have := congrArg List.length hxs
      simp [rngV] at this
      omega
    have pos : 0 < (pl.length : Int) := by omega
    have cnt : lenD [.obj S.length] T = _ := lenD_obj hpl
    simp [cnt, lsOk_obj hpl]
    refine (take_ok (n := n) (many := pl.length) cT.box pos (by omega)).to ?_
    rintro d T1 ⟨r, rfl, r0, r1, cT1, _⟩
    have hr : r.toNat < pl.length := by omega
    have hpl1 := cT1.at_ hpl (by omega)
    have hpop := popD_at (i := r) (d := D.py (lt pl[r.toNat])) hpl1 ⟨r0, by omega⟩ (by simp [hr])
    simp [hpop]
    refine (take_ok (n := n) (many := 90) ((cT.trans cT1).own (o := .lst ((pl.map fun c => D.py (lt c)).eraseIdx r.toNat)) (Nat.le_refl _) hn).box (by decide) (by decide)).to ?_
    rintro d T2 ⟨q, rfl, q0, q1, cT2, _⟩
    have np := nodup_pop ndp (List.getElem?_eq_getElem hr)
    have hT2 := cT2.at_ (m := S.length) (o := .lst ((pl.map fun c => D.py (lt c)).eraseIdx r.toNat)) (by rw [List.getElem?_set_self]; have := cT1.le; have := cT.le; have := (List.getElem?_eq_some_iff.mp hpl1).1; omega) (by omega)
    simp
    refine ⟨((cT.trans cT1).own (Nat.le_refl _) hn).trans cT2, ls ++ [(pl[r.toNat], 10 + q)], pl.eraseIdx r.toNat, by simp, ?_, by simp [hl], ?_, np.2, ?_, ?_, fun c hc => hcs c (List.mem_of_mem_eraseIdx hc)⟩
    · rw [hT2]
      rw [eraseIdx_map]
    · rw [List.length_eraseIdx_of_lt hr]
      omega
    · rw [List.map_append, List.nodup_append]
      refine ⟨ndl, by simp, fun a ha b hb => ?_⟩
      simp at hb
      subst hb
      obtain ⟨p, hp1, rfl⟩ := List.mem_map.mp ha
      intro e
      exact (hls p hp1).1 (e ▸ List.getElem_mem hr)
    · intro p hp1
      rw [List.mem_append] at hp1
      rcases hp1 with hp1 | hp1
      · obtain ⟨z1, z2⟩ := hls p hp1
        exact ⟨fun h => z1 (List.mem_of_mem_eraseIdx h), z2⟩
      · simp at hp1
        subst hp1
        obtain ⟨y1, y2⟩ := hcs _ (List.getElem_mem hr)
        exact ⟨np.1, y1, y2, by omega, by omega⟩
  · rintro acc T ⟨cT, ls, pl, rfl, hpl, hl, hlen, ndp, ndl, hls, hcs⟩
    have e : ls.map (fun p => D.py (encL p)) = (ls.map encL).map .py := by simp
    rw [e]
    simp
    refine (take_ok (n := n) (many := 99) cT.box (by decide) (by decide)).to ?_
    rintro d T1 ⟨q, rfl, q0, q1, cT1, _⟩
    obtain ⟨T2, k1, k2, k3⟩ := (cT.trans cT1).cut hn
    simp
    refine ⟨T2, k1, rfl, ⟨1 + q, ls⟩, ⟨rfl, rfl⟩, ⟨by simp; omega, by simp; omega, ?_, ?_, ndl, fun p hp1 => (hls p hp1).2⟩, k2, k3⟩
    · simp [hl, rngV]
      omega
    · simp [hl, rngV]
      omega
end DV

set_option maxHeartbeats 4000000
namespace DV
open PySem
/-! Draws by a comprehension; rows of lists that are changed. -/
abbrev pyi (i : Int) : D := .py (.int i)
theorem draws {α : Type} {n i : Nat} {S : Sto} {σ : En} {e : Ex} {xs : List D} {E : Str → Sto → Prop} (f : α → PyData) (p : α → Prop) (hb : BoxAt S n)
    (h : ∀ x S', x ∈ xs → Ch n S S' → (e (σ.set i (some x)) S').wp (fun d S2 => ∃ r, d = .py (f r) ∧ p r ∧ Ch n S' S2) noE) :
    (lcL (nmG i) yesT e σ xs S).wp (fun ds S' => ∃ rs : List α, ds = rs.map (fun r => .py (f r)) ∧ rs.length = xs.length ∧ (∀ r ∈ rs, p r) ∧ Ch n S S') E := by
  refine wp_lcL (fun pre acc T => ∃ rs : List α, acc = rs.map (fun r => .py (f r)) ∧ rs.length = pre.length ∧ (∀ r ∈ rs, p r) ∧ Ch n S T) ⟨[], rfl, rfl, by simp, .refl hb⟩ ?_ fun _ _ h => h
  rintro pre x post acc T hxs ⟨rs, rfl, hl, hp, c⟩
  rw [wp_nm, wp_yes, if_pos rfl]
  refine (h x T (by rw [hxs]; simp) c).to ?_
  rintro d S2 ⟨r, rfl, pr, c2⟩
  refine ⟨rs ++ [r], by simp, by simp [hl], fun y hy => ?_, c.trans c2⟩
  rw [List.mem_append] at hy
  rcases hy with hy | hy
  · exact hp y hy
  · rw [List.mem_singleton] at hy
    rw [hy]
    exact pr
theorem nodup_get {α : Type} {l : List α} (h : l.Nodup) {i j : Nat} {x : α} (h1 : l[i]? = some x) (h2 : l[j]? = some x) : i = j := by
  obtain ⟨p, e1⟩ := List.getElem?_eq_some_iff.mp h1
  obtain ⟨q, e2⟩ := List.getElem?_eq_some_iff.mp h2
  rcases Nat.lt_trichotomy i j with z | z | z
  · exact (List.pairwise_iff_getElem.mp h i j p q z (e1.trans e2.symm)).elim
  · exact z
  · exact (List.pairwise_iff_getElem.mp h j i q p z (e2.trans e1.symm)).elim
/-- rows that are changed -/
structure Grid (S : Sto) (lo m : Nat) (ids : List Nat) (rows : List (List Int)) : Prop where
  top : S[m]? = some (.lst (ids.map .obj))
  nd : ids.Nodup
  len : ids.length = rows.length
  own : ∀ i ∈ ids, lo ≤ i ∧ i ≠ m
  row : ∀ (j id : Nat) (r : List Int), ids[j]? = some id → rows[j]? = some r → S[id]? = some (.lst (r.map pyi))
  lo : lo ≤ m
theorem Grid.new {S : Sto} {lo : Nat} {rows : List (List Int)} (hlo : lo ≤ S.length) :
    Grid (S ++ (rows.map fun r => O.lst (r.map pyi)) ++ [.lst ((List.range' S.length rows.length).map .obj)]) lo (S.length + rows.length) (List.range' S.length rows.length) rows := by
  refine ⟨?_, List.nodup_range', by simp, fun i hi => ?_, fun j id r h1 h2 => ?_, by omega⟩
  · rw [List.getElem?_append_right (by simp)]
    simp
  · rw [List.mem_range'_1] at hi
    omega
  · have hj := (List.getElem?_eq_some_iff.mp h2).1
    rw [List.getElem?_range' hj] at h1
    have h1 : S.length + j = id := by simpa using h1
    subst h1
    rw [List.append_assoc, List.getElem?_append_right (by omega), List.getElem?_append_left (by simp; omega)]
    simp [h2]
theorem Grid.ch {S S' : Sto} {n lo m : Nat} {ids : List Nat} {rows : List (List Int)} (h : Grid S lo m ids rows) (c : Ch n S S') (hn : n < lo) : Grid S' lo m ids rows := by
  have hlo := h.lo
  refine ⟨c.at_ h.top (by omega), h.nd, h.len, h.own, fun j id r e1 e2 => c.at_ (h.row j id r e1 e2) ?_, hlo⟩
  have := (h.own id (List.mem_of_getElem? e1)).1
  omega
/-- the list at m, whose rows are objects -/
theorem Grid.get {S : Sto} {lo m a : Nat} {ids : List Nat} {rows : List (List Int)} (h : Grid S lo m ids rows) (ha : a < rows.length) : itemD (.obj m) (.py (.int a)) S = .ok (.obj (ids[a]'(h.len ▸ ha))) S :=
  itemD_obj h.top a (by simp [h.len, ha])
theorem Grid.at_ {S : Sto} {lo m a : Nat} {ids : List Nat} {rows : List (List Int)} (h : Grid S lo m ids rows) (ha : a < rows.length) : S[ids[a]'(h.len ▸ ha)]? = some (.lst (rows[a].map pyi)) :=
  h.row a _ _ (List.getElem?_eq_getElem _) (List.getElem?_eq_getElem ha)
theorem Grid.set {S : Sto} {lo m a : Nat} {ids : List Nat} {rows : List (List Int)} (h : Grid S lo m ids rows) (ha : a < rows.length) (r : List Int) : Grid (S.set (ids[a]'(h.len ▸ ha)) (.lst (r.map pyi))) lo m ids (rows.set a r) := by
  have ha' : a < ids.length := h.len ▸ ha
  have e1 : ids[a]? = some ids[a] := List.getElem?_eq_getElem ha'
  have m1 := h.own _ (List.getElem_mem ha')
  refine ⟨by rw [List.getElem?_set_ne m1.2]; exact h.top, h.nd, by simp [h.len], h.own, fun j id q e2 e3 => ?_, h.lo⟩
  by_cases hj : a = j
  · subst hj
    rw [e1] at e2
    cases e2
    rw [List.getElem?_set_self ha] at e3
    cases e3
    rw [List.getElem?_set_self]
    exact (List.getElem?_eq_some_iff.mp (h.at_ ha)).1
  · rw [List.getElem?_set_ne hj] at e3
    have ne : ids[a] ≠ id := by
      intro e
      exact hj (nodup_get h.nd e1 (e ▸ e2))
    rw [List.getElem?_set_ne ne]
    exact h.row j id q e2 e3
/-- an item of a row is set -/
theorem Grid.put {S : Sto} {lo m a b : Nat} {ids : List Nat} {rows : List (List Int)} {v : Int} {σ : En} (h : Grid S lo m ids rows) (ha : a < rows.length) (hb : b < rows[a].length) :
    ixP (.obj (ids[a]'(h.len ▸ ha))) (.py (.int b)) (.py (.int v)) σ S = .ok σ (S.set (ids[a]'(h.len ▸ ha)) (.lst ((rows[a].set b v).map pyi))) := by
  rw [ixP_obj (h.at_ ha) (by simpa using hb), List.map_set]
theorem fixL_ok : ∀ {ids : List Nat} {rows : List (List Int)} {S : Sto}, ids.Nodup → ids.length = rows.length → (∀ (j id : Nat) (r : List Int), ids[j]? = some id → rows[j]? = some r → S[id]? = some (.lst (r.map pyi))) →
    ∃ S', fixL S (ids.map .obj) = some (rows.map fun r => .list (r.map .int), S') ∧ S'.length = S.length ∧ ∀ i, i ∉ ids → S'[i]? = S[i]?
  | [], [], S, _, _, _ => ⟨S, rfl, rfl, fun _ _ => rfl⟩
  | id :: ids, r :: rows, S, hn, hl, h => by
    have e := h 0 id r rfl rfl
    have hn := List.nodup_cons.mp hn
    obtain ⟨S', e1, e2, e3⟩ := fixL_ok (ids := ids) (rows := rows) (S := S.set id .gone) hn.2 (by simpa using hl) fun j id2 r2 h1 h2 => by
      rw [List.getElem?_set_ne (fun (e : id = id2) => hn.1 (e ▸ List.mem_of_getElem? h1))]
      exact h (j + 1) id2 r2 h1 h2
    refine ⟨S', ?_, by rw [e2]; simp, fun i hi => ?_⟩
    · have pe : pysOf (r.map pyi) = some (r.map PyData.int) := pysOf_fun PyData.int r
      simp only [List.map, fixL, e, pe, e1, Option.map]
    · rw [List.mem_cons, not_or] at hi
      rw [e3 i hi.2, List.getElem?_set_ne (Ne.symm hi.1)]
abbrev encR (rows : List (List Int)) : PyData := .list (rows.map fun r => .list (r.map .int))
@[simp] theorem seqD_encR (R : List (List Int)) : seqD (.py (encR R)) = some (R.map fun r => .list (r.map .int)) := id rfl
@[simp] theorem walk_encR (R : List (List Int)) (S : Sto) : pyWalk S (.py (encR R)) = some (R.map fun r => .list (r.map .int)) := id rfl
theorem Grid.fix {S : Sto} {lo m i : Nat} {ids : List Nat} {rows : List (List Int)} {σ : En} {N : K} (h : Grid S lo m ids rows) (hi : σ[i]? = some (some (.obj m))) (q : ∀ S', S'.length = S.length → (∀ j, j < lo → S'[j]? = S[j]?) → N.nx (σ.set i (some (.py (encR rows)))) S') : (fix2S i σ S).wp N := by
  have hlo := h.lo
  obtain ⟨S', e1, e2, e3⟩ := fixL_ok (S := S.set m .gone) h.nd h.len fun j id r a b => by
    rw [List.getElem?_set_ne (Ne.symm (h.own id (List.mem_of_getElem? a)).2)]
    exact h.row j id r a b
  unfold fix2S
  simp only [hi, h.top, e1]
  refine q S' (by rw [e2]; simp) fun j hj => ?_
  rw [e3 j (fun z => by have := (h.own j z).1; omega), List.getElem?_set_ne (by omega)]
structure Rows (rows : List (List Int)) (many : Nat) : Prop where
  len : rows.length = many
  row : ∀ r ∈ rows, r.length = many
  bnd : ∀ r ∈ rows, ∀ x ∈ r, -9 ≤ x ∧ x ≤ 9
theorem Rows.set {rows : List (List Int)} {many a b : Nat} {v : Int} (h : Rows rows many) (ha : a < rows.length) (h1 : -9 ≤ v) (h2 : v ≤ 9) : Rows (rows.set a (rows[a].set b v)) many := by
  have hm : rows[a] ∈ rows := List.getElem_mem ha
  refine ⟨by rw [List.length_set]; exact h.len, fun r hr => ?_, fun r hr x hx => ?_⟩
  · rcases List.mem_or_eq_of_mem_set hr with q | rfl
    · exact h.row r q
    · rw [List.length_set]
      exact h.row _ hm
  · rcases List.mem_or_eq_of_mem_set hr with q | rfl
    · exact h.bnd r q x hx
    · rcases List.mem_or_eq_of_mem_set hx with q | rfl
      · exact h.bnd _ hm x q
      · exact ⟨h1, h2⟩
/-- what lies below is as it was -/
theorem Ch.low {n : Nat} {S T T' : Sto} (c : Ch n S T) (hn : n < S.length) (hl : T'.length = T.length) (h : ∀ j, j < S.length → T'[j]? = T[j]?) : Ch n S T' :=
  ⟨by rw [hl]; exact c.le, fun i hi ne => (h i hi).trans (c.same i hi ne), by
    obtain ⟨a, b, e⟩ := c.box
    exact ⟨a, b, (h n hn).trans e⟩⟩
end DV

set_option maxHeartbeats 4000000
namespace DV
open PySem
end DV

set_option maxHeartbeats 4000000
namespace DV
open PySem
/-! Lists of gaps, known letters. -/
section
variable {α : Type} {g : Tg} {b : Sx} {σ : En} {S : Sto} {N : K}
theorem wp_forM (f : α → D) {ls : List α} (I : List α → En → Sto → Prop) (h0 : I [] σ S)
    (hs : ∀ pre x post σ S, ls = pre ++ x :: post → I pre σ S → (g (f x) σ S).wp (fun σ1 S1 => (b σ1 S1).wp { N with nx := fun σ2 S2 => I (pre ++ [x]) σ2 S2, ct := fun σ2 S2 => I (pre ++ [x]) σ2 S2, bk := fun σ2 S2 => N.nx σ2 S2 }) N.ex)
    (he : ∀ σ S, I ls σ S → N.nx σ S) : (forL g b (ls.map f) σ S).wp N := by
  refine wp_forL (fun pre σ S => ∃ p : List α, pre = p.map f ∧ p.length ≤ ls.length ∧ p = ls.take p.length ∧ I p σ S) ⟨[], rfl, Nat.zero_le _, by simp, h0⟩ ?_ ?_
  · rintro pre x post σ S e ⟨p, rfl, hl, ht, hI⟩
    obtain ⟨l1, l2, e1, e2, e3⟩ := List.map_eq_append_iff.mp e
    obtain ⟨y, l3, e4, e5, e6⟩ := List.map_eq_cons_iff.mp e3
    have lp : l1.length = p.length := by have := congrArg List.length e2; simpa using this
    have ep : p = l1 := by rw [ht, e1, ← lp, List.take_left]
    subst ep
    subst e5
    have e9 : ls = (p ++ [y]) ++ l3 := by rw [e1, e4]; simp
    refine (hs p y l3 σ S (by rw [e1, e4]) hI).mono (fun σ1 S1 h => h.mono (fun σ2 S2 h => ?_) (fun _ _ h => h) (fun _ _ h => h) (fun σ2 S2 h => ?_) fun _ _ h => h) fun _ _ h => h
    · exact ⟨p ++ [y], by simp, by rw [e9]; simp, by rw [e9, List.take_left], h⟩
    · exact ⟨p ++ [y], by simp, by rw [e9]; simp, by rw [e9, List.take_left], h⟩
  · rintro σ S ⟨p, e, hl, ht, hI⟩
    have lp : p.length = ls.length := by have := congrArg List.length e; simpa using this.symm
    rw [lp, List.take_length] at ht
    exact he σ S (ht ▸ hI)
theorem wp_pureM {c : Tx} {e : Ex} {P : List D → Sto → Prop} {E : Str → Sto → Prop} {ls : List α} (f : α → D) (p : α → Bool) (h : α → D)
    (hs : ∀ x ∈ ls, (g (f x) σ S).wp (fun σ1 S1 => (c σ1 S1).wp (fun k S2 => k = p x ∧ S2 = S ∧ (k = true → (e σ1 S).wp (fun d S3 => d = h x ∧ S3 = S) noE)) noE) noE) (q : P ((ls.filter p).map h) S) : (lcL g c e σ (ls.map f) S).wp P E := by
  refine wp_of ?_ q
  clear q
  induction ls with
  | nil => rfl
  | cons x xs ih =>
    obtain ⟨σ1, S1, h1, hs1⟩ := (hs x (List.mem_cons_self ..)).out
    obtain ⟨k, S2, h2, rfl, rfl, hs2⟩ := hs1.out
    have ih := ih fun y hy => hs y (List.mem_cons_of_mem _ hy)
    rw [List.map_cons]
    unfold lcL
    rw [h1]
    simp only [h2]
    cases hp : p x with
    | false => simp [ih, hp]
    | true =>
      obtain ⟨d, S3, h3, rfl, rfl⟩ := (hs2 hp).out
      simp [h3, ih, hp]
/-- one name, no test -/
theorem wp_pureM1 {i : Nat} {e : Ex} {P : List D → Sto → Prop} {E : Str → Sto → Prop} {ls : List α} (f : α → D) (h : α → D)
    (hs : ∀ x ∈ ls, e (σ.set i (some (f x))) S = .ok (h x) S) (q : P (ls.map h) S) : (lcL (nmG i) yesT e σ (ls.map f) S).wp P E :=
  wp_pureM f (fun _ => true) h (fun x hx => ⟨rfl, rfl, fun _ => wp_of (hs x hx) ⟨rfl, rfl⟩⟩) (by rw [List.filter_eq_self.mpr fun _ _ => rfl]; exact q)
end
abbrev Pair := Nat × Nat × Int
abbrev encT (p : Pair) : PyData := .tuple [lt p.1, lt p.2.1, .int p.2.2]
abbrev encP (ps : List Pair) : PyData := .tuple (ps.map encT)
@[simp] theorem seqD_encP (ps : List Pair) : seqD (.py (encP ps)) = some (ps.map encT) := id rfl
@[simp] theorem walk_encP (ps : List Pair) (S : Sto) : pyWalk S (.py (encP ps)) = some (ps.map encT) := id rfl
def Face.lets (f : Face) : List Nat := f.ls.map (·.1)
@[simp] theorem lets_length (f : Face) : f.lets.length = f.ls.length := by simp [Face.lets]
theorem law_letters_eq (f : Face) (S : Sto) : F_law_letters [.py f.py] S = .ok (.py (.list (f.lets.map lt))) S := by
  unfold F_law_letters b_law_letters
  refine fn_eq (wp_fn ?_)
  simp [init]
  refine wp_pureM1 (D.py ∘ encL) (fun p => .py (lt p.1)) (fun x _ => wp_eq (by simp)) ?_
  simp
  exact ⟨S, .self, rfl, by simp [Face.lets], rfl⟩
def gapIn (ps : List Pair) (l r : Nat) : Int := match ps.find? (fun p => p.1 = l ∧ p.2.1 = r) with
  | some p => p.2.2
  | none => 0
theorem slot2 {σ l : En} {i j : Nat} (h : (σ.set j none).set i none = l) : ∃ x y, σ = (l.set i x).set j y := by
  obtain ⟨x, h⟩ := slot_any h
  obtain ⟨y, h⟩ := slot_any h
  exact ⟨x, y, h⟩
theorem slot3 {σ l : En} {i j k : Nat} (h : ((σ.set k none).set j none).set i none = l) : ∃ x y z, σ = ((l.set i x).set j y).set k z := by
  obtain ⟨x, h⟩ := slot_any h
  obtain ⟨y, z, h⟩ := slot2 h
  exact ⟨x, y, z, h⟩
theorem slot4 {σ l : En} {i j k m : Nat} (h : (((σ.set m none).set k none).set j none).set i none = l) : ∃ x y z w, σ = (((l.set i x).set j y).set k z).set m w := by
  obtain ⟨x, h⟩ := slot_any h
  obtain ⟨y, z, w, h⟩ := slot3 h
  exact ⟨x, y, z, w, h⟩
theorem slot5 {σ l : En} {i j k m p : Nat} (h : ((((σ.set p none).set m none).set k none).set j none).set i none = l) : ∃ x y z w v, σ = ((((l.set i x).set j y).set k z).set m w).set p v := by
  obtain ⟨x, h⟩ := slot_any h
  obtain ⟨y, z, w, v, h⟩ := slot4 h
  exact ⟨x, y, z, w, v, h⟩
theorem slot6 {σ l : En} {i j k m p q : Nat} (h : (((((σ.set q none).set p none).set m none).set k none).set j none).set i none = l) : ∃ x y z w v u, σ = (((((l.set i x).set j y).set k z).set m w).set p v).set q u := by
  obtain ⟨x, h⟩ := slot_any h
  obtain ⟨y, z, w, v, u, h⟩ := slot5 h
  exact ⟨x, y, z, w, v, u, h⟩
theorem slot7 {σ l : En} {i j k m p q r : Nat} (h : ((((((σ.set r none).set q none).set p none).set m none).set k none).set j none).set i none = l) : ∃ x y z w v u t, σ = ((((((l.set i x).set j y).set k z).set m w).set p v).set q u).set r t := by
  obtain ⟨x, h⟩ := slot_any h
  obtain ⟨y, z, w, v, u, t, h⟩ := slot6 h
  exact ⟨x, y, z, w, v, u, t, h⟩
def NoHit (l r : Nat) (ps : List Pair) : Prop := ∀ p ∈ ps, ¬ (p.1 = l ∧ p.2.1 = r)
theorem gapIn_hit {pre post : List Pair} {l r : Nat} {x : Pair} (h : NoHit l r pre) (h1 : x.1 = l) (h2 : x.2.1 = r) : gapIn (pre ++ x :: post) l r = x.2.2 := by
  unfold gapIn
  have e : (pre ++ x :: post).find? (fun p => decide (p.1 = l ∧ p.2.1 = r)) = some x := by
    rw [List.find?_append, List.find?_eq_none.mpr (fun p hp => by simpa using h p hp)]
    simp [h1, h2]
  rw [e]
theorem gapIn_none {ps : List Pair} {l r : Nat} (h : NoHit l r ps) : gapIn ps l r = 0 := by
  unfold gapIn
  rw [List.find?_eq_none.mpr (fun p hp => by simpa using h p hp)]
theorem NoHit.snoc {pre : List Pair} {l r : Nat} {x : Pair} (h : NoHit l r pre) (hx : ¬ (x.1 = l ∧ x.2.1 = r)) : NoHit l r (pre ++ [x]) := fun p hp => by
  rw [List.mem_append, List.mem_singleton] at hp
  rcases hp with hp | rfl
  · exact h p hp
  · exact hx
theorem gap_in_eq (ps : List Pair) (l r : Nat) (S : Sto) : F_gap_in [.py (encP ps), .py (lt l), .py (lt r)] S = .ok (.py (.int (gapIn ps l r))) S := by
  unfold F_gap_in b_gap_in
  refine fn_eq (wp_fn ?_)
  simp [init]
  refine wp_forM (D.py ∘ encT) (fun pre σ T => T = S ∧ ((σ.set 3 none).set 4 none).set 5 none = _ ∧ NoHit l r pre) ⟨rfl, rfl, fun p hp => by cases hp⟩ ?_ ?_
  · rintro pre x post σ T e ⟨rfl, hσ, hp⟩
    obtain ⟨_, _, _, rfl⟩ := slot3 hσ
    clear hσ
    simp
    by_cases h1 : x.1 = l
    · by_cases h2 : x.2.1 = r
      · exact .inr ⟨h1, .inr ⟨h2, T, .self, rfl, by rw [e, gapIn_hit hp h1 h2], rfl⟩⟩
      · exact .inr ⟨h1, .inl ⟨h2, hp.snoc fun h => h2 h.2⟩⟩
    · exact .inl ⟨h1, hp.snoc fun h => h1 h.1⟩
  · rintro σ T ⟨rfl, hσ, hp⟩
    simp
    exact ⟨T, .self, rfl, (gapIn_none hp).symm, rfl⟩
/-! ### the list of rows -/
def rowA (l : Nat) (ps : List (Nat × Int)) : List Pair := (ps.filter fun p => p.2 ≠ 0).map fun p => (l, p.1, p.2)
theorem rowA_no {l : Nat} {ps : List (Nat × Int)} {y : Nat × Int} (h : y.2 = 0) : rowA l (ps ++ [y]) = rowA l ps := by simp [rowA, h]
theorem rowA_yes {l : Nat} {ps : List (Nat × Int)} {y : Nat × Int} (h : y.2 ≠ 0) : rowA l (ps ++ [y]) = rowA l ps ++ [(l, y.1, y.2)] := by simp [rowA, h]
theorem rowA_len (l : Nat) (ps : List (Nat × Int)) : (rowA l ps).length ≤ ps.length := by
  unfold rowA
  rw [List.length_map]
  exact List.length_filter_le _ _
def rowP (l : Nat) (L : List Nat) (row : List Int) : List Pair := rowA l (L.zip row)
def mlist (L : List Nat) (rows : List (List Int)) : List Pair := (L.zip rows).flatMap fun p => rowP p.1 L p.2
theorem rowP_len (l : Nat) (L : List Nat) (row : List Int) : (rowP l L row).length ≤ L.length := by
  refine Nat.le_trans (rowA_len _ _) ?_
  rw [List.length_zip]
  exact Nat.min_le_left _ _
theorem flat_len {α β : Type} (f : α → List β) (n : Nat) : ∀ (xs : List α), (∀ x ∈ xs, (f x).length ≤ n) → (xs.flatMap f).length ≤ xs.length * n
  | [], _ => by simp
  | x :: xs, h => by
    have h1 := h x (List.mem_cons_self ..)
    have h2 := flat_len f n xs fun y hy => h y (List.mem_cons_of_mem _ hy)
    rw [List.flatMap_cons, List.length_append, List.length_cons, Nat.add_mul]
    omega
def flatP (L : List Nat) (xs : List (Nat × List Int)) : List Pair := xs.flatMap fun p => rowP p.1 L p.2
theorem flatP_len {L : List Nat} {pre post : List (Nat × List Int)} {x : Nat × List Int} {rows : List (List Int)} (e : L.zip rows = pre ++ x :: post) (hL : L.length ≤ 200) : (flatP L pre).length + L.length ≤ 40000 := by
  have h1 := flat_len (fun p : Nat × List Int => rowP p.1 L p.2) L.length pre fun p _ => rowP_len _ _ _
  have h2 : pre.length < L.length := by
    have := congrArg List.length e
    rw [List.length_zip, List.length_append, List.length_cons] at this
    omega
  have h3 : pre.length * L.length ≤ pre.length * 200 := Nat.mul_le_mul_left _ hL
  unfold flatP
  omega
theorem flatP_snoc (L : List Nat) (pre : List (Nat × List Int)) (x : Nat × List Int) : flatP L (pre ++ [x]) = flatP L pre ++ rowP x.1 L x.2 := by simp [flatP]
theorem law_list_eq (f : Face) (rows : List (List Int)) (S : Sto) (h1 : f.ls.length ≤ 200) : F_law_list [.py f.py, .py (encR rows)] S = .ok (.py (encP (mlist f.lets rows))) S := by
  unfold F_law_list b_law_list
  refine fn_eq (wp_fn ?_)
  have hL : f.lets.length ≤ 200 := by simpa [Face.lets] using h1
  simp [init, law_letters_eq]
  rw [stL_nil]
  refine wp_forM _ (fun pre σ T => wipeD σ [4, 5, 6, 7] = _ ∧ T = stL S ((flatP f.lets pre).map encT)) ⟨rfl, rfl⟩ ?_ ?_
  · rintro pre x post σ T e ⟨hσ, rfl⟩
    obtain ⟨_, _, _, _, rfl⟩ := slot4 hσ
    clear hσ
    simp
    have hlen := flatP_len e hL
    refine wp_forM _ (fun pre2 σ T => wipeD σ [6, 7] = _ ∧ T = stL S ((flatP f.lets pre ++ rowA x.1 pre2).map encT)) ⟨rfl, by simp [rowA]⟩ ?_ ?_
    · rintro pre2 y post2 σ T e2 ⟨hσ, rfl⟩
      obtain ⟨_, _, rfl⟩ := slot2 hσ
      clear hσ
      by_cases hy : y.2 = 0
      · simp [hy, rowA_no]
      · have l2 := rowA_len x.1 pre2
        have l3 : pre2.length ≤ f.lets.length := by
          have := congrArg List.length e2
          rw [List.length_zip, List.length_append] at this
          omega
        have ap := stL_app (S := S) (ds := (flatP f.lets pre ++ rowA x.1 pre2).map encT) (d := encT (x.1, y.1, y.2)) (by rw [List.length_map, List.length_append, show sizeLine = 16777216 from rfl]; omega)
        simp [hy]
        rw [List.map_append] at ap
        refine wp_of ap ?_
        simp [rowA_yes hy]
    · rintro σ T ⟨hσ, rfl⟩
      obtain ⟨_, _, rfl⟩ := slot2 hσ
      clear hσ
      simp [flatP_snoc, rowP]
  · rintro σ T ⟨hσ, rfl⟩
    obtain ⟨_, _, _, _, rfl⟩ := slot4 hσ
    clear hσ
    simp
    exact ⟨S, .stL, rfl, rfl, rfl⟩
end DV

set_option maxHeartbeats 4000000
namespace DV
open PySem
/-! Data that may be shown and compared. -/
structure Fit (d : PyData) (k w : Nat) : Prop where
  sh : d.showable = true
  hd : d.hasDict = false
  dp : d.depth ≤ k
  ls : PyData.leavesShort 13 d = true
  bk : d.bulk ≤ w
  ly : d.canLay0 = true
structure FitL (ds : List PyData) (k w : Nat) : Prop where
  sh : PyData.showableAll ds = true
  hd : PyData.hasDictAll ds = false
  dp : PyData.depthAll ds ≤ k
  ls : PyData.leavesShortAll 13 ds = true
  bk : PyData.bulkAll ds ≤ w
  ly : PyData.canLayAll0 ds = true
theorem Fit.int {i : Int} (h1 : -999999999999 ≤ i) (h2 : i ≤ 999999999999) : Fit (.int i) 0 0 := by
  refine ⟨?_, PyData.hasDict.eq_3 i, by rw [PyData.depth.eq_6]; exact Nat.le_refl _, ?_, by rw [PyData.bulk.eq_7]; exact Nat.le_refl _, PyData.canLay0.eq_3 i⟩
  · rw [PyData.showable.eq_4, decide_eq_true_eq]
    by_cases h : i.natAbs = 0
    · rw [h]
      decide
    · rw [Nat.log2_lt h]
      exact Nat.lt_of_lt_of_le (show i.natAbs < 2 ^ 40 by omega) (Nat.pow_le_pow_right (by decide) (by decide))
  · rw [PyData.leavesShort.eq_3, decide_eq_true_eq]
    exact PyData.shown_int_le2 h1 h2
theorem Fit.bool (b : Bool) : Fit (.bool b) 0 0 :=
  ⟨PyData.showable.eq_2 b, PyData.hasDict.eq_2 b, by rw [PyData.depth.eq_5]; exact Nat.le_refl _, PyData.leavesShort.eq_2 13 b, by rw [PyData.bulk.eq_6]; exact Nat.le_refl _, PyData.canLay0.eq_2 b⟩
theorem Fit.none : Fit .none 0 0 :=
  ⟨PyData.showable.eq_1, PyData.hasDict.eq_1, by rw [PyData.depth.eq_4]; exact Nat.le_refl _, PyData.leavesShort.eq_1 13, by rw [PyData.bulk.eq_5]; exact Nat.le_refl _, PyData.canLay0.eq_1⟩
theorem Fit.str {x : Str} {n : Nat} (h : ∀ c ∈ x.cps.toList, c < 1114112) (hn : x.cps.size ≤ n) : Fit (.str x) 0 n := by
  refine ⟨PyData.showable.eq_3 x, PyData.hasDict.eq_4 x, ?_, ?_, by rw [PyData.bulk.eq_1]; exact hn, ?_⟩
  · rw [PyData.depth.eq_7]
    exact Nat.le_refl _
  · rw [PyData.leavesShort.eq_4, List.all_eq_true]
    intro c hc
    have := h c hc
    exact decide_eq_true (by omega)
  · rw [PyData.canLay0.eq_4]
    unfold PyData.strOk
    rw [← Array.all_toList, List.all_eq_true]
    intro c hc
    exact decide_eq_true (h c hc)
theorem Fit.lt {c : Nat} (h : c < 1114112) : Fit (DV.lt c) 0 1 := Fit.str (by simpa using h) (by simp)
theorem FitL.nil {k w : Nat} : FitL [] k w := ⟨PyData.showableAll.eq_1, PyData.hasDictAll.eq_1, by rw [PyData.depthAll.eq_1]; exact Nat.zero_le _, PyData.leavesShortAll.eq_1 13, by rw [PyData.bulkAll.eq_1]; exact Nat.zero_le _, PyData.canLayAll0.eq_1⟩
theorem FitL.cons {d : PyData} {ds : List PyData} {k w w' : Nat} (h : Fit d k w) (hs : FitL ds k w') : FitL (d :: ds) k (w + 1 + w') := by
  refine ⟨?_, ?_, ?_, ?_, ?_, ?_⟩
  · rw [PyData.showableAll.eq_2, h.sh, hs.sh]
    rfl
  · rw [PyData.hasDictAll.eq_2, h.hd, hs.hd]
    rfl
  · rw [PyData.depthAll.eq_2]
    exact Nat.max_le.mpr ⟨h.dp, hs.dp⟩
  · rw [PyData.leavesShortAll.eq_2, h.ls, hs.ls]
    rfl
  · rw [PyData.bulkAll.eq_2]
    have := h.bk
    have := hs.bk
    omega
  · rw [PyData.canLayAll0.eq_2, h.ly, hs.ly]
    rfl
theorem Fit.mono {d : PyData} {k k' w w' : Nat} (h : Fit d k w) (hk : k ≤ k') (hw : w ≤ w') : Fit d k' w' := ⟨h.sh, h.hd, Nat.le_trans h.dp hk, h.ls, Nat.le_trans h.bk hw, h.ly⟩
theorem FitL.mono {d : List PyData} {k k' w w' : Nat} (h : FitL d k w) (hk : k ≤ k') (hw : w ≤ w') : FitL d k' w' := ⟨h.sh, h.hd, Nat.le_trans h.dp hk, h.ls, Nat.le_trans h.bk hw, h.ly⟩
theorem FitL.all {k w : Nat} : ∀ {ds : List PyData}, (∀ d ∈ ds, Fit d k w) → FitL ds k (ds.length * (w + 1))
  | [], _ => .nil
  | d :: ds, h => by
    have := FitL.cons (h d (List.mem_cons_self ..)) (FitL.all fun e he => h e (List.mem_cons_of_mem _ he))
    refine this.mono (Nat.le_refl _) ?_
    rw [List.length_cons, Nat.add_mul]
    omega
theorem Fit.list {ds : List PyData} {k w : Nat} (h : FitL ds k w) : Fit (.list ds) (k + 1) w := by
  refine ⟨by rw [PyData.showable.eq_5]; exact h.sh, by rw [PyData.hasDict.eq_5]; exact h.hd, by rw [PyData.depth.eq_1]; exact Nat.succ_le_succ h.dp, by rw [PyData.leavesShort.eq_5]; exact h.ls, by rw [PyData.bulk.eq_2]; exact h.bk, by rw [PyData.canLay0.eq_5]; exact h.ly⟩
theorem Fit.tuple {ds : List PyData} {k w : Nat} (h : FitL ds k w) : Fit (.tuple ds) (k + 1) w := by
  refine ⟨by rw [PyData.showable.eq_6]; exact h.sh, by rw [PyData.hasDict.eq_6]; exact h.hd, by rw [PyData.depth.eq_2]; exact Nat.succ_le_succ h.dp, by rw [PyData.leavesShort.eq_6]; exact h.ls, by rw [PyData.bulk.eq_3]; exact h.bk, by rw [PyData.canLay0.eq_6]; exact h.ly⟩
theorem Fit.listN {ds : List PyData} {k w m : Nat} (h : ∀ d ∈ ds, Fit d k w) (hm : ds.length ≤ m) : Fit (.list ds) (k + 1) (m * (w + 1)) := (Fit.list (FitL.all h)).mono (Nat.le_refl _) (Nat.mul_le_mul_right _ hm)
theorem Fit.tupleN {ds : List PyData} {k w m : Nat} (h : ∀ d ∈ ds, Fit d k w) (hm : ds.length ≤ m) : Fit (.tuple ds) (k + 1) (m * (w + 1)) := (Fit.tuple (FitL.all h)).mono (Nat.le_refl _) (Nat.mul_le_mul_right _ hm)
theorem Fit.shaped {d : PyData} {k w : Nat} (h : Fit d k w) (hk : k ≤ 64) : SeqAt.shaped d = true := by
  unfold SeqAt.shaped
  rw [h.ly, Bool.true_and, decide_eq_true_eq]
  exact Nat.le_trans h.dp hk
theorem Fit.repr {d : PyData} {k w : Nat} (h : Fit d k w) (hk : k ≤ 60) (hw : w ≤ 2 ^ 20) (S : Sto) : reprD [.py d] S = .ok (.py (.str d.shown)) S := by
  have e : deep S 8 (.py d) = some d := rfl
  unfold reprD
  simp only [e]
  rw [if_pos ⟨h.sh, h.hd, Nat.le_trans h.dp hk, PyData.shown_fits_bulk (by decide) (by decide) h.ls (Nat.le_trans h.bk hw)⟩]
/-- letters, pairs, rows -/
theorem fit_encT {p : Pair} (h1 : p.1 < 1114112) (h2 : p.2.1 < 1114112) (h3 : -999999999999 ≤ p.2.2) (h4 : p.2.2 ≤ 999999999999) : Fit (encT p) 1 5 :=
  (Fit.tuple (.cons (Fit.lt h1) (.cons (Fit.lt h2) (.cons (Fit.int h3 h4) (FitL.nil (w := 0)))))).mono (by decide) (by decide)
end DV

set_option maxHeartbeats 4000000
namespace DV
open PySem
/-! All pairs, gaps told by their list. -/
theorem zip_at {α β : Type} {xs : List α} {ys : List β} {i : Nat} {x : α} {y : β} (h1 : xs[i]? = some x) (h2 : ys[i]? = some y) : (xs.zip ys)[i]? = some (x, y) := by
  rw [List.getElem?_zip_eq_some]
  exact ⟨h1, h2⟩
theorem mem_zip_at {α β : Type} {xs : List α} {ys : List β} {p : α × β} (h : p ∈ xs.zip ys) : ∃ i : Nat, xs[i]? = some p.1 ∧ ys[i]? = some p.2 := by
  obtain ⟨i, hi⟩ := List.getElem?_of_mem h
  exact ⟨i, List.getElem?_zip_eq_some.mp hi⟩
theorem mem_mlist {L : List Nat} {rows : List (List Int)} {p : Pair} (h : p ∈ mlist L rows) : ∃ (i j : Nat) (row : List Int), L[i]? = some p.1 ∧ rows[i]? = some row ∧ L[j]? = some p.2.1 ∧ row[j]? = some p.2.2 ∧ p.2.2 ≠ 0 := by
  unfold mlist rowP rowA at h
  rw [List.mem_flatMap] at h
  obtain ⟨x, hx, hp⟩ := h
  rw [List.mem_map] at hp
  obtain ⟨y, hy, rfl⟩ := hp
  rw [List.mem_filter] at hy
  obtain ⟨i, h1, h2⟩ := mem_zip_at hx
  obtain ⟨j, h3, h4⟩ := mem_zip_at hy.1
  exact ⟨i, j, x.2, h1, h2, h3, h4, by simpa using hy.2⟩
/-! the data of lists -/
theorem Face.Good.mem {f : Face} {lo hi : Int} (h : f.Good lo hi) {c : Nat} (hc : c ∈ f.lets) : 97 ≤ c ∧ c ≤ 122 := by
  obtain ⟨p, hp, rfl⟩ := List.mem_map.mp hc
  exact ⟨(h.ok p hp).1, (h.ok p hp).2.1⟩
/-! ### all pairs -/
/-! ### what has changed, row by row -/
theorem map_fst_zip {α β : Type} : ∀ {xs : List α} {ys : List β}, xs.length ≤ ys.length → (xs.zip ys).map Prod.fst = xs
  | [], _, _ => by simp
  | _ :: _, [], h => by simp at h
  | x :: xs, y :: ys, h => by
    have := map_fst_zip (xs := xs) (ys := ys) (by simpa using h)
    simp [this]
/-- rows turned about -/
def turnR (n : Nat) (R : List (List Int)) : List (List Int) := (List.range n).map fun j => R.map fun row => row.getD j 0
theorem Rows.turn {R : List (List Int)} {n : Nat} (h : Rows R n) : Rows (turnR n R) n := by
  refine ⟨by simp [turnR], fun r hr => ?_, fun r hr x hx => ?_⟩
  · obtain ⟨j, _, rfl⟩ := List.mem_map.mp hr
    simpa using h.len
  · obtain ⟨j, hj, rfl⟩ := List.mem_map.mp hr
    obtain ⟨row, hrow, rfl⟩ := List.mem_map.mp hx
    have hl := h.row _ hrow
    rw [List.mem_range] at hj
    have : j < row.length := by omega
    simp [this]
    exact h.bnd _ hrow _ (List.getElem_mem this)
end DV

set_option maxHeartbeats 4000000
namespace DV
open PySem
/-! The law's own loop over its script. -/
def Keep0 (sc : D) (n : Nat) (σ : En) : Prop := ∃ ys : En, σ = some sc :: ys ∧ ys.length = n
theorem Keep0.mk {sc : D} {n : Nat} {ys : En} (h : ys.length = n) : Keep0 sc n (some sc :: ys) := ⟨ys, rfl, h⟩
theorem explode {α : Type} {n : Nat} {r : List α} (h : r.length = n + 1) : ∃ y r', r = y :: r' ∧ r'.length = n := by
  cases r with
  | nil => cases h
  | cons y r' => exact ⟨y, r', rfl, by simpa using h⟩
theorem nil_of {α : Type} {r : List α} (h : r.length = 0) : r = [] := List.eq_nil_of_length_eq_zero h
end DV

set_option maxHeartbeats 4000000
namespace DV
open PySem
/-! Rows of gaps; letters by marks. -/
/-! ### == of lists of whole numbers -/
theorem eqvAll_ints : ∀ (a b : List Int), PyData.eqvAll (a.map PyData.int) (b.map PyData.int) = decide (a = b)
  | [], [] => rfl
  | [], _ :: _ => rfl
  | _ :: _, [] => rfl
  | x :: a, y :: b => by
    show PyData.eqvAll (.int x :: a.map PyData.int) (.int y :: b.map PyData.int) = _
    rw [PyData.eqvAll.eq_2, PyData.eqv.eq_5, eqvAll_ints a b]
    by_cases h : x = y <;> by_cases h2 : a = b <;> simp [h, h2]
abbrev tupI (r : List Int) : PyData := .tuple (r.map .int)
abbrev lstI (r : List Int) : PyData := .list (r.map .int)
theorem eqv_lstI (a b : List Int) : PyData.eqv (lstI a) (lstI b) = decide (a = b) := by rw [PyData.eqv.eq_7, eqvAll_ints]
theorem fit_ints {r : List Int} (h : ∀ x ∈ r, -999999999 ≤ x ∧ x ≤ 999999999) (hl : r.length ≤ 2000) : ∀ d ∈ r.map PyData.int, Fit d 0 0 := fun d hd => by
  obtain ⟨x, hx, rfl⟩ := List.mem_map.mp hd
  have := h x hx
  exact Fit.int (by omega) (by omega)
theorem fit_tupI {r : List Int} (h : ∀ x ∈ r, -999999999 ≤ x ∧ x ≤ 999999999) (hl : r.length ≤ 2000) : Fit (tupI r) 1 2000 := (Fit.tupleN (fit_ints h hl) (m := 2000) (by simpa using hl)).mono (by decide) (by decide)
theorem fit_lstI {r : List Int} (h : ∀ x ∈ r, -999999999 ≤ x ∧ x ≤ 999999999) (hl : r.length ≤ 2000) : Fit (lstI r) 1 2000 := (Fit.listN (fit_ints h hl) (m := 2000) (by simpa using hl)).mono (by decide) (by decide)
/-- marks that may be compared -/
structure Mk (M : List (List Int)) : Prop where
  len : M.length ≤ 200
  row : ∀ r ∈ M, r.length ≤ 2000
  bnd : ∀ r ∈ M, ∀ x ∈ r, -999999999 ≤ x ∧ x ≤ 999999999
/-- how marks are held -/
structure Enc (e : List Int → PyData) : Prop where
  eqv : ∀ a b, PyData.eqv (e a) (e b) = decide (a = b)
  fit : ∀ r : List Int, (∀ x ∈ r, -999999999 ≤ x ∧ x ≤ 999999999) → r.length ≤ 2000 → Fit (e r) 1 2000
  flat : ∀ a b, flatD (e a) (e b) = none
theorem enc_lst : Enc lstI := ⟨eqv_lstI, fun _ => fit_lstI, fun _ _ => rfl⟩
theorem Enc.eq {e : List Int → PyData} (h : Enc e) {a b : List Int} (ha : (∀ x ∈ a, -999999999 ≤ x ∧ x ≤ 999999999) ∧ a.length ≤ 2000) (hb : (∀ x ∈ b, -999999999 ≤ x ∧ x ≤ 999999999) ∧ b.length ≤ 2000) (S : Sto) : eqD (.py (e a)) (.py (e b)) S = .ok (.py (.bool (decide (a = b)))) S := by
  have hf := h.flat a b
  simp only [eqD, eqB, hf]
  rw [if_pos ⟨(h.fit a ha.1 ha.2).shaped (by decide), (h.fit b hb.1 hb.2).shaped (by decide)⟩, h.eqv]
theorem Enc.fitL {e : List Int → PyData} (h : Enc e) {M : List (List Int)} (hM : Mk M) : Fit (.list (M.map e)) 2 402000 :=
  (Fit.listN (k := 1) (w := 2000) (m := 200) (fun d hd => by
    obtain ⟨r, hr, rfl⟩ := List.mem_map.mp hd
    exact h.fit r (hM.bnd r hr) (hM.row r hr)) (by rw [List.length_map]; exact hM.len)).mono (by decide) (by decide)
/-! ### each mark once -/
def firsts (M : List (List Int)) : List (List Int) := M.foldl (fun acc m => if m ∈ acc then acc else acc ++ [m]) []
theorem firsts_snoc (M : List (List Int)) (m : List Int) : firsts (M ++ [m]) = if m ∈ firsts M then firsts M else firsts M ++ [m] := by
  unfold firsts
  rw [List.foldl_append]
  rfl
theorem mem_fold {m : List Int} : ∀ {M acc : List (List Int)}, m ∈ M.foldl (fun acc m => if m ∈ acc then acc else acc ++ [m]) acc ↔ m ∈ acc ∨ m ∈ M
  | [], acc => by simp
  | x :: M, acc => by
    rw [List.foldl_cons, mem_fold]
    split
    · rename_i h
      rw [List.mem_cons]
      exact ⟨fun z => z.elim .inl fun q => .inr (.inr q), fun z => z.elim .inl fun q => q.elim (fun e => .inl (e ▸ h)) .inr⟩
    · rw [List.mem_append, List.mem_singleton, List.mem_cons, or_assoc]
theorem mem_firsts {m : List Int} {M : List (List Int)} : m ∈ firsts M ↔ m ∈ M := by
  unfold firsts
  rw [mem_fold]
  simp
def groups (L : List Nat) (M : List (List Int)) : List (List Nat) := (firsts M).map fun m => ((L.zip M).filter fun p => p.2 = m).map (·.1)
abbrev encG (G : List (List Nat)) : PyData := .tuple (G.map fun g => .tuple (g.map lt))
theorem firsts_len : ∀ M : List (List Int), (firsts M).length ≤ M.length := by
  have key : ∀ (M acc : List (List Int)), (M.foldl (fun acc m => if m ∈ acc then acc else acc ++ [m]) acc).length ≤ acc.length + M.length := by
    intro M
    induction M with
    | nil => simp
    | cons x M ih =>
      intro acc
      rw [List.foldl_cons]
      refine Nat.le_trans (ih _) ?_
      split
      · rw [List.length_cons]
        omega
      · rw [List.length_append, List.length_cons, List.length_cons, List.length_nil]
        omega
  intro M
  have := key M []
  simpa [firsts] using this
theorem Mk.sub {M N : List (List Int)} (h : Mk M) (hl : N.length ≤ M.length) (hs : ∀ r ∈ N, r ∈ M) : Mk N := ⟨Nat.le_trans hl h.len, fun r hr => h.row r (hs r hr), fun r hr => h.bnd r (hs r hr)⟩
theorem Mk.firsts {M : List (List Int)} (h : Mk M) : Mk (firsts M) := h.sub (firsts_len M) fun _ hr => mem_firsts.mp hr
theorem Mk.pre {pre post : List (List Int)} (h : Mk (pre ++ post)) : Mk pre := h.sub (by simp) fun _ hr => List.mem_append_left _ hr
theorem mapM_deep (S : Sto) : ∀ ds : List PyData, (ds.map D.py).mapM (deep S 7) = some ds
  | [] => rfl
  | d :: ds => by
    rw [List.map_cons, List.mapM_cons, mapM_deep S ds]
    rfl
theorem deep_stL (S : Sto) (ds : List PyData) : deep (stL S ds) 8 (.obj S.length) = some (.list ds) := by
  simp only [deep, stL_get, mapM_deep]
  rfl
theorem any_eqv {e : List Int → PyData} (he : Enc e) (x : List Int) : ∀ K : List (List Int), ((K.map e).any fun z => PyData.eqv z (e x)) = decide (x ∈ K)
  | [] => rfl
  | k :: K => by
    rw [List.map_cons, List.any_cons, any_eqv he x K, he.eqv]
    by_cases h : k = x
    · simp [h]
    · simp [h, Ne.symm h]
theorem Enc.notin {e : List Int → PyData} (he : Enc e) {x : List Int} {K : List (List Int)} (hx : (∀ y ∈ x, -999999999 ≤ y ∧ y ≤ 999999999) ∧ x.length ≤ 2000) (hK : Mk K) (S : Sto) :
    notInD (.py (e x)) (.obj S.length) (stL S (K.map e)) = .ok (.py (.bool (!decide (x ∈ K)))) (stL S (K.map e)) := by
  have h1 : deep (stL S (K.map e)) 8 (.py (e x)) = some (e x) := rfl
  simp only [notInD, inS, deep_stL, h1, inB]
  rw [if_pos ⟨(he.fit x hx.1 hx.2).shaped (by decide), (he.fitL hK).shaped (by decide)⟩, any_eqv he]
/-- the marks as they are walked -/
structure Mks (d : PyData) (e : List Int → PyData) (M : List (List Int)) : Prop where
  seq : seqD (.py d) = some (M.map e)
  walk : ∀ S, pyWalk S (.py d) = some (M.map e)
end DV

set_option maxHeartbeats 4000000
namespace DV
open PySem
/-! The law's own gaps, marks and groups. -/
def LP (P : List Pair) : Prop := P.length ≤ 40000 ∧ ∀ p ∈ P, p.1 ≤ 122 ∧ p.2.1 ≤ 122
def leftM (f : Face) (P : List Pair) : List (List Int) := f.lets.map fun l => f.lets.map fun r => gapIn P l r
def rightM (f : Face) (P : List Pair) : List (List Int) := f.lets.map fun r => f.lets.map fun l => gapIn P l r
/-! ### the first place of a mark -/
theorem place_enc {e : List Int → PyData} (he : Enc e) (M : List (List Int)) (x : List Int) : placeOf (M.map e) (e x) = M.findIdx? fun m => decide (m = x) := by
  unfold placeOf
  rw [List.findIdx?_map]
  congr 1
  funext m
  exact he.eqv m x
theorem find_new {pre post : List (List Int)} {x : List Int} (h : x ∉ pre) : (pre ++ x :: post).findIdx? (fun m => decide (m = x)) = some pre.length := by
  rw [List.findIdx?_append, List.findIdx?_eq_none_iff.mpr fun m hm => by
    rw [decide_eq_false_iff_not]
    exact fun e => h (e ▸ hm)]
  simp [List.findIdx?_cons]
theorem find_old {pre post : List (List Int)} {x : List Int} (h : x ∈ pre) : ∃ j, (pre ++ x :: post).findIdx? (fun m => decide (m = x)) = some j ∧ j < pre.length := by
  rw [List.findIdx?_append]
  cases hf : pre.findIdx? (fun m => decide (m = x)) with
  | none =>
    rw [List.findIdx?_eq_none_iff] at hf
    have := hf x h
    simp at this
  | some j => exact ⟨j, rfl, (List.findIdx?_eq_some_iff_getElem.mp hf).1⟩
theorem Enc.index {e : List Int → PyData} (he : Enc e) {M : List (List Int)} {x : List Int} {j : Nat} (hM : Mk M) (hx : (∀ y ∈ x, -999999999 ≤ y ∧ y ≤ 999999999) ∧ x.length ≤ 2000) (hj : M.findIdx? (fun m => decide (m = x)) = some j) (S : Sto) :
    indexD (.py (.list (M.map e))) [.py (e x)] S = .ok (.py (.int (j : Nat))) S := by
  have h1 : deep S 8 (.py (.list (M.map e))) = some (.list (M.map e)) := rfl
  have h2 : deep S 8 (.py (e x)) = some (e x) := rfl
  simp only [indexD, h1, h2, place_enc he, hj]
  rw [if_pos ⟨(he.fitL hM).shaped (by decide), (he.fit x hx.1 hx.2).shaped (by decide)⟩]
theorem zipIdx_split {α : Type} {M : List α} {pre post : List (α × Nat)} {x : α × Nat} (h : M.zipIdx = pre ++ x :: post) : M = pre.map (·.1) ++ x.1 :: post.map (·.1) ∧ x.2 = pre.length := by
  have h1 := congrArg (List.map (·.1)) h
  rw [List.zipIdx_map_fst] at h1
  refine ⟨by simpa using h1, ?_⟩
  have h2 : (M.zipIdx)[pre.length]? = some x := by rw [h]; simp
  rw [List.getElem?_zipIdx] at h2
  cases hm : M[pre.length]? with
  | none => rw [hm] at h2; cases h2
  | some m =>
    rw [hm] at h2
    have := Option.some.inj h2
    rw [← this]
    simp
end DV

set_option maxHeartbeats 4000000
namespace DV
open PySem
/-! Lists of gaps that are small enough. -/
structure PG (P : List Pair) : Prop where
  len : P.length ≤ 40000
  lts : ∀ p ∈ P, p.1 ≤ 122 ∧ p.2.1 ≤ 122
  gap : ∀ p ∈ P, -999999999 ≤ p.2.2 ∧ p.2.2 ≤ 999999999
theorem PG.nil : PG [] := ⟨by simp, by simp, by simp⟩
theorem PG.lp {P : List Pair} (h : PG P) : LP P := ⟨h.len, h.lts⟩
theorem mlist_len (L : List Nat) (R : List (List Int)) (hl : L.length ≤ 200) : (mlist L R).length ≤ 40000 := by
  have h := flat_len (fun p : Nat × List Int => rowP p.1 L p.2) L.length (L.zip R) fun p _ => rowP_len _ _ _
  have h2 : (L.zip R).length ≤ L.length := by rw [List.length_zip]; exact Nat.min_le_left _ _
  have h3 : (L.zip R).length * L.length ≤ 200 * 200 := Nat.mul_le_mul (Nat.le_trans h2 hl) hl
  unfold mlist
  omega
theorem PG.mlist {L : List Nat} {R : List (List Int)} (hL : ∀ c ∈ L, c ≤ 122) (hr : ∀ r ∈ R, ∀ x ∈ r, -999999999 ≤ x ∧ x ≤ 999999999) (hl : L.length ≤ 200) : PG (mlist L R) := by
  refine ⟨mlist_len L R hl, fun p hp => ?_, fun p hp => ?_⟩
  · obtain ⟨i, j, row, k1, k2, k3, k4, _⟩ := mem_mlist hp
    exact ⟨hL _ (List.mem_of_getElem? k1), hL _ (List.mem_of_getElem? k3)⟩
  · obtain ⟨i, j, row, k1, k2, k3, k4, _⟩ := mem_mlist hp
    exact hr _ (List.mem_of_getElem? k2) _ (List.mem_of_getElem? k4)
theorem PG.fit {P : List Pair} (h : PG P) : Fit (encP P) 2 240000 := by
  refine (Fit.tupleN (k := 1) (w := 5) (m := 40000) (fun d hd => ?_) (by simpa using h.len)).mono (by decide) (by decide)
  obtain ⟨p, hp, rfl⟩ := List.mem_map.mp hd
  have a := h.lts p hp
  have b := h.gap p hp
  exact fit_encT (by omega) (by omega) (by omega) (by omega)
theorem PG.bnd {P : List Pair} (h : PG P) (l r : Nat) : -999999999 ≤ gapIn P l r ∧ gapIn P l r ≤ 999999999 := by
  unfold gapIn
  split
  · rename_i p hp
    exact h.gap p (List.mem_of_find?_eq_some hp)
  · omega
theorem PG.left {P : List Pair} (h : PG P) {f : Face} (hf : f.ls.length ≤ 200) : Mk (leftM f P) := by
  refine ⟨by simpa [leftM] using hf, fun r hr => ?_, fun r hr x hx => ?_⟩
  · obtain ⟨l, _, rfl⟩ := List.mem_map.mp hr
    simp
    omega
  · obtain ⟨l, _, rfl⟩ := List.mem_map.mp hr
    obtain ⟨q, _, rfl⟩ := List.mem_map.mp hx
    exact h.bnd _ _
theorem PG.right {P : List Pair} (h : PG P) {f : Face} (hf : f.ls.length ≤ 200) : Mk (rightM f P) := by
  refine ⟨by simpa [rightM] using hf, fun r hr => ?_, fun r hr x hx => ?_⟩
  · obtain ⟨l, _, rfl⟩ := List.mem_map.mp hr
    simp
    omega
  · obtain ⟨l, _, rfl⟩ := List.mem_map.mp hr
    obtain ⟨q, _, rfl⟩ := List.mem_map.mp hx
    exact h.bnd _ _
end DV

set_option maxHeartbeats 4000000
namespace DV
open PySem
/-! Tables by classes of letters. -/
end DV

set_option maxHeartbeats 4000000
namespace DV
open PySem
/-! Letters, gaps and rows that are known. -/
abbrev encU (R : List (List Int)) : PyData := .tuple (R.map tupI)
@[simp] theorem seqD_encU (R : List (List Int)) : seqD (.py (encU R)) = some (R.map tupI) := id rfl
@[simp] theorem walk_encU (R : List (List Int)) (S : Sto) : pyWalk S (.py (encU R)) = some (R.map tupI) := id rfl
@[simp] theorem seqD_tupI (r : List Int) : seqD (.py (tupI r)) = some (r.map .int) := id rfl
@[simp] theorem walk_tupI (r : List Int) (S : Sto) : pyWalk S (.py (tupI r)) = some (r.map .int) := id rfl
end DV

set_option maxHeartbeats 4000000
namespace DV
open PySem
/-! Partings. -/
theorem sl_big : sizeLine = 16777216 := rfl
/-! ### the place of a letter -/
def plcD : Option Nat → PyData
  | some i => .int i
  | none => .none
theorem place_gen {f : Face} {t : PyData} {p : Nat → Bool} (h : ∀ q ∈ f.ls, ∀ S, eqD (.py (lt q.1)) (.py t) S = .ok (.py (.bool (p q.1))) S) (S : Sto) : F_place_of [.py f.py, .py t] S = .ok (.py (plcD (f.lets.findIdx? p))) S := by
  unfold F_place_of b_place_of
  refine fn_eq (wp_fn ?_)
  simp [init]
  refine wp_forM _ (fun (pre : List ((Nat × Int) × Nat)) σ T => wipeD σ [2, 3] = _ ∧ T = S ∧ ∀ q ∈ pre, p q.1.1 = false) ⟨rfl, rfl, by simp⟩ ?_ ?_
  · rintro pre x post σ T e ⟨hσ, rfl, hp⟩
    obtain ⟨_, _, rfl⟩ := slot2 hσ
    clear hσ
    obtain ⟨e1, e2⟩ := zipIdx_split e
    have hx1 : x.1 ∈ f.ls := by rw [e1]; simp
    have hq := h x.1 hx1
    cases hx : p x.1.1 with
    | true =>
      simp [hq, hx]
      refine ⟨T, .self, rfl, ?_, rfl⟩
      have hfi : f.lets.findIdx? p = some pre.length := by
        unfold Face.lets
        rw [e1, List.map_append, List.findIdx?_append, List.findIdx?_eq_none_iff.mpr]
        · simp [List.findIdx?_cons, hx]
        · intro c hc
          obtain ⟨y, hy, rfl⟩ := List.mem_map.mp hc
          obtain ⟨z, hz, rfl⟩ := List.mem_map.mp hy
          exact hp z hz
      rw [hfi, e2]
      rfl
    | false =>
      have hp' : ∀ q ∈ pre ++ [x], p q.1.1 = false := fun q hq => by
        rw [List.mem_append, List.mem_singleton] at hq
        rcases hq with hq | rfl
        · exact hp q hq
        · exact hx
      generalize hz : (∀ q ∈ pre ++ [x], p q.1.1 = false) = Z at hp' ⊢
      simp [hq, hx]
      exact hp'
  · rintro σ T ⟨hσ, rfl, hp⟩
    obtain ⟨_, _, rfl⟩ := slot2 hσ
    clear hσ
    simp
    refine ⟨T, .self, rfl, ?_, rfl⟩
    have hfi : f.lets.findIdx? p = none := by
      rw [List.findIdx?_eq_none_iff]
      intro c hc
      obtain ⟨q, hq, rfl⟩ := List.mem_map.mp hc
      obtain ⟨i, hi⟩ := List.getElem?_of_mem hq
      exact hp (q, i) (List.mem_of_getElem? (i := i) (by rw [List.getElem?_zipIdx, hi]; simp))
    rw [hfi]
    rfl
theorem place_lt {f : Face} (c : Nat) (S : Sto) : F_place_of [.py f.py, .py (lt c)] S = .ok (.py (plcD (f.lets.findIdx? fun x => decide (x = c)))) S :=
  place_gen (fun q _ S => by simp) S
abbrev plc (L : List Nat) (c : Nat) : Nat := L.idxOf c
theorem find_idxOf {L : List Nat} {c : Nat} (h : c ∈ L) : L.findIdx? (fun x => decide (x = c)) = some (plc L c) := by
  have : (fun x => decide (x = c)) = fun x => x == c := by
    funext x
    by_cases h : x = c <;> simp [h]
  rw [this]
  have h2 := List.idxOf_lt_length_of_mem h
  rw [List.findIdx?_eq_some_iff_findIdx_eq]
  exact ⟨h2, rfl⟩
theorem place_mem {f : Face} {c : Nat} (h : c ∈ f.lets) (S : Sto) : F_place_of [.py f.py, .py (lt c)] S = .ok (.py (.int (plc f.lets c : Nat))) S := by
  rw [place_lt, find_idxOf h]
  rfl
/-! ### partings -/
def hd0 (g : List Nat) : Nat := g.headD 0
structure IsPart (L : List Nat) (G : List (List Nat)) : Prop where
  ne : ∀ g ∈ G, g ≠ []
  srt : ∀ g ∈ G, (g.map (plc L)).Pairwise (· < ·)
  mem : ∀ g ∈ G, ∀ c ∈ g, c ∈ L
  heads : (G.map fun g => plc L (hd0 g)).Pairwise (· < ·)
  perm : G.flatten.Perm L
theorem plc_at {L : List Nat} (nd : L.Nodup) {i c : Nat} (h : L[i]? = some c) : plc L c = i := by
  obtain ⟨hi, rfl⟩ := List.getElem?_eq_some_iff.mp h
  exact List.Nodup.idxOf_getElem nd i hi
theorem plc_map {L : List Nat} (nd : L.Nodup) : L.map (plc L) = List.range L.length := by
  refine List.ext_getElem (by simp) fun i h1 h2 => ?_
  simp only [List.getElem_map, List.getElem_range]
  exact plc_at nd (List.getElem?_eq_getElem (by simpa using h1))
theorem plc_lt {L : List Nat} {c : Nat} (h : c ∈ L) : plc L c < L.length := List.idxOf_lt_length_of_mem h
theorem sub_srt {L g : List Nat} (nd : L.Nodup) (h : g.Sublist L) : (g.map (plc L)).Pairwise (· < ·) := by
  have h1 : (g.map (plc L)).Sublist (L.map (plc L)) := h.map _
  rw [plc_map nd] at h1
  exact List.Pairwise.sublist h1 List.pairwise_lt_range
/-! ### groups are partings -/
def grp (L : List Nat) (M : List (List Int)) (m : List Int) : List Nat := ((L.zip M).filter fun p => p.2 = m).map (·.1)
theorem groups_def (L : List Nat) (M : List (List Int)) : groups L M = (firsts M).map (grp L M) := rfl
theorem grp_sub (L : List Nat) (M : List (List Int)) (m : List Int) (hl : L.length ≤ M.length) : (grp L M m).Sublist L := by
  unfold grp
  have : ((L.zip M).filter fun p => p.2 = m).map (·.1) |>.Sublist ((L.zip M).map (·.1)) := List.filter_sublist.map _
  rw [map_fst_zip hl] at this
  exact this
theorem firsts_nodup (M : List (List Int)) : (firsts M).Nodup := by
  have key : ∀ (M acc : List (List Int)), acc.Nodup → (M.foldl (fun acc m => if m ∈ acc then acc else acc ++ [m]) acc).Nodup := by
    intro M
    induction M with
    | nil => exact fun _ h => h
    | cons x M ih =>
      intro acc h
      rw [List.foldl_cons]
      refine ih _ ?_
      split
      · exact h
      · rename_i hx
        rw [List.nodup_append]
        refine ⟨h, by simp, fun a ha b hb => ?_⟩
        rw [List.mem_singleton] at hb
        subst hb
        exact fun e => hx (e ▸ ha)
  exact key M [] List.nodup_nil
theorem mem_grp {L : List Nat} {M : List (List Int)} {m : List Int} {c : Nat} : c ∈ grp L M m ↔ ∃ i : Nat, L[i]? = some c ∧ M[i]? = some m := by
  unfold grp
  rw [List.mem_map]
  constructor
  · rintro ⟨p, hp, rfl⟩
    rw [List.mem_filter] at hp
    obtain ⟨i, h1, h2⟩ := mem_zip_at hp.1
    have : p.2 = m := by simpa using hp.2
    exact ⟨i, h1, this ▸ h2⟩
  · rintro ⟨i, h1, h2⟩
    exact ⟨(c, m), List.mem_filter.mpr ⟨List.mem_of_getElem? (zip_at h1 h2), by simp⟩, rfl⟩
/-- the first letter of a group stands where its mark is first -/
theorem grp_head {L : List Nat} {M : List (List Int)} (nd : L.Nodup) (hl : L.length = M.length) {m : List Int} (hm : m ∈ M) : plc L (hd0 (grp L M m)) = M.idxOf m := by
  have hi := List.idxOf_lt_length_of_mem hm
  have hmi : M[M.idxOf m]? = some m := by rw [List.getElem?_eq_getElem hi, List.getElem_idxOf hi]
  have hLi : M.idxOf m < L.length := by omega
  have eL : L.zip M = (L.zip M).take (M.idxOf m) ++ (L[M.idxOf m], m) :: (L.zip M).drop (M.idxOf m + 1) := by
    conv => lhs; rw [← List.take_append_drop (M.idxOf m) (L.zip M)]
    congr 1
    rw [List.drop_eq_getElem_cons (by rw [List.length_zip]; omega)]
    congr 1
    rw [List.getElem_zip]
    congr 1
    exact List.getElem_idxOf hi
  have hno : ((L.zip M).take (M.idxOf m)).filter (fun p => decide (p.2 = m)) = [] := by
    rw [List.filter_eq_nil_iff]
    intro p hp
    obtain ⟨j, hj, rfl⟩ := List.getElem_of_mem hp
    rw [List.length_take] at hj
    rw [List.getElem_take, List.getElem_zip]
    simp only [decide_eq_true_eq]
    intro e
    have hj2 : j < M.idxOf m := by omega
    have : M.idxOf m ≤ j := by
      have h3 : M.idxOf m = M.idxOf (M[j]'(by omega)) := by rw [e]
      rw [h3]
      have := List.findIdx_le_length (p := (· == M[j]'(by omega))) (xs := M)
      refine Nat.le_of_not_lt fun hlt => ?_
      have := List.not_of_lt_findIdx (p := (· == M[j]'(by omega))) hlt
      simp at this
    omega
  unfold grp hd0
  rw [eL, List.filter_append, hno, List.filter_cons]
  simp only [decide_true, if_true, List.nil_append, List.map_cons, List.headD_cons]
  exact plc_at nd (List.getElem?_eq_getElem hLi)
theorem firsts_sorted : ∀ M : List (List Int), ((firsts M).map fun m => M.idxOf m).Pairwise (· < ·) := by
  have key : ∀ (n : Nat) (M : List (List Int)), M.length = n → ((firsts M).map fun m => M.idxOf m).Pairwise (· < ·) := by
    intro n
    induction n with
    | zero =>
      intro M h
      rw [List.eq_nil_of_length_eq_zero h]
      exact List.Pairwise.nil
    | succ n ih =>
      intro M h
      have hne : M ≠ [] := fun e => by rw [e] at h; cases h
      rw [← List.dropLast_concat_getLast hne]
      generalize hN : M.dropLast = N
      generalize M.getLast hne = x
      have ih := ih N (by rw [← hN]; simp [h])
      rw [firsts_snoc]
      have old : ∀ m ∈ firsts N, (N ++ [x]).idxOf m = N.idxOf m := fun m hm => by
        rw [List.idxOf_append, if_pos (mem_firsts.mp hm)]
      split
      · rw [List.map_congr_left old]
        exact ih
      · rename_i hx
        rw [List.map_append, List.map_congr_left old, List.pairwise_append]
        refine ⟨ih, by simp, fun a ha b hb => ?_⟩
        obtain ⟨m, hm, rfl⟩ := List.mem_map.mp ha
        have hxN : x ∉ N := fun z => hx (mem_firsts.mpr z)
        simp only [List.map_cons, List.map_nil, List.mem_singleton] at hb
        subst hb
        rw [List.idxOf_append, if_neg hxN]
        have := List.idxOf_lt_length_of_mem (mem_firsts.mp hm)
        omega
  exact fun M => key _ M rfl
theorem groups_part {L : List Nat} {M : List (List Int)} (nd : L.Nodup) (hl : L.length = M.length) : IsPart L (groups L M) := by
  rw [groups_def]
  have sub : ∀ m, (grp L M m).Sublist L := fun m => grp_sub L M m (by omega)
  refine ⟨fun g hg => ?_, fun g hg => ?_, fun g hg c hc => ?_, ?_, ?_⟩
  · obtain ⟨m, hm, rfl⟩ := List.mem_map.mp hg
    obtain ⟨i, hi⟩ := List.getElem?_of_mem (mem_firsts.mp hm)
    have hiL : i < L.length := by rw [hl]; exact (List.getElem?_eq_some_iff.mp hi).1
    intro e
    have : L[i] ∈ grp L M m := mem_grp.mpr ⟨i, List.getElem?_eq_getElem hiL, hi⟩
    rw [e] at this
    cases this
  · obtain ⟨m, hm, rfl⟩ := List.mem_map.mp hg
    exact sub_srt nd (sub m)
  · obtain ⟨m, hm, rfl⟩ := List.mem_map.mp hg
    exact (sub m).subset hc
  · rw [List.map_map]
    have : ∀ m ∈ firsts M, ((fun g => plc L (hd0 g)) ∘ grp L M) m = M.idxOf m := fun m hm => grp_head nd hl (mem_firsts.mp hm)
    rw [List.map_congr_left this]
    exact firsts_sorted M
  · have nf : ((firsts M).map (grp L M)).flatten.Nodup := by
      rw [List.Nodup, List.pairwise_flatten]
      refine ⟨fun g hg => ?_, ?_⟩
      · obtain ⟨m, hm, rfl⟩ := List.mem_map.mp hg
        exact nd.sublist (sub m)
      · rw [List.pairwise_map]
        refine (firsts_nodup M).imp fun {a b} hab c h1 c' h2 e => ?_
        subst e
        obtain ⟨i, e1, e2⟩ := mem_grp.mp h1
        obtain ⟨j, e3, e4⟩ := mem_grp.mp h2
        have := nodup_get nd e1 e3
        subst this
        rw [e2] at e4
        exact hab (Option.some.inj e4)
    rw [List.perm_ext_iff_of_nodup nf nd]
    intro c
    rw [List.mem_flatten]
    constructor
    · rintro ⟨g, hg, hc⟩
      obtain ⟨m, hm, rfl⟩ := List.mem_map.mp hg
      exact (sub m).subset hc
    · intro hc
      obtain ⟨i, hi⟩ := List.getElem?_of_mem hc
      have hiM : i < M.length := by rw [← hl]; exact (List.getElem?_eq_some_iff.mp hi).1
      exact ⟨_, List.mem_map.mpr ⟨M[i], mem_firsts.mpr (List.getElem_mem hiM), rfl⟩, mem_grp.mpr ⟨i, hi, List.getElem?_eq_getElem hiM⟩⟩
end DV

set_option maxHeartbeats 4000000
namespace DV
open PySem
/-! Partings are known; classes. -/
structure Sm (r : List Int) : Prop where
  bnd : ∀ x ∈ r, -999999999 ≤ x ∧ x ≤ 999999999
  len : r.length ≤ 2000
theorem eq_lstI {a b : List Int} (ha : Sm a) (hb : Sm b) (S : Sto) : eqD (.py (lstI a)) (.py (lstI b)) S = .ok (.py (.bool (decide (a = b)))) S := enc_lst.eq ⟨ha.bnd, ha.len⟩ ⟨hb.bnd, hb.len⟩ S
theorem neD_of {d e : PyData} {k : Bool} {S : Sto} (h : eqD (.py d) (.py e) S = .ok (.py (.bool k)) S) : neD (.py d) (.py e) S = .ok (.py (.bool (!k))) S := by
  unfold eqD at h
  unfold neD
  cases hb : eqB d e with
  | none => simp only [hb] at h; cases h
  | some b => simp only [hb] at h; cases h; simp only [hb]
theorem ne_lstI {a b : List Int} (ha : Sm a) (hb : Sm b) (S : Sto) : neD (.py (lstI a)) (.py (lstI b)) S = .ok (.py (.bool (!decide (a = b)))) S := neD_of (eq_lstI ha hb S)
theorem sortedD_ints {r : List Int} (h : r.length < 1000000) (S : Sto) : sortedD [.py (lstI r)] S = .ok ((sortI r).map fun i => D.py (.int i)) S := by
  have e : deep S 8 (.py (lstI r)) = some (.list (r.map .int)) := rfl
  simp only [sortedD, e, intsOf_map]
  rw [if_pos h]
theorem sortI_self {r : List Int} (h : r.Pairwise (· ≤ ·)) : sortI r = r := (sortI_eq (List.Perm.refl r) h).symm
theorem eqD_deep {d e : PyData} (hf : flatD d e = none) (h1 : SeqAt.shaped d = true) (h2 : SeqAt.shaped e = true) (S : Sto) : eqD (.py d) (.py e) S = .ok (.py (.bool (PyData.eqv d e))) S := by
  simp only [eqD, eqB, hf]
  rw [if_pos ⟨h1, h2⟩]
theorem fit_lts {g : List Nat} (h : ∀ c ∈ g, c ≤ 122) (hl : g.length ≤ 200) : Fit (.tuple (g.map lt)) 1 400 := (Fit.tupleN (k := 0) (w := 1) (m := 200) (fun d hd => by
    obtain ⟨c, hc, rfl⟩ := List.mem_map.mp hd
    have := h c hc
    exact Fit.lt (by omega)) (by simpa using hl)).mono (by decide) (by decide)
theorem eq_unit {g : List Nat} (h : ∀ c ∈ g, c ≤ 122) (hl : g.length ≤ 200) (S : Sto) : eqD (.py (.tuple (g.map lt))) (.py (.tuple [])) S = .ok (.py (.bool (decide (g = [])))) S := by
  rw [eqD_deep rfl ((fit_lts h hl).shaped (by decide)) ((Fit.tuple (FitL.nil (k := 0) (w := 0))).shaped (by decide))]
  rw [PyData.eqv.eq_8]
  cases g with
  | nil => rfl
  | cons a g => rfl
theorem none_notin {r : List Int} (h : Sm r) (S : Sto) : inD (.py .none) (.py (lstI r)) S = .ok (.py (.bool false)) S := by
  have h1 : deep S 8 (.py .none) = some .none := rfl
  have h2 : deep S 8 (.py (lstI r)) = some (lstI r) := rfl
  simp only [inD, inS, h1, h2, inB]
  rw [if_pos ⟨Fit.none.shaped (by decide), (fit_lstI h.bnd h.len).shaped (by decide)⟩]
  have : ((r.map PyData.int).any fun z => PyData.eqv z .none) = false := by
    rw [List.any_eq_false]
    intro d hd
    obtain ⟨x, _, rfl⟩ := List.mem_map.mp hd
    simp [PyData.eqv]
  rw [this]
@[simp] theorem wp_sumL (f : Ex) {σ : En} {S : Sto} {P : List D → Sto → Prop} {E : Str → Sto → Prop} : (sumL f σ S).wp P E = (f σ S).wp (fun d S1 => ∃ ds Ls, d = .py (.list ds) ∧ listsOf ds = some Ls ∧ Ls.flatten.length ≤ sizeLine ∧ P (Ls.flatten.map .py) S1) E := by
  unfold sumL
  rw [wp_bind]
  congr 1
  funext d S1
  rcases d with d | n | n
  · cases d
    case list ds =>
      cases h : listsOf ds with
      | none =>
        simp only [h]
        exact propext ⟨fun h => h.elim, fun ⟨_, _, e, h2, _⟩ => by cases e; rw [h] at h2; cases h2⟩
      | some Ls =>
        simp only [h]
        rw [wp_iteR]
        split
        · rename_i hz
          exact propext ⟨fun p => ⟨_, _, rfl, h, hz, p⟩, fun ⟨_, _, e, h2, _, p⟩ => by cases e; rw [h] at h2; cases h2; exact p⟩
        · rename_i hz
          exact propext ⟨fun p => p.elim, fun ⟨_, _, e, h2, z, p⟩ => by cases e; rw [h] at h2; cases h2; exact hz z⟩
    all_goals exact propext ⟨fun h => h.elim, fun ⟨_, _, e, _⟩ => by cases e⟩
  · exact propext ⟨fun h => h.elim, fun ⟨_, _, e, _⟩ => by cases e⟩
  · exact propext ⟨fun h => h.elim, fun ⟨_, _, e, _⟩ => by cases e⟩
theorem listsOf_map : ∀ R : List (List Int), listsOf (R.map lstI) = some (R.map fun r => r.map PyData.int)
  | [] => rfl
  | r :: R => by
    show (listsOf (R.map lstI)).map ((r.map PyData.int) :: ·) = _
    rw [listsOf_map R]
    rfl
/-- places as whole numbers -/
def plI (L : List Nat) (g : List Nat) : List Int := g.map fun c => (plc L c : Int)
@[simp] theorem plI_len (L g : List Nat) : (plI L g).length = g.length := by simp [plI]
theorem plI_D (L g : List Nat) : (g.map fun c => D.py (.int (plc L c : Nat))) = ((plI L g).map PyData.int).map D.py := by simp [plI]
theorem plI_cons (L g : List Nat) (a : Nat) : plI L (a :: g) = (plc L a : Int) :: plI L g := rfl
theorem plI_le {L g : List Nat} (h : (g.map (plc L)).Pairwise (· < ·)) : (plI L g).Pairwise (· ≤ ·) := by
  unfold plI
  rw [List.pairwise_map] at h ⊢
  exact h.imp fun h => by omega
theorem plI_sm {L g : List Nat} (hL : L.length ≤ 40) (h : ∀ c ∈ g, c ∈ L) (hl : g.length ≤ 40) : Sm (plI L g) := by
  refine ⟨fun x hx => ?_, by simp; omega⟩
  unfold plI at hx
  obtain ⟨c, hc, rfl⟩ := List.mem_map.mp hx
  have := plc_lt (h c hc)
  omega
theorem IsPart.len {L : List Nat} {G : List (List Nat)} (h : IsPart L G) : (G.map List.length).sum = L.length := by
  rw [← h.perm.length_eq, List.length_flatten]
theorem IsPart.len1 {L : List Nat} {G : List (List Nat)} (h : IsPart L G) {g : List Nat} (hg : g ∈ G) : g.length ≤ L.length := by
  rw [← h.perm.length_eq]
  exact (List.sublist_flatten_of_mem hg).length_le
theorem IsPart.len2 {L : List Nat} {G : List (List Nat)} (h : IsPart L G) : G.length ≤ L.length := by
  rw [← h.len]
  have key : ∀ G : List (List Nat), (∀ g ∈ G, g ≠ []) → G.length ≤ (G.map List.length).sum := by
    intro G
    induction G with
    | nil => simp
    | cons g G ih =>
      intro h
      have h1 := List.length_pos_iff.mpr (h g (List.mem_cons_self ..))
      have h2 := ih fun x hx => h x (List.mem_cons_of_mem _ hx)
      simp only [List.length_cons, List.map_cons, List.sum_cons]
      omega
  exact key G h.ne
theorem item_headI {a : Int} {r : List Int} {S : Sto} : itemD (.py (lstI (a :: r))) (.py (.int 0)) S = .ok (.py (.int a)) S := itemD_l0
theorem is_parting_eq {f : Face} {G : List (List Nat)} (h : IsPart f.lets G) (nd : f.lets.Nodup) (b : ∀ c ∈ f.lets, c ≤ 122) (h1 : f.ls.length ≤ 40) (S : Sto) : F_is_parting [.py f.py, .py (encG G)] S = .ok (.py (.bool true)) S := by
  have hL : f.lets.length ≤ 40 := by simpa using h1
  have hGl := h.len2
  unfold F_is_parting b_is_parting
  refine fn_eq (wp_fn ?_)
  simp [init, isB]
  rw [stL_nil]
  refine wp_forM (D.py ∘ fun g : List Nat => .tuple (g.map lt)) (fun pre σ T => wipeD σ [3, 4] = _ ∧ T = stL S (pre.map fun g => lstI (plI f.lets g))) ⟨rfl, rfl⟩ ?_ ?_
  · rintro pre g post σ T e ⟨hσ, rfl⟩
    obtain ⟨_, _, rfl⟩ := slot2 hσ
    clear hσ
    have hg : g ∈ G := by rw [e]; simp
    have gl := h.len1 hg
    have eu := eq_unit (g := g) (fun c hc => b c (h.mem g hg c hc)) (by omega)
    have gn := h.ne g hg
    have sm := plI_sm hL (h.mem g hg) (by omega)
    have nn := none_notin sm
    have so := sortedD_ints (r := plI f.lets g) (by simp; omega)
    rw [sortI_self (plI_le (h.srt g hg))] at so
    have ne := ne_lstI sm sm
    simp only [decide_true, Bool.not_true] at ne
    have lp : pre.length ≤ 40 := by
      have := congrArg List.length e
      rw [List.length_append] at this
      omega
    simp [eu, gn, isB]
    refine wp_pureM1 (D.py ∘ lt) (fun c => D.py (.int (plc f.lets c : Nat))) (fun c hc => wp_eq ?_) ?_
    · simp [place_mem (h.mem g hg c hc)]
    · have ap := stL_app (S := S) (ds := pre.map fun g => lstI (plI f.lets g)) (d := lstI (plI f.lets g)) (by rw [List.length_map, sl_big]; omega)
      rw [plI_D]
      simp [nn, so, ne, ap]
  · rintro σ T ⟨hσ, rfl⟩
    obtain ⟨_, _, rfl⟩ := slot2 hσ
    clear hσ
    simp
    refine stL_fix rfl ?_
    simp
    refine wp_pureM1 (D.py ∘ fun g => lstI (plI f.lets g)) (fun g => D.py (.int (plc f.lets (hd0 g) : Nat))) (fun g hg => ?_) ?_
    · have gn := h.ne g hg
      cases g with
      | nil => exact absurd rfl gn
      | cons a g => exact wp_eq (by simp [plI_cons, item_headI, hd0])
    · have hh : (plI f.lets (G.map hd0)).Pairwise (· ≤ ·) := plI_le (by simpa [Function.comp_def] using h.heads)
      have hm : ∀ c ∈ G.map hd0, c ∈ f.lets := fun c hc => by
        obtain ⟨g, hg, rfl⟩ := List.mem_map.mp hc
        have gn := h.ne g hg
        cases g with
        | nil => exact absurd rfl gn
        | cons a g => exact h.mem _ hg a (List.mem_cons_self ..)
      have sm := plI_sm hL hm (by simp; omega)
      have so := sortedD_ints (r := plI f.lets (G.map hd0)) (by simp; omega)
      rw [sortI_self hh] at so
      have eq := eq_lstI sm sm
      simp only [decide_true] at eq
      have fl : ((G.map fun g => plI f.lets g).map fun r => r.map PyData.int).flatten = (plI f.lets G.flatten).map PyData.int := by
        simp [plI, List.map_flatten, Function.comp_def]
      have so2 := sortedD_ints (r := plI f.lets G.flatten) (by rw [plI_len, h.perm.length_eq]; omega)
      have er : sortI (plI f.lets G.flatten) = (List.range f.lets.length).map fun (k : Nat) => (k : Int) := by
        refine (sortI_eq ?_ ?_).symm
        · have h3 := (h.perm.map (plc f.lets)).symm
          rw [plc_map nd] at h3
          have := h3.map fun (k : Nat) => (k : Int)
          simpa [Function.comp_def, plI] using this
        · rw [List.pairwise_map]
          exact List.pairwise_le_range.imp fun h => by omega
      rw [er] at so2
      generalize hrr : ((List.range f.lets.length).map fun (k : Nat) => (k : Int)) = rr at so2
      have smr : Sm rr := by
        subst hrr
        refine ⟨fun x hx => ?_, by rw [List.length_map, List.length_range]; omega⟩
        obtain ⟨k, hk, rfl⟩ := List.mem_map.mp hx
        rw [List.mem_range] at hk
        omega
      have eq2 := eq_lstI smr smr
      simp only [decide_true] at eq2
      have e1 : (G.map fun g => D.py (.int (plc f.lets (hd0 g) : Nat))) = ((plI f.lets (G.map hd0)).map PyData.int).map D.py := by simp [plI]
      have e2 : rngV 0 f.ls.length = (rr.map PyData.int).map D.py := by
        subst hrr
        simp [rngV]
      rw [e1]
      have lo : listsOf (List.map (fun g => lstI (plI f.lets g)) G) = some ((G.map fun g => plI f.lets g).map fun r => r.map PyData.int) := by
        show listsOf (List.map (lstI ∘ fun g => plI f.lets g) G) = _
        rw [← List.map_map]
        exact listsOf_map _
      have fl2 : (((G.map fun g => plI f.lets g).map fun r => r.map PyData.int).map (List.map D.py)).flatten = ((plI f.lets G.flatten).map PyData.int).map D.py := by rw [← fl, List.map_flatten]
      have fl3 : ((((G.map fun g => plI f.lets g).map fun r => r.map PyData.int)).map List.length).sum = f.lets.length := by rw [← List.length_flatten, fl, List.length_map, plI_len, h.perm.length_eq]
      simp only [pysOf_map, wp_ok]
      refine ⟨_, lo, ?_, ?_⟩
      · rw [fl3, sl_big]
        omega
      · rw [fl2]
        simp [so2, so, eq, e2, eq2]
        exact ⟨by omega, .app, rfl⟩
end DV

set_option maxHeartbeats 4000000
namespace DV
open PySem
/-! Tables: what they tell. -/
inductive Ky where
  | l (c : Nat)
  | n (i : Nat)
  deriving DecidableEq
def encK : Ky → PyData
  | .l c => lt c
  | .n i => .int i
abbrev Exc := Ky × Ky × Int
abbrev encE (e : Exc) : PyData := .tuple [encK e.1, encK e.2.1, .int e.2.2]
theorem eq_key (a b : Ky) (S : Sto) : eqD (.py (encK a)) (.py (encK b)) S = .ok (.py (.bool (decide (a = b)))) S := by
  cases a <;> cases b <;> simp [encK, eqD, eqB, flatD, Int.ofNat_inj]
@[simp] theorem eq_kk (a b : Ky) (S : Sto) : eqD (.py (encK a)) (.py (encK b)) S = .ok (.py (.bool (decide (a = b)))) S := eq_key a b S
structure Tab where
  lefts : List (List Nat)
  rights : List (List Nat)
  gaps : List (List Int)
  exc : List Exc
abbrev Tab.py (t : Tab) : PyData := .tuple [encG t.lefts, encG t.rights, encU t.gaps, .tuple (t.exc.map encE)]
def clsIn (G : List (List Nat)) (c : Nat) : Nat := G.findIdx fun g => decide (c ∈ g)
theorem IsPart.has {L : List Nat} {G : List (List Nat)} (h : IsPart L G) {c : Nat} (hc : c ∈ L) : ∃ g ∈ G, c ∈ g := List.mem_flatten.mp (h.perm.mem_iff.mpr hc)
/-! ### what is told -/
def hit (es : List Exc) (a b : Ky) : Option Int := (es.find? fun e => decide (e.1 = a ∧ e.2.1 = b)).map (·.2.2)
structure TabOk (L : List Nat) (t : Tab) : Prop where
  lp : IsPart L t.lefts
  rp : IsPart L t.rights
  gl : t.gaps.length = t.lefts.length
  gr : ∀ r ∈ t.gaps, r.length = t.rights.length
  gb : ∀ r ∈ t.gaps, ∀ x ∈ r, -9 ≤ x ∧ x ≤ 9
/-! ### the law's own look -/
def kyB (k : Ky) : Prop := match k with
  | .l c => c ≤ 122
  | .n i => i ≤ 1000
theorem fit_key {k : Ky} (h : kyB k) : Fit (encK k) 0 1 := by
  cases k with
  | l c =>
    have h : c ≤ 122 := h
    exact Fit.lt (by omega)
  | n i =>
    have h : i ≤ 1000 := h
    exact (Fit.int (by omega) (by omega)).mono (by decide) (by decide)
structure ExOk (es : List Exc) : Prop where
  len : es.length ≤ 2000
  key : ∀ e ∈ es, kyB e.1 ∧ kyB e.2.1
  gap : ∀ e ∈ es, -9 ≤ e.2.2 ∧ e.2.2 ≤ 9
def Ky.isL : Ky → Bool
  | .l _ => true
  | .n _ => false
@[simp] theorem isL_l (c : Nat) : (Ky.l c).isL = true := id rfl
@[simp] theorem isL_n (c : Nat) : (Ky.n c).isL = false := id rfl
end DV

set_option maxHeartbeats 4000000
namespace DV
open PySem
/-! Tables drawn from the box; tables known. -/
theorem law_grouped_gen {L : PyData} {Ls : List Nat} {e : List Int → PyData} {M : List (List Int)} (hL : ∀ S, pyWalk S (.py L) = some (Ls.map lt)) (hlen : M.length ≤ 200)
    (hix : ∀ x ∈ M, ∀ j, M.findIdx? (fun m => decide (m = x)) = some j → ∀ S, indexD (.py (.list (M.map e))) [.py (e x)] S = .ok (.py (.int (j : Nat))) S)
    (heq : ∀ a ∈ M, ∀ b ∈ M, ∀ S, eqD (.py (e a)) (.py (e b)) S = .ok (.py (.bool (decide (a = b)))) S) (S : Sto) : F_law_grouped [.py L, .py (.list (M.map e))] S = .ok (.py (encG (groups Ls M))) S := by
  unfold F_law_grouped b_law_grouped
  refine fn_eq (wp_fn ?_)
  simp [init]
  rw [stL_nil]
  refine wp_forM _ (fun (pre : List (List Int × Nat)) σ T => wipeD σ [3, 4] = _ ∧ T = stL S (((firsts (pre.map (·.1))).map fun m => ((Ls.zip M).filter fun p => p.2 = m).map (·.1)).map fun g => PyData.tuple (g.map lt))) ⟨rfl, rfl⟩ ?_ ?_
  · rintro pre x post σ T eM ⟨hσ, rfl⟩
    obtain ⟨_, _, rfl⟩ := slot2 hσ
    clear hσ
    obtain ⟨hs, hp⟩ := zipIdx_split eM
    obtain ⟨x, i⟩ := x
    simp only at hs hp
    subst hp
    have hx : x ∈ M := by rw [hs]; simp
    have hle : (firsts (pre.map (·.1))).length ≤ 200 := by
      have h1 := firsts_len (pre.map (·.1))
      have h2 := congrArg List.length hs
      simp at h1 h2
      omega
    have hfs := firsts_snoc (pre.map (·.1)) x
    by_cases hm : x ∈ pre.map (·.1)
    · obtain ⟨j, hj, hjl⟩ := find_old (post := post.map (·.1)) hm
      rw [← hs] at hj
      have hix := hix x hx j hj
      have hjn : ¬ ((j : Int) = (pre.length : Int)) := by
        rw [List.length_map] at hjl
        omega
      have hm2 := mem_firsts.mpr hm
      rw [if_pos hm2] at hfs
      simp [hix, hjn]
      try simp at hfs
      rw [hfs]
    · have hj := find_new (post := post.map (·.1)) hm
      rw [← hs, List.length_map] at hj
      have hix := hix x hx _ hj
      have hm2 : x ∉ firsts (pre.map (·.1)) := fun z => hm (mem_firsts.mp z)
      rw [if_neg hm2] at hfs
      simp [hix, hL]
      refine wp_pureM _ (fun p : Nat × List Int => decide (p.2 = x)) (fun p => D.py (lt p.1)) (fun p hp => ?_) ?_
      · obtain ⟨i, _, h2⟩ := mem_zip_at hp
        have q := heq _ (List.mem_of_getElem? h2) x hx
        by_cases hpm : p.2 = x
        · rw [hpm] at q
          simp [q, hpm]
        · simp [q, hpm]
      · have ap := stL_app (S := S) (ds := ((firsts (pre.map (·.1))).map fun m => ((Ls.zip M).filter fun p => p.2 = m).map (·.1)).map fun g => PyData.tuple (g.map lt)) (d := .tuple ((((Ls.zip M).filter fun p => p.2 = x).map (·.1)).map lt)) (by rw [List.length_map, List.length_map, show sizeLine = 16777216 from rfl]; omega)
        try simp at hfs
        simp [hfs]
        simp at ap
        refine wp_of ap ?_
        simp
  · rintro σ T ⟨hσ, rfl⟩
    obtain ⟨_, _, rfl⟩ := slot2 hσ
    clear hσ
    simp
    exact ⟨S, .stL, rfl, by simp [groups], rfl⟩
/-- marks that are whole numbers -/
abbrev sing (ms : List Int) : List (List Int) := ms.map fun m => [m]
theorem law_grouped_int {L : PyData} {Ls : List Nat} {ms : List Int} (hL : ∀ S, pyWalk S (.py L) = some (Ls.map lt)) (hs : Sm ms) (hlen : ms.length ≤ 200) (S : Sto) : F_law_grouped [.py L, .py (lstI ms)] S = .ok (.py (encG (groups Ls (sing ms)))) S := by
  have e : lstI ms = .list ((sing ms).map fun r => .int (r.headD 0)) := by simp [Function.comp_def]
  rw [e]
  refine law_grouped_gen hL (by simpa using hlen) (fun x hx j hj S => ?_) (fun a ha b hb S => ?_) S
  · obtain ⟨m, hm, rfl⟩ := List.mem_map.mp hx
    rw [← e]
    have h1 : deep S 8 (.py (lstI ms)) = some (lstI ms) := rfl
    have h2 : deep S 8 (.py (.int m)) = some (.int m) := rfl
    have h3 : placeOf (ms.map PyData.int) (.int m) = some j := by
      unfold placeOf
      rw [List.findIdx?_map] at hj ⊢
      rw [← hj]
      congr 1
      funext k
      simp only [Function.comp_def]
      rw [PyData.eqv.eq_5]
      by_cases h : k = m <;> simp [h]
    have b := hs.bnd m hm
    show indexD (.py (lstI ms)) [.py (.int m)] S = _
    simp only [indexD, h1, h2, h3]
    rw [if_pos ⟨(fit_lstI hs.bnd hs.len).shaped (by decide), (Fit.int (by omega) (by omega)).shaped (by decide)⟩]
  · obtain ⟨m, hm, rfl⟩ := List.mem_map.mp ha
    obtain ⟨k, hk, rfl⟩ := List.mem_map.mp hb
    simp
theorem law_parting_ok {S : Sto} {n : Nat} {f : Face} {most : Int} (h : BoxAt S n) (nd : f.lets.Nodup) (h1 : f.ls.length ≤ 40) (h2 : 0 < most) (h3 : most ≤ 1000) :
    (F_law_parting [.obj n, .py f.py, .py (.int most)] S).wp (fun d S' => ∃ G, d = .py (encG G) ∧ (∃ ms : List Int, G = groups f.lets (sing ms) ∧ ms.length = f.ls.length ∧ ∀ m ∈ ms, 0 ≤ m ∧ m < most) ∧ IsPart f.lets G ∧ Ch n S S' ∧ S'.length = S.length) noE := by
  have hn := h.lt
  unfold F_law_parting b_law_parting
  refine wp_fn ?_
  simp [init, law_letters_eq]
  refine (draws PyData.int (fun r => 0 ≤ r ∧ r < most) h fun x S' _ c => ?_).to ?_
  · simp
    exact (take_ok c.box h2 (by omega)).to fun d S2 ⟨r, e, r0, r1, c2, _⟩ => ⟨r, e, ⟨r0, r1⟩, c2⟩
  rintro _ S1 ⟨ms, rfl, lm, bm, c1⟩
  have lm : ms.length = f.lets.length := by simpa using lm
  have sm : Sm ms := ⟨fun x hx => by have := bm x hx; omega, by rw [lm]; simp; omega⟩
  have lg := law_grouped_int (L := .list (f.lets.map lt)) (Ls := f.lets) (fun _ => rfl) sm (by rw [lm]; simp; omega)
  have gp : IsPart f.lets (groups f.lets (sing ms)) := groups_part nd (by simp [lm])
  obtain ⟨T, k1, k2, k3⟩ := c1.cut hn
  simp
  rw [lg]
  exact ⟨T, k1, rfl, _, rfl, ⟨ms, rfl, by simpa using lm, bm⟩, gp, k2, k3⟩
/-! ### exceptions drawn -/
abbrev kk (e : Exc) : Ky × Ky := (e.1, e.2.1)
def cross (A B : List Ky) : List (Ky × Ky) := A.flatMap fun a => B.map fun b => (a, b)
def gapB (x : Int) : Prop := -9 ≤ x ∧ x ≤ 9
end DV

set_option maxHeartbeats 4000000
namespace DV
open PySem
/-! Exceptions in order; tables known. -/
def keyI (L : List Nat) : Ky × Ky → List Int
  | (.l a, .l b) => [0, plc L a, plc L b]
  | (.l a, .n j) => [1, plc L a, j]
  | (.n i, .l b) => [2, i, plc L b]
  | (.n i, .n j) => [3, i, j]
def allK (L : List Nat) (nl nr : Nat) : List (Ky × Ky) := cross (L.map .l) (L.map .l) ++ (cross (L.map .l) ((List.range nr).map .n) ++ cross ((List.range nl).map .n) (L.map .l))
theorem lex3 (k x y k' x' y' : Int) : HT.lexLt [k, x, y] [k', x', y'] = true ↔ k < k' ∨ (k = k' ∧ (x < x' ∨ (x = x' ∧ y < y'))) := by
  rw [HT.lexLt_cons]
  split
  · rename_i h
    rw [HT.lexLt_cons]
    split
    · rename_i h2
      rw [HT.lexLt_cons]
      split
      · rename_i h3
        simp [HT.lexLt_nil_nil]
        omega
      · simp
        omega
    · simp
      omega
  · simp
    omega
theorem cross_pw {α β : Type} {A : List α} {B : List β} (fa : α → Ky) (fb : β → Ky) (L : List Nat) (k : Int) (ga : α → Int) (gb : β → Int) (hA : A.Pairwise fun a b => ga a < ga b) (hB : B.Pairwise fun a b => gb a < gb b)
    (h : ∀ a b, keyI L (fa a, fb b) = [k, ga a, gb b]) : ((cross (A.map fa) (B.map fb)).map (keyI L)).Pairwise fun a b => HT.lexLt a b = true := by
  unfold cross
  rw [List.pairwise_map, List.flatMap_map, List.pairwise_flatMap]
  refine ⟨fun a ha => ?_, hA.imp fun {a a'} haa x hx y hy => ?_⟩
  · rw [List.map_map, List.pairwise_map]
    refine hB.imp fun {b b'} hbb => ?_
    simp only [Function.comp_def, h]
    rw [lex3]
    omega
  · rw [List.map_map] at hx hy
    obtain ⟨b, hb, rfl⟩ := List.mem_map.mp hx
    obtain ⟨b', hb', rfl⟩ := List.mem_map.mp hy
    simp only [Function.comp_def, h]
    rw [lex3]
    omega
theorem mem_cross {A B : List Ky} {p : Ky × Ky} (h : p ∈ cross A B) : p.1 ∈ A ∧ p.2 ∈ B := by
  unfold cross at h
  obtain ⟨a, ha, h⟩ := List.mem_flatMap.mp h
  obtain ⟨b, hb, rfl⟩ := List.mem_map.mp h
  exact ⟨ha, hb⟩
theorem plc_pw {L : List Nat} (nd : L.Nodup) : L.Pairwise fun a b => (plc L a : Int) < plc L b := by
  have := sub_srt nd (List.Sublist.refl L)
  rw [List.pairwise_map] at this
  exact this.imp fun h => by omega
theorem range_pw (n : Nat) : (List.range n).Pairwise fun (a b : Nat) => (a : Int) < (b : Int) := List.pairwise_lt_range.imp fun h => by omega
theorem allK_pw {L : List Nat} (nd : L.Nodup) (nl nr : Nat) : ((allK L nl nr).map (keyI L)).Pairwise fun a b => HT.lexLt a b = true := by
  unfold allK
  rw [List.map_append, List.map_append, List.pairwise_append, List.pairwise_append]
  have key : ∀ {A B : List Ky} {k : Int}, (∀ a ∈ A, ∀ b ∈ B, ∃ x y, keyI L (a, b) = [k, x, y]) → ∀ z ∈ (cross A B).map (keyI L), ∃ x y, z = [k, x, y] := fun hh z hz => by
    obtain ⟨p, hp, rfl⟩ := List.mem_map.mp hz
    have := mem_cross hp
    exact hh _ this.1 _ this.2
  have k0 := key (A := L.map .l) (B := L.map .l) (k := 0) fun a ha b hb => by
    obtain ⟨a, _, rfl⟩ := List.mem_map.mp ha
    obtain ⟨b, _, rfl⟩ := List.mem_map.mp hb
    exact ⟨_, _, rfl⟩
  have k1 := key (A := L.map .l) (B := (List.range nr).map .n) (k := 1) fun a ha b hb => by
    obtain ⟨a, _, rfl⟩ := List.mem_map.mp ha
    obtain ⟨b, _, rfl⟩ := List.mem_map.mp hb
    exact ⟨_, _, rfl⟩
  have k2 := key (A := (List.range nl).map .n) (B := L.map .l) (k := 2) fun a ha b hb => by
    obtain ⟨a, _, rfl⟩ := List.mem_map.mp ha
    obtain ⟨b, _, rfl⟩ := List.mem_map.mp hb
    exact ⟨_, _, rfl⟩
  refine ⟨cross_pw Ky.l Ky.l L 0 (fun a => plc L a) (fun a => plc L a) (plc_pw nd) (plc_pw nd) fun _ _ => rfl, ⟨cross_pw Ky.l Ky.n L 1 (fun a => plc L a) (fun j => j) (plc_pw nd) (range_pw nr) fun _ _ => rfl, cross_pw Ky.n Ky.l L 2 (fun j => j) (fun a => plc L a) (range_pw nl) (plc_pw nd) fun _ _ => rfl, fun x hx y hy => ?_⟩, fun x hx y hy => ?_⟩
  · obtain ⟨a, b, rfl⟩ := k1 x hx
    obtain ⟨c, d, rfl⟩ := k2 y hy
    rw [lex3]
    omega
  · obtain ⟨a, b, rfl⟩ := k0 x hx
    rcases List.mem_append.mp hy with hy | hy
    · obtain ⟨c, d, rfl⟩ := k1 y hy
      rw [lex3]
      omega
    · obtain ⟨c, d, rfl⟩ := k2 y hy
      rw [lex3]
      omega
/-- exceptions that stand in order -/
structure ExIn (L : List Nat) (nl nr : Nat) (es : List Exc) : Prop where
  sub : (es.map kk).Sublist (allK L nl nr)
  gap : ∀ e ∈ es, gapB e.2.2
theorem ExIn.srt {L : List Nat} {nl nr : Nat} {es : List Exc} (h : ExIn L nl nr es) (nd : L.Nodup) : ((es.map kk).map (keyI L)).Pairwise fun a b => HT.lexLt a b = true :=
  List.Pairwise.sublist (h.sub.map _) (allK_pw nd nl nr)
theorem ExIn.cut {L : List Nat} {nl nr : Nat} {es fs : List Exc} (h : ExIn L nl nr es) (hs : fs.Sublist es) : ExIn L nl nr fs := ⟨(hs.map _).trans h.sub, fun e he => h.gap e (hs.subset he)⟩
inductive KyIn (L : List Nat) (nl nr : Nat) : Ky × Ky → Prop
  | ll {a b : Nat} : a ∈ L → b ∈ L → KyIn L nl nr (.l a, .l b)
  | ln {a j : Nat} : a ∈ L → j < nr → KyIn L nl nr (.l a, .n j)
  | nl {i b : Nat} : i < nl → b ∈ L → KyIn L nl nr (.n i, .l b)
theorem allK_in {L : List Nat} {nl nr : Nat} {p : Ky × Ky} (h : p ∈ allK L nl nr) : KyIn L nl nr p := by
  unfold allK at h
  obtain ⟨a, b⟩ := p
  rcases List.mem_append.mp h with h | h
  · obtain ⟨h1, h2⟩ := mem_cross h
    obtain ⟨a, ha, rfl⟩ := List.mem_map.mp h1
    obtain ⟨b, hb, rfl⟩ := List.mem_map.mp h2
    exact .ll ha hb
  rcases List.mem_append.mp h with h | h
  · obtain ⟨h1, h2⟩ := mem_cross h
    obtain ⟨a, ha, rfl⟩ := List.mem_map.mp h1
    obtain ⟨b, hb, rfl⟩ := List.mem_map.mp h2
    exact .ln ha (List.mem_range.mp hb)
  · obtain ⟨h1, h2⟩ := mem_cross h
    obtain ⟨a, ha, rfl⟩ := List.mem_map.mp h1
    obtain ⟨b, hb, rfl⟩ := List.mem_map.mp h2
    exact .nl (List.mem_range.mp ha) hb
theorem ExIn.kyin {L : List Nat} {nl nr : Nat} {es : List Exc} (h : ExIn L nl nr es) {e : Exc} (he : e ∈ es) : KyIn L nl nr (kk e) := allK_in (h.sub.subset (List.mem_map.mpr ⟨e, he, rfl⟩))
theorem cross_length (A B : List Ky) : (cross A B).length = A.length * B.length := by
  unfold cross
  rw [List.length_flatMap]
  simp only [List.length_map]
  induction A with
  | nil => simp
  | cons a A ih => rw [List.map_cons, List.sum_cons, ih, List.length_cons, Nat.succ_mul, Nat.add_comm]
theorem ExIn.ok {L : List Nat} {nl nr : Nat} {es : List Exc} (h : ExIn L nl nr es) (hL : L.length ≤ 20) (hnl : nl ≤ 20) (hnr : nr ≤ 20) (b : ∀ c ∈ L, c ≤ 122) : ExOk es := by
  refine ⟨?_, fun e he => ?_, h.gap⟩
  · have h1 := h.sub.length_le
    unfold allK at h1
    simp only [List.length_append, cross_length, List.length_map, List.length_range] at h1
    have h2 : L.length * L.length ≤ 20 * 20 := Nat.mul_le_mul hL hL
    have h3 : L.length * nr ≤ 20 * 20 := Nat.mul_le_mul hL hnr
    have h4 : nl * L.length ≤ 20 * 20 := Nat.mul_le_mul hnl hL
    omega
  · have := h.kyin he
    obtain ⟨x, y, g⟩ := e
    cases this with
    | ll ha hb => exact ⟨b _ ha, b _ hb⟩
    | ln ha hb => exact ⟨b _ ha, show _ ≤ 1000 by omega⟩
    | nl ha hb => exact ⟨show _ ≤ 1000 by omega, b _ hb⟩
end DV

set_option maxHeartbeats 4000000
namespace DV
open PySem
/-! Tables drawn; tables known. -/
structure TabIn (L : List Nat) (t : Tab) : Prop where
  ok : TabOk L t
  ex : ExIn L t.lefts.length t.rights.length t.exc
/-! ### is_table -/
@[simp] theorem wp_sliceL (a : Ex) (lo hi : Px) {σ : En} {S : Sto} {P : List D → Sto → Prop} {E : Str → Sto → Prop} : (sliceL a lo hi σ S).wp P E = (a σ S).wp (fun x S1 => (lo σ S1).wp (fun l S2 => (hi σ S2).wp (fun h S3 => (match seqOf S3 x with
    | some ds => (match x with
      | .py (.tuple _) => R.no
      | _ => if ds.length ≤ sizeLine then .ok (cutP ds l h) S3 else .no)
    | none => .no).wp P E) E) E) E := by
  unfold sliceL
  rw [wp_bind]
  congr 1
  funext x S1
  rw [wp_bind]
  congr 1
  funext l S2
  rw [wp_bind]
  try rfl
@[simp] theorem wp_noP {σ : En} {S : Sto} {P : Option Int → Sto → Prop} {E : Str → Sto → Prop} : (noP σ S).wp P E = P none S := id rfl
@[simp] theorem wp_someP (a : Ex) {σ : En} {S : Sto} {P : Option Int → Sto → Prop} {E : Str → Sto → Prop} : (someP a σ S).wp P E = (a σ S).wp (fun d S1 => ∃ i, d = .py (.int i) ∧ P (some i) S1) E := by
  unfold someP
  rw [wp_bind]
  congr 1
  funext d S1
  split
  · exact propext ⟨fun h => ⟨_, rfl, h⟩, fun ⟨k, e, h⟩ => by cases e; exact h⟩
  · rename_i hn
    exact propext ⟨fun h => h.elim, fun ⟨k, e, h⟩ => (hn k e).elim⟩
theorem TabIn.exok {f : Face} {t : Tab} (h : TabIn f.lets t) (h1 : f.ls.length ≤ 20) (b : ∀ c ∈ f.lets, c ≤ 122) : ExOk t.exc := by
  have l1 := h.ok.lp.len2
  have l2 := h.ok.rp.len2
  simp at l1 l2
  exact h.ex.ok (by simp; omega) (by omega) (by omega) b
/-! ### what is told -/
end DV

set_option maxHeartbeats 4000000
namespace DV
open PySem
/-! The gaps of two classes. -/
theorem gapIn_any {Q : Int → Prop} (q0 : Q 0) {P : List Pair} (h : ∀ p ∈ P, Q p.2.2) (a b : Nat) : Q (gapIn P a b) := by
  unfold gapIn
  split
  · rename_i e
    exact h _ (List.mem_of_find?_eq_some e)
  · exact q0
theorem count_ok {vs : List Int} {v : Int} (hb : ∀ x ∈ vs, -999999999 ≤ x ∧ x ≤ 999999999) (hl : vs.length ≤ 2000) (hv : -999999999 ≤ v ∧ v ≤ 999999999) (S : Sto) : countD (.py (lstI vs)) [.py (.int v)] S = .ok (.py (.int (vs.count v : Nat))) S := by
  have d1 : deep S 8 (.py (lstI vs)) = some (lstI vs) := rfl
  have d2 : deep S 8 (.py (.int v)) = some (.int v) := rfl
  unfold countD
  simp only [d1, d2]
  rw [if_pos ⟨(fit_lstI hb hl).shaped (by decide), (Fit.int (by omega) (by omega)).shaped (by decide)⟩]
  have : (vs.map PyData.int).countP (fun z => PyData.eqv z (.int v)) = vs.count v := by
    rw [List.countP_map, List.count]
    refine List.countP_congr fun x _ => ?_
    simp [PyData.eqv]
  rw [this]
theorem max_ex : ∀ {l : List Int}, l ≠ [] → ∃ m, m ∈ l ∧ ∀ y ∈ l, y ≤ m
  | [a], _ => ⟨a, by simp, by simp⟩
  | a :: b :: l, _ => by
    obtain ⟨m, h1, h2⟩ := max_ex (l := b :: l) (by simp)
    by_cases h : a ≤ m
    · refine ⟨m, List.mem_cons_of_mem _ h1, fun y hy => ?_⟩
      rcases List.mem_cons.mp hy with rfl | hy
      · exact h
      · exact h2 y hy
    · refine ⟨a, by simp, fun y hy => ?_⟩
      rcases List.mem_cons.mp hy with rfl | hy
      · exact Int.le_refl _
      · have := h2 y hy
        omega
/-- how many of some values have not the one that most have -/
def needV (vs : List Int) : Int := (vs.length : Int) - maxI (vs.map fun v => ((vs.count v : Nat) : Int))
def valsP (P : List Pair) (g h : List Nat) : List Int := g.flatMap fun a => h.map fun b => gapIn P a b
abbrev tgl (g : List Nat) : PyData := .tuple (g.map lt)
def needR (P : List Pair) (H : List (List Nat)) (g : List Nat) : Int := (H.map fun h => needV (valsP P g h)).sum
def needS (P : List Pair) (G H : List (List Nat)) : Int := (G.map (needR P H)).sum
theorem need_part {f : Face} {G : List (List Nat)} (pG : IsPart f.lets G) (nd : f.lets.Nodup) (b : ∀ c ∈ f.lets, c ≤ 122) (h1 : f.ls.length ≤ 20) (S : Sto) : F_need_parting [.py f.py, .py (encG G)] S = .ok (.py .none) S := by
  have e1 := is_parting_eq pG nd b (by omega)
  unfold F_need_parting b_need_parting
  refine fn_eq (wp_fn ?_)
  simp [init, e1]
  exact .self
structure Sml (G : List (List Nat)) : Prop where
  few : G.length ≤ 10
  row : ∀ g ∈ G, g.length ≤ 10
  ne : ∀ g ∈ G, g ≠ []
  lts : ∀ g ∈ G, ∀ c ∈ g, c ≤ 122
end DV

set_option maxHeartbeats 4000000
namespace DV
open PySem
/-! The value that most have, of several the least. -/
abbrev cntZ (vs : List Int) (v : Int) : Int := ((vs.count v : Nat) : Int)
structure IsMost (vs : List Int) (m : Int) : Prop where
  mem : m ∈ vs
  best : ∀ v ∈ vs, cntZ vs v < cntZ vs m ∨ (cntZ vs v = cntZ vs m ∧ m ≤ v)
def pkM (c : Int → Int) (a y : Int) : Int := if -c y < -c a ∨ (-c y = -c a ∧ y < a) then y else a
def mostV (vs : List Int) : Int := match vs with
  | [] => 0
  | v :: r => r.foldl (pkM (cntZ (v :: r))) v
theorem fold_pk (c : Int → Int) : ∀ (r pre : List Int) (a : Int), a ∈ pre → (∀ v ∈ pre, c v < c a ∨ (c v = c a ∧ a ≤ v)) → (r.foldl (pkM c) a ∈ pre ++ r ∧ ∀ v ∈ pre ++ r, c v < c (r.foldl (pkM c) a) ∨ (c v = c (r.foldl (pkM c) a) ∧ r.foldl (pkM c) a ≤ v))
  | [], pre, a, h1, h2 => by simpa using ⟨h1, h2⟩
  | y :: r, pre, a, h1, h2 => by
    have ih := fold_pk c r (pre ++ [y]) (pkM c a y) (by
      unfold pkM
      split
      · simp
      · simp [h1]) (fun v hv => by
      unfold pkM
      rcases List.mem_append.mp hv with hv | hv
      · have := h2 v hv
        split
        · omega
        · exact this
      · rw [List.mem_singleton.mp hv]
        split
        · exact .inr ⟨rfl, Int.le_refl _⟩
        · omega)
    rw [List.append_assoc] at ih
    exact ih
theorem mostV_is {vs : List Int} (h : vs ≠ []) : IsMost vs (mostV vs) := by
  cases vs with
  | nil => exact absurd rfl h
  | cons v r =>
    have := fold_pk (cntZ (v :: r)) r [v] v (by simp) (fun w hw => by
      rw [List.mem_singleton.mp hw]
      exact .inr ⟨rfl, Int.le_refl _⟩)
    exact ⟨this.1, this.2⟩
theorem minD_pk (c : Int → Int) : ∀ (r : List Int) (a : Int), PySem.W.minD (.tuple [.int (0 - c a), .int a]) (r.map fun v => PyData.tuple [.int (0 - c v), .int v]) = .tuple [.int (0 - c (r.foldl (pkM c) a)), .int (r.foldl (pkM c) a)]
  | [], a => rfl
  | y :: r, a => by
    have ih := minD_pk c r (pkM c a y)
    unfold PySem.W.minD at ih ⊢
    rw [List.map_cons, List.foldl_cons, List.foldl_cons, ← ih, PySem.W.dataLt_ii]
    congr 1
    unfold pkM
    by_cases h : -c y < -c a ∨ (-c y = -c a ∧ y < a)
    · rw [if_pos h, if_pos (decide_eq_true (by omega))]
    · rw [if_neg h, if_neg (fun z => h (by have := of_decide_eq_true z; omega))]
theorem alikeP (c : Int → Int) (x : Int) (xs : List Int) : fstAlike (.tuple [.int (0 - c x), .int x]) (xs.map fun v => .tuple [.int (0 - c v), .int v]) := by
  have e : (PyData.tuple [.int (0 - c x), .int x] :: xs.map fun v => PyData.tuple [.int (0 - c v), .int v]) = (x :: xs).map fun v => PyData.tuple [.int (0 - c v), .int v] := rfl
  refine ⟨?_, ?_, ?_⟩
  · rw [e]
    refine ⟨fun a ha b hb => ?_, fun a ha => ?_⟩
    · obtain ⟨i, _, rfl⟩ := List.mem_map.mp ha
      obtain ⟨j, _, rfl⟩ := List.mem_map.mp hb
      simp [PySem.W.alike, PySem.W.alikeAll]
    · obtain ⟨i, _, rfl⟩ := List.mem_map.mp ha
      intro z
      cases z
  · rw [e]
    generalize x :: xs = l
    induction l with
    | nil => rfl
    | cons y l ih =>
      rw [List.map_cons]
      simp only [PyData.hasDictAll, PyData.hasDict, Bool.or_false, Bool.false_or]
      exact ih
  · rw [e]
    generalize x :: xs = l
    induction l with
    | nil => simp [PyData.depthAll]
    | cons y l ih =>
      rw [List.map_cons]
      simp only [PyData.depthAll, PyData.depth]
      omega
open Classical in
theorem minX_pk {c : Int → Int} {x : Int} {xs : List Int} (S : Sto) : minX [.py (.list ((x :: xs).map fun v => PyData.tuple [.int (0 - c v), .int v]))] S = .ok (.py (.tuple [.int (0 - c (xs.foldl (pkM c) x)), .int (xs.foldl (pkM c) x)])) S := by
  show (if fstAlike _ _ then _ else _) = _
  rw [if_pos (alikeP c x xs), minD_pk]
theorem most_in_eq {vs : List Int} (h : vs ≠ []) (hb : ∀ x ∈ vs, -999999999 ≤ x ∧ x ≤ 999999999) (hl : vs.length ≤ 2000) (S : Sto) : F_most_in [.py (lstI vs)] S = .ok (.py (.int (mostV vs))) S := by
  have pw : ∀ T, pyWalk T (.py (lstI vs)) = some (vs.map .int) := fun T => rfl
  unfold F_most_in b_most_in
  refine fn_eq (wp_fn ?_)
  have sd : seqD (.py (lstI vs)) = some (vs.map .int) := rfl
  simp [init, sd]
  refine wp_pureM1 (fun i : Int => D.py (.int i)) (fun v => D.py (.tuple [.int (0 - cntZ vs v), .int v])) (fun v hv => ?_) ?_
  · have co := fun T => count_ok hb hl (hb v hv) T
    have sb : ∀ T, subD (.py (.int 0)) (.py (.int (vs.count v : Nat))) T = .ok (.py (.int (0 - cntZ vs v))) T := fun T => rfl
    exact wp_eq (by simp [co, sb, pysOf])
  have e4 : (vs.map fun v => D.py (.tuple [.int (0 - cntZ vs v), .int v])) = (vs.map fun v => PyData.tuple [.int (0 - cntZ vs v), .int v]).map D.py := by simp
  rw [e4, pysOf_map]
  cases vs with
  | nil => exact absurd rfl h
  | cons x r =>
    have i1 : ∀ (a b : PyData) T, itemD (.py (.tuple [a, b])) (.py (.int 1)) T = .ok (.py b) T := fun a b T => itemD_tupleI (by decide) rfl
    simp only [minX_pk, wp_ok, i1]
    exact ⟨S, .self, rfl, rfl, rfl⟩
end DV

set_option maxHeartbeats 4000000
namespace DV
open PySem
/-! Texts, and how wide they are. -/
abbrev tx (l : List Nat) : PyData := .str ⟨l.toArray⟩
theorem sl_big' : sizeLine = 16777216 := rfl
@[simp ↓] theorem wp_txt (e : Ex) {σ : En} {S : Sto} {P : List D → Sto → Prop} {E : Str → Sto → Prop} : (txtI e σ S).wp P E = (e σ S).wp (fun d S1 => ∃ x, d = .py (.str x) ∧ x.length ≤ 16777216 ∧ P (x.cps.toList.map fun c => D.py (.str ⟨#[c]⟩)) S1) E := by
  unfold txtI
  rw [wp_bind]
  congr 1
  funext d S1
  split
  · rw [wp_iteR]
    split
    · rename_i h
      exact propext ⟨fun p => ⟨_, rfl, h, p⟩, fun ⟨j, e, _, p⟩ => by cases e; exact p⟩
    · rename_i h
      exact propext ⟨fun p => p.elim, fun ⟨j, e, h', p⟩ => by cases e; exact h h'⟩
  · rename_i hn
    exact propext ⟨fun h => h.elim, fun ⟨k, e, _, h⟩ => (hn k e).elim⟩
/-! ### signs -/
def Face.has (f : Face) (c : Nat) : Prop := c = 32 ∨ c ∈ f.lets
def sw (f : Face) (c : Nat) : Int := if c = 32 then f.w else ((f.ls.find? fun p => decide (p.1 = c)).map (·.2)).getD 0
def bt (P : List Pair) (a b : Nat) : Int := if a = 32 ∨ b = 32 then 0 else gapIn P a b
theorem blank_str : Str.ofString " " = ⟨#[32]⟩ := by decide +kernel
@[simp] theorem str_blank (c : Nat) : ((⟨#[c]⟩ : Str) = Str.ofString " ") = (c = 32) := by
  rw [blank_str]
  simp
def wd (f : Face) (P : List Pair) (l : List Nat) : Int := (l.map (sw f)).sum + ((l.zip (l.drop 1)).map fun p => bt P p.1 p.2).sum
end DV

set_option maxHeartbeats 4000000
namespace DV
open PySem
theorem part_fit {L : List Nat} {G : List (List Nat)} (h : IsPart L G) (hL : L.length ≤ 20) (b : ∀ c ∈ L, c ≤ 122) : Fit (encG G) 2 8100 := by
  have l2 := h.len2
  refine (Fit.tupleN (k := 1) (w := 400) (m := 20) (fun d hd => ?_) (by simp; omega)).mono (by decide) (by decide)
  obtain ⟨g, hg, rfl⟩ := List.mem_map.mp hd
  have l1 := h.len1 hg
  exact fit_lts (fun c hc => b c (h.mem g hg c hc)) (by omega)
theorem gaps_fit {R : List (List Int)} (h : ∀ r ∈ R, ∀ x ∈ r, gapB x) (hl : R.length ≤ 20) (hr : ∀ r ∈ R, r.length ≤ 20) : Fit (encU R) 2 40100 := by
  refine (Fit.tupleN (k := 1) (w := 2000) (m := 20) (fun d hd => ?_) (by simp; omega)).mono (by decide) (by decide)
  obtain ⟨r, hr', rfl⟩ := List.mem_map.mp hd
  exact fit_tupI (fun x hx => by have : -9 ≤ x ∧ x ≤ 9 := h r hr' x hx; omega) (by have := hr r hr'; omega)
theorem exc_fit {es : List Exc} (h : ExOk es) : Fit (.tuple (es.map encE)) 2 14000 := by
  refine (Fit.tupleN (k := 1) (w := 6) (m := 2000) (fun d hd => ?_) (by simpa using h.len)).mono (by decide) (by decide)
  obtain ⟨e, he, rfl⟩ := List.mem_map.mp hd
  have k := h.key e he
  have g : -9 ≤ e.2.2 ∧ e.2.2 ≤ 9 := h.gap e he
  exact (Fit.tuple (.cons (fit_key k.1) (.cons (fit_key k.2) (.cons ((Fit.int (by omega) (by omega)).mono (by decide) (Nat.zero_le 1)) (FitL.nil (w := 0)))))).mono (by decide) (by decide)
theorem tab_py_fit {f : Face} {t : Tab} (h : TabIn f.lets t) (h1 : f.ls.length ≤ 20) (b : ∀ c ∈ f.lets, c ≤ 122) : Fit t.py 3 80000 := by
  have l1 := h.ok.lp.len2
  have l2 := h.ok.rp.len2
  simp at l1 l2
  have f1 := part_fit h.ok.lp (by simpa using h1) b
  have f2 := part_fit h.ok.rp (by simpa using h1) b
  have f3 := gaps_fit h.ok.gb (by rw [h.ok.gl]; omega) (fun r hr => by rw [h.ok.gr r hr]; omega)
  have f4 := exc_fit (h.exok h1 b)
  exact (Fit.tuple (.cons f1 (.cons f2 (.cons f3 (.cons f4 (FitL.nil (w := 0))))))).mono (by decide) (by decide)
end DV

set_option maxHeartbeats 4000000
namespace DV
open PySem
/-! The first pair unlike. -/
end DV

set_option maxHeartbeats 4000000
namespace DV
open PySem
end DV

set_option maxHeartbeats 4000000
namespace DV
open PySem
/-! Idle exceptions: the plain theory. -/
def tl (t : Tab) (es : List Exc) (l r : Nat) : Int := (hit es (.l l) (.l r)).getD ((hit es (.l l) (.n (clsIn t.rights r))).getD ((hit es (.n (clsIn t.lefts l)) (.l r)).getD ((t.gaps.getD (clsIn t.lefts l) []).getD (clsIn t.rights r) 0)))
theorem hit_app (A B : List Exc) (a b : Ky) : hit (A ++ B) a b = (hit A a b).or (hit B a b) := by
  unfold hit
  rw [List.find?_append]
  cases A.find? (fun e => decide (e.1 = a ∧ e.2.1 = b)) <;> rfl
theorem hit_cons (x : Exc) (B : List Exc) (a b : Ky) : hit (x :: B) a b = if kk x = (a, b) then some x.2.2 else hit B a b := by
  unfold hit
  rw [List.find?_cons]
  by_cases h : x.1 = a ∧ x.2.1 = b
  · simp [h, kk]
  · have : ¬ kk x = (a, b) := fun e => h ⟨congrArg Prod.fst e, congrArg Prod.snd e⟩
    simp [h, this]
theorem hit_none {A : List Exc} {a b : Ky} : hit A a b = none ↔ ∀ e ∈ A, kk e ≠ (a, b) := by
  unfold hit
  rw [Option.map_eq_none_iff, List.find?_eq_none]
  constructor
  · intro h e he q
    exact h e he (decide_eq_true ⟨congrArg Prod.fst q, congrArg Prod.snd q⟩)
  · intro h e he q
    simp at q
    exact h e he (Prod.ext q.1 q.2)
def ty : Ky × Ky → Nat
  | (.l _, .l _) => 0
  | (.l _, .n _) => 1
  | (.n _, .l _) => 2
  | (.n _, .n _) => 3
/-- x stands behind A, ahead of B, and its key is its own -/
structure Mid (A B : List Exc) (x : Exc) : Prop where
  a : ∀ e ∈ A, kk e ≠ kk x ∧ ty (kk e) ≤ ty (kk x)
  b : ∀ e ∈ B, kk e ≠ kk x
theorem Mid.sub {A A' B : List Exc} {x : Exc} (h : Mid A B x) (s : A'.Sublist A) : Mid A' B x := ⟨fun e he => h.a e (s.subset he), h.b⟩
theorem Mid.at_ {A B : List Exc} {x : Exc} (h : Mid A B x) (a b : Ky) : hit (A ++ x :: B) a b = if kk x = (a, b) then some x.2.2 else hit (A ++ B) a b := by
  rw [hit_app, hit_cons, hit_app]
  split
  · rename_i e
    rw [hit_none.mpr fun y hy => e ▸ (h.a y hy).1]
    rfl
  · rfl
theorem Mid.off {A B : List Exc} {x : Exc} (h : Mid A B x) {a b : Ky} (e : kk x = (a, b)) : hit (A ++ B) a b = none := by
  rw [hit_app, hit_none.mpr fun y hy => e ▸ (h.a y hy).1, hit_none.mpr fun y hy => e ▸ h.b y hy]
  rfl
theorem Mid.later {A B : List Exc} {x : Exc} (h : Mid A B x) {a b : Ky} (q : ty (kk x) < ty (a, b)) : hit (A ++ B) a b = hit B a b := by
  rw [hit_app, hit_none.mpr fun y hy e => by
    have := (h.a y hy).2
    rw [e] at this
    omega]
  rfl
/-! ### leaving out from the last one on -/
end DV

set_option maxHeartbeats 4000000
namespace DV
open PySem
/-! Idle exceptions: the program. -/
theorem keyI_shape (L : List Nat) (p : Ky × Ky) : ∃ u v, keyI L p = [(ty p : Int), u, v] := by
  obtain ⟨a, b⟩ := p
  cases a <;> cases b <;> exact ⟨_, _, rfl⟩
theorem ExIn.mid {L : List Nat} {nl nr : Nat} {es A B B' : List Exc} {x : Exc} (h : ExIn L nl nr es) (nd : L.Nodup) (e : es = A ++ x :: B) (s : B'.Sublist B) : Mid A B' x := by
  have srt := h.srt nd
  rw [e, List.map_append, List.map_append, List.pairwise_append] at srt
  obtain ⟨_, s2, s3⟩ := srt
  rw [List.map_cons, List.map_cons, List.pairwise_cons] at s2
  have irr : ∀ p : Ky × Ky, HT.lexLt (keyI L p) (keyI L p) = true → False := fun p hp => by
    obtain ⟨u, v, e⟩ := keyI_shape L p
    rw [e, lex3] at hp
    omega
  refine ⟨fun y hy => ?_, fun y hy q => ?_⟩
  · have z := s3 (keyI L (kk y)) (List.mem_map.mpr ⟨_, List.mem_map.mpr ⟨y, hy, rfl⟩, rfl⟩) (keyI L (kk x)) (List.mem_cons_self ..)
    refine ⟨fun q => irr (kk x) (by rw [q] at z; exact z), ?_⟩
    obtain ⟨u, v, e1⟩ := keyI_shape L (kk y)
    obtain ⟨u', v', e2⟩ := keyI_shape L (kk x)
    rw [e1, e2, lex3] at z
    omega
  · have z := s2.1 (keyI L (kk y)) (List.mem_map.mpr ⟨_, List.mem_map.mpr ⟨y, s.subset hy, rfl⟩, rfl⟩)
    exact irr (kk x) (by rw [q] at z; exact z)
theorem TabIn.cut {L : List Nat} {t : Tab} {es : List Exc} (h : TabIn L t) (s : es.Sublist t.exc) : TabIn L { t with exc := es } := ⟨⟨h.ok.lp, h.ok.rp, h.ok.gl, h.ok.gr, h.ok.gb⟩, h.ex.cut s⟩
/-! ### the program's own -/
@[simp ↓] theorem wp_sliceE (a : Ex) (lo hi : Px) {σ : En} {S : Sto} {P : D → Sto → Prop} {E : Str → Sto → Prop} : (sliceE a lo hi σ S).wp P E = (a σ S).wp (fun x S1 => (lo σ S1).wp (fun l S2 => (hi σ S2).wp (fun h S3 => (sliceV x l h S3).wp P E) E) E) E := by
  unfold sliceE
  rw [wp_bind]
  congr 1
  funext x S1
  rw [wp_bind]
  congr 1
  funext l S2
  rw [wp_bind]
theorem cut_to {α : Type} (xs : List α) (n : Nat) : cutP xs none (some (n : Int)) = xs.take n := by
  unfold cutP
  rw [HT.sIx_nat, HT.sIx_none, List.drop_zero, Nat.sub_zero]
  by_cases h : n ≤ xs.length
  · rw [Nat.min_eq_left h]
  · rw [Nat.min_eq_right (by omega), List.take_length, List.take_of_length_le (by omega)]
theorem cut_from {α : Type} (xs : List α) (n : Nat) : cutP xs (some (n : Int)) none = xs.drop n := by
  unfold cutP
  rw [HT.sIx_nat, HT.sIx_none]
  by_cases h : n ≤ xs.length
  · rw [Nat.min_eq_left h, List.take_of_length_le (by rw [List.length_drop]; omega)]
  · rw [Nat.min_eq_right (by omega), List.drop_length, List.drop_of_length_le (by omega), List.take_nil]
@[simp ↓] theorem wp_rrng1 (e : Ex) {σ : En} {S : Sto} {P : List D → Sto → Prop} {E : Str → Sto → Prop} : (rrng1I e σ S).wp P E = (e σ S).wp (fun d S1 => ∃ j, d = .py (.int j) ∧ (-(2 ^ 62) ≤ j ∧ j ≤ 16777216) ∧ P (rngV 0 j.toNat).reverse S1) E := by
  unfold rrng1I
  rw [wp_bind]
  congr 1
  funext d S1
  split
  · rw [wp_iteR]
    split
    · rename_i h
      exact propext ⟨fun p => ⟨_, rfl, h, p⟩, fun ⟨j, e, _, p⟩ => by cases e; exact p⟩
    · rename_i h
      exact propext ⟨fun p => p.elim, fun ⟨j, e, h', p⟩ => by cases e; exact h h'⟩
  · rename_i hn
    exact propext ⟨fun h => h.elim, fun ⟨k, e, _, h⟩ => (hn k e).elim⟩
end DV

set_option maxHeartbeats 4000000
namespace DV
open PySem
/-! The law's own measure of a text. -/
@[simp ↓] theorem wp_dictF (f : Ex) {σ : En} {S : Sto} {P : D → Sto → Prop} {E : Str → Sto → Prop} : (dictF f σ S).wp P E = (f σ S).wp (fun d S1 => ∃ ds kv, d = .py (.list ds) ∧ pairsOf ds = some kv ∧ (kv.map Prod.fst).Nodup ∧ P (.py (.dict (kv.map fun p => (keyP p.1, p.2)))) S1) E := by
  unfold dictF
  rw [wp_bind]
  congr 1
  funext d S1
  rcases d with d | n | n
  · cases d
    case list ds =>
      cases h : pairsOf ds with
      | none =>
        simp only [h]
        exact propext ⟨fun h => h.elim, fun ⟨_, _, e, h2, _⟩ => by cases e; rw [h] at h2; cases h2⟩
      | some kv =>
        simp only [h]
        rw [wp_iteR]
        split
        · rename_i hz
          exact propext ⟨fun p => ⟨_, _, rfl, h, hz, p⟩, fun ⟨_, _, e, h2, _, p⟩ => by cases e; rw [h] at h2; cases h2; exact p⟩
        · rename_i hz
          exact propext ⟨fun p => p.elim, fun ⟨_, _, e, h2, z, p⟩ => by cases e; rw [h] at h2; cases h2; exact hz z⟩
    all_goals exact propext ⟨fun h => h.elim, fun ⟨_, _, e, _⟩ => by cases e⟩
  · exact propext ⟨fun h => h.elim, fun ⟨_, _, e, _⟩ => by cases e⟩
  · exact propext ⟨fun h => h.elim, fun ⟨_, _, e, _⟩ => by cases e⟩
def dgetV (x y : D) (S2 : Sto) : R D := match x, y with
  | .py (.dict kvs), .py k => (match keyOf k with
    | some k => (match dlook kvs k with
      | some d => .ok (.py d) S2
      | none => .no)
    | none => .no)
  | _, _ => .no
@[simp ↓] theorem wp_dgetF (a b : Ex) {σ : En} {S : Sto} {P : D → Sto → Prop} {E : Str → Sto → Prop} : (dgetF a b σ S).wp P E = (a σ S).wp (fun x S1 => (b σ S1).wp (fun y S2 => (dgetV x y S2).wp P E) E) E := by
  unfold dgetF
  rw [wp_bind]
  congr 1
  funext x S1
  rw [wp_bind]
  rfl
end DV

set_option maxHeartbeats 4000000
namespace DV
open PySem
/-! Words and lines. -/
def jn : List (List Nat) → List Nat
  | [] => []
  | [w] => w
  | w :: v :: r => w ++ 32 :: jn (v :: r)
abbrev st (w : List Nat) : Str := ⟨w.toArray⟩
/-- words of a face -/
structure Wds (f : Face) (ws : List (List Nat)) : Prop where
  ne : ∀ w ∈ ws, w ≠ []
  mem : ∀ w ∈ ws, ∀ c ∈ w, c ∈ f.lets
  short : ∀ w ∈ ws, w.length ≤ 100
  few : ws.length ≤ 60
theorem jn_len : ∀ {ws : List (List Nat)} {n : Nat}, (∀ w ∈ ws, w.length ≤ n) → (jn ws).length ≤ ws.length * (n + 1)
  | [], n, _ => by simp [jn]
  | [w], n, h => by
    have := h w (List.mem_cons_self ..)
    simp [jn]
    omega
  | w :: v :: r, n, h => by
    have h1 := h w (List.mem_cons_self ..)
    have h2 := jn_len (ws := v :: r) fun x hx => h x (List.mem_cons_of_mem _ hx)
    simp only [jn, List.length_append, List.length_cons, Nat.add_mul] at h2 ⊢
    omega
theorem Wds.len {f : Face} {ws : List (List Nat)} (h : Wds f ws) : (jn ws).length ≤ 10000 := by
  have h1 := jn_len h.short
  have h2 : ws.length * (100 + 1) ≤ 60 * 101 := Nat.mul_le_mul_right _ h.few
  omega
@[simp ↓] theorem wp_methSL (g : D → List D → Sto → R (List D)) (o : Ex) (a : Ax) {σ : En} {S : Sto} {P : List D → Sto → Prop} {E : Str → Sto → Prop} : (methSL g o a σ S).wp P E = (o σ S).wp (fun x S1 => ∃ z, x = .py (.str z) ∧ (a σ S1).wp (fun ds S2 => (g x ds S2).wp P E) E) E := by
  unfold methSL
  rw [wp_bind]
  congr 1
  funext d S1
  split
  · rw [wp_bind]
    exact propext ⟨fun h => ⟨_, rfl, h⟩, fun ⟨z, e, h⟩ => by cases e; exact h⟩
  · rename_i hn
    exact propext ⟨fun h => h.elim, fun ⟨z, e, _⟩ => (hn z e).elim⟩
end DV

set_option maxHeartbeats 4000000
namespace DV
open PySem
/-! Lines that take words as long as they fit. -/
/-- lines of so many words -/
structure Lns (f : Face) (ls : List (List Nat)) (k : Nat) : Prop where
  has : ∀ l ∈ ls, ∀ c ∈ l, f.has c
  len : ∀ l ∈ ls, l.length ≤ k * 101
  few : ls.length ≤ k
theorem Wds.pre {f : Face} {ws pre post : List (List Nat)} (h : Wds f ws) (e : ws = pre ++ post) : Wds f pre := by
  subst e
  exact ⟨fun w hw => h.ne w (List.mem_append_left _ hw), fun w hw => h.mem w (List.mem_append_left _ hw), fun w hw => h.short w (List.mem_append_left _ hw), by have := h.few; rw [List.length_append] at this; omega⟩
def sts (ls : List (List Nat)) : List PyData := ls.map fun w => PyData.str (st w)
@[simp] theorem sts_len (ls : List (List Nat)) : (sts ls).length = ls.length := by simp [sts]
end DV

set_option maxHeartbeats 4000000
namespace DV
open PySem
/-! How wide words and lines are. -/
/-- widths and gaps as they are drawn -/
structure Wid (f : Face) (P : List Pair) : Prop where
  w : 1 ≤ f.w ∧ f.w ≤ 99
  s : ∀ c ∈ f.lets, 10 ≤ sw f c ∧ sw f c ≤ 99
  g : ∀ a b, -9 ≤ bt P a b ∧ bt P a b ≤ 9
end DV

set_option maxHeartbeats 4000000
namespace DV
open PySem
/-! Words and rooms drawn. -/
@[simp ↓] theorem wp_methS (g : D → List D → Sto → R D) (o : Ex) (a : Ax) {σ : En} {S : Sto} {P : D → Sto → Prop} {E : Str → Sto → Prop} : (methS g o a σ S).wp P E = (o σ S).wp (fun x S1 => ∃ z, x = .py (.str z) ∧ (a σ S1).wp (fun ds S2 => (g x ds S2).wp P E) E) E := by
  unfold methS
  rw [wp_bind]
  congr 1
  funext d S1
  split
  · rw [wp_bind]
    exact propext ⟨fun h => ⟨_, rfl, h⟩, fun ⟨z, e, h⟩ => by cases e; exact h⟩
  · rename_i hn
    exact propext ⟨fun h => h.elim, fun ⟨z, e, _⟩ => (hn z e).elim⟩
end DV

set_option maxHeartbeats 4000000
namespace DV
open PySem
end DV

set_option maxHeartbeats 4000000
namespace DV
open PySem
end DV

set_option maxHeartbeats 4000000
namespace DV
open PySem
/-! Texts, refused or not; odd things. -/
theorem wp_exq {α : Type} {r : R α} {c : Str} {S : Sto} (h : r.wp (fun _ _ => False) (fun c' T => c' = c ∧ T = S)) : r = .ex c S := by
  cases r with
  | ok a T => exact h.elim
  | ex c' T =>
    obtain ⟨rfl, rfl⟩ := h
    rfl
  | no => exact h.elim
instance (f : Face) (c : Nat) : Decidable (f.has c) := by unfold Face.has; infer_instance
/-- a text of the thing is not too long -/
def Short (n : Nat) (d : PyData) : Prop := ∀ x, d = .str x → x.length ≤ n
@[simp] theorem lstOf_list (ds : List PyData) (S : Sto) : lstOf S (.py (.list ds)) = some (ds.map .py) := rfl
theorem lstOf_obj {n : Nat} {ds : List D} {S : Sto} (h : S[n]? = some (.lst ds)) : lstOf S (.obj n) = some ds := by simp [lstOf, h]
@[simp ↓] theorem wp_catL (a b : Ex) {σ : En} {S : Sto} {P : List D → Sto → Prop} {E : Str → Sto → Prop} : (catL a b σ S).wp P E = (a σ S).wp (fun x S1 => (b σ S1).wp (fun y S2 => ∃ xs ys, lstOf S2 x = some xs ∧ lstOf S2 y = some ys ∧ xs.length + ys.length ≤ sizeLine ∧ P (xs ++ ys) S2) E) E := by
  unfold catL
  rw [wp_bind]
  congr 1
  funext x S1
  rw [wp_bind]
  congr 1
  funext y S2
  split
  · rename_i xs ys h1 h2
    rw [wp_iteR]
    split
    · rename_i hz
      exact propext ⟨fun p => ⟨xs, ys, h1, h2, hz, p⟩, fun ⟨_, _, e1, e2, _, p⟩ => by rw [h1] at e1; rw [h2] at e2; cases e1; cases e2; exact p⟩
    · rename_i hz
      exact propext ⟨fun p => p.elim, fun ⟨_, _, e1, e2, q, p⟩ => by rw [h1] at e1; rw [h2] at e2; cases e1; cases e2; exact hz q⟩
  · rename_i hn
    exact propext ⟨fun h => h.elim, fun ⟨_, _, e1, e2, _, _⟩ => (hn _ _ e1 e2).elim⟩
@[simp ↓] theorem wp_repL (a b : Ex) {σ : En} {S : Sto} {P : List D → Sto → Prop} {E : Str → Sto → Prop} : (repL a b σ S).wp P E = (a σ S).wp (fun x S1 => (b σ S1).wp (fun y S2 => ∃ xs k, lstOf S2 x = some xs ∧ y = .py (.int k) ∧ (-1000 ≤ k ∧ k ≤ 1000 ∧ xs.length ≤ 1000) ∧ P (List.replicate k.toNat xs).flatten S2) E) E := by
  unfold repL
  rw [wp_bind]
  congr 1
  funext x S1
  rw [wp_bind]
  congr 1
  funext y S2
  split
  · rename_i xs k h1
    rw [wp_iteR]
    split
    · rename_i hz
      exact propext ⟨fun p => ⟨xs, k, h1, rfl, hz, p⟩, fun ⟨_, _, e1, e2, _, p⟩ => by rw [h1] at e1; cases e1; cases e2; exact p⟩
    · rename_i hz
      exact propext ⟨fun p => p.elim, fun ⟨_, _, e1, e2, q, p⟩ => by rw [h1] at e1; cases e1; cases e2; exact hz q⟩
  · rename_i hn
    exact propext ⟨fun h => h.elim, fun ⟨_, _, e1, e2, _, _⟩ => (hn _ _ e1 e2).elim⟩
end DV

set_option maxHeartbeats 4000000
namespace DV
open PySem
/-! Things whose text may be asked, dicts among them. -/
mutual
theorem leaves_mono : ∀ (d : PyData), d.leavesShort 13 = true → d.leavesShort 25 = true
  | .none, _ => by rw [PyData.leavesShort.eq_1]
  | .bool b, _ => by rw [PyData.leavesShort.eq_2]
  | .int i, h => by
    rw [PyData.leavesShort.eq_3, decide_eq_true_eq] at h ⊢
    omega
  | .str x, h => by
    rw [PyData.leavesShort.eq_4] at h ⊢
    exact h
  | .list xs, h => by
    rw [PyData.leavesShort.eq_5] at h ⊢
    exact leaves_monoAll xs h
  | .tuple xs, h => by
    rw [PyData.leavesShort.eq_6] at h ⊢
    exact leaves_monoAll xs h
  | .dict kvs, h => by
    rw [PyData.leavesShort.eq_7] at h ⊢
    exact leaves_monoKv kvs h
theorem leaves_monoAll : ∀ (ds : List PyData), PyData.leavesShortAll 13 ds = true → PyData.leavesShortAll 25 ds = true
  | [], _ => by rw [PyData.leavesShortAll.eq_1]
  | d :: ds, h => by
    rw [PyData.leavesShortAll.eq_2, Bool.and_eq_true] at h ⊢
    exact ⟨leaves_mono d h.1, leaves_monoAll ds h.2⟩
theorem leaves_monoKv : ∀ (ds : List (PyData × PyData)), PyData.leavesShortKv 13 ds = true → PyData.leavesShortKv 25 ds = true
  | [], _ => by rw [PyData.leavesShortKv.eq_1]
  | (k, v) :: ds, h => by
    rw [PyData.leavesShortKv.eq_2, Bool.and_eq_true, Bool.and_eq_true] at h ⊢
    exact ⟨⟨leaves_mono k h.1.1, leaves_mono v h.1.2⟩, leaves_monoKv ds h.2⟩
end
structure FitX (d : PyData) (k w : Nat) : Prop where
  sh : d.showable = true
  dp : d.depth ≤ k
  ls : d.leavesShort 25 = true
  bk : d.bulk ≤ w
structure FitXL (ds : List PyData) (k w : Nat) : Prop where
  sh : PyData.showableAll ds = true
  dp : PyData.depthAll ds ≤ k
  ls : PyData.leavesShortAll 25 ds = true
  bk : PyData.bulkAll ds ≤ w
theorem Fit.x {d : PyData} {k w : Nat} (h : Fit d k w) : FitX d k w := ⟨h.sh, h.dp, leaves_mono d h.ls, h.bk⟩
theorem FitX.mono {d : PyData} {k k' w w' : Nat} (h : FitX d k w) (hk : k ≤ k') (hw : w ≤ w') : FitX d k' w' := ⟨h.sh, Nat.le_trans h.dp hk, h.ls, Nat.le_trans h.bk hw⟩
theorem FitXL.nil {k w : Nat} : FitXL [] k w := ⟨PyData.showableAll.eq_1, by rw [PyData.depthAll.eq_1]; exact Nat.zero_le _, PyData.leavesShortAll.eq_1 25, by rw [PyData.bulkAll.eq_1]; exact Nat.zero_le _⟩
theorem FitXL.cons {d : PyData} {ds : List PyData} {k w w' : Nat} (h : FitX d k w) (hs : FitXL ds k w') : FitXL (d :: ds) k (w + 1 + w') := by
  refine ⟨?_, ?_, ?_, ?_⟩
  · rw [PyData.showableAll.eq_2, h.sh, hs.sh]
    rfl
  · rw [PyData.depthAll.eq_2]
    exact Nat.max_le.mpr ⟨h.dp, hs.dp⟩
  · rw [PyData.leavesShortAll.eq_2, h.ls, hs.ls]
    rfl
  · rw [PyData.bulkAll.eq_2]
    have := h.bk
    have := hs.bk
    omega
theorem FitX.list {ds : List PyData} {k w : Nat} (h : FitXL ds k w) : FitX (.list ds) (k + 1) w :=
  ⟨by rw [PyData.showable.eq_5]; exact h.sh, by rw [PyData.depth.eq_1]; exact Nat.succ_le_succ h.dp, by rw [PyData.leavesShort.eq_5]; exact h.ls, by rw [PyData.bulk.eq_2]; exact h.bk⟩
theorem FitX.tuple {ds : List PyData} {k w : Nat} (h : FitXL ds k w) : FitX (.tuple ds) (k + 1) w :=
  ⟨by rw [PyData.showable.eq_6]; exact h.sh, by rw [PyData.depth.eq_2]; exact Nat.succ_le_succ h.dp, by rw [PyData.leavesShort.eq_6]; exact h.ls, by rw [PyData.bulk.eq_3]; exact h.bk⟩
/-- two things in a list -/
theorem FitX.two {a b : PyData} {k w v : Nat} (ha : FitX a k w) (hb : FitX b k v) : FitX (.list [a, b]) (k + 1) (w + 1 + (v + 1 + 0)) := FitX.list (.cons ha (.cons hb .nil))
theorem FitX.repr {d : PyData} {k w : Nat} (h : FitX d k w) (hk : k ≤ 60) (hw : w ≤ 500000) (S : Sto) : reprX [.py d] S = .ok (.py (.str d.shown)) S := by
  have hz : d.shown.length ≤ sizeLine := by
    have h1 := PyData.shown_le_bulk 25 (by decide) d h.ls
    have h2 := h.bk
    rw [sizeLine_eq]
    have h3 : (25 + 2) * d.bulk ≤ 27 * 500000 := Nat.mul_le_mul_left _ (by omega)
    omega
  have e : deep S 8 (.py d) = some d := rfl
  unfold reprX
  simp only [e]
  rw [if_pos ⟨h.sh, Nat.le_trans h.dp hk, hz⟩]
theorem shI {i : Int} (h : -999999999999 ≤ i ∧ i ≤ 999999999999) : (PyData.int i).shown.length ≤ 25 := Nat.le_trans (PyData.shown_int_le2 h.1 h.2) (by decide)
theorem shBig : (PyData.int 10000000000000000000).shown.length ≤ 25 ∧ (PyData.int (-10000000000000000000)).shown.length ≤ 25 := by decide +kernel
theorem shS {i : Int} (h : -999999999999 ≤ i ∧ i ≤ 999999999999) : (PyData.int i).shown.cps.size ≤ 25 := shI h
end DV

set_option maxHeartbeats 4000000
namespace DV
open PySem
/-! The law's own loop, where it makes lambdas; what is said. -/
theorem wp_said {i T : Nat} {q : Str} {W : List (Str × Str)} {f : Ex} {σ : En} {S : Sto} {P : D → Sto → Prop} {E : Str → Sto → Prop} (h0 : S[i]? = some (.tab T q)) :
    (saidE T q W f σ S).wp P E = (f σ S).wp (fun d S1 => (reprD [d] S1).wp P E) (fun c S1 => ∃ t, W.lookup c = some t ∧ P (.py (.str t)) S1) := by
  unfold saidE
  rw [if_pos ⟨i, h0⟩]
  unfold saidR
  cases f σ S with
  | ok d S1 => rfl
  | no => rfl
  | ex c S1 =>
    simp only
    cases hw : W.lookup c with
    | none =>
      exact propext ⟨fun h => h.elim, fun ⟨t, e, _⟩ => by rw [hw] at e; cases e⟩
    | some t =>
      exact propext ⟨fun h => ⟨t, hw, h⟩, fun ⟨t', e, h⟩ => by rw [hw] at e; cases e; exact h⟩
theorem lstOf_last {S : Sto} {ds : List D} : lstOf (S ++ [.lst ds]) (.obj S.length) = some ds := lstOf_obj last_get
theorem get4 (S : Sto) (a b c d : O) : (S ++ [a, b, c, d])[S.length + 1 + 1 + 1]? = some d := by
  rw [List.getElem?_append_right (by omega)]
  have : S.length + 1 + 1 + 1 - S.length = 3 := by omega
  rw [this]
  rfl
theorem app4 (S : Sto) (a b c : O) (ds : List D) (x : D) (h : ds.length < sizeLine) : appendD (.obj (S.length + 1 + 1 + 1)) [x] (S ++ [a, b, c, .lst ds]) = .ok (.py .none) (S ++ [a, b, c, .lst (ds ++ [x])]) := by
  rw [appendD_obj (get4 S a b c (.lst ds)) h]
  have : (S ++ [a, b, c, .lst ds]).set (S.length + 1 + 1 + 1) (.lst (ds ++ [x])) = S ++ [a, b, c, .lst (ds ++ [x])] := by
    rw [List.set_append_right _ _ (by omega)]
    have : S.length + 1 + 1 + 1 - S.length = 3 := by omega
    rw [this]
    rfl
  rw [this]
/-- a thing that may be shown; its text, if it is one, is short -/
def okP (p : PyData) : Bool := p.showable && decide (p.depth ≤ 5) && p.leavesShort 25 && decide (p.bulk ≤ 200) && (p.canLay0 || isDk p)
def okD : D → Bool
  | .py (.str x) => okP (.str x) && (decide (x.length ≤ 100) && x.cps.toList.all fun c => decide (c ≤ 300))
  | .py p => okP p
  | _ => false
def Low (d : PyData) : Prop := ∀ x, d = .str x → ∀ c ∈ x.cps.toList, c ≤ 300
/-- a dict, or data without dicts -/
def Lay (p : PyData) : Prop := p.canLay0 = true ∨ isDk p = true
theorem okP_spec {p : PyData} (h : okP p = true) : FitX p 5 200 ∧ Lay p := by
  unfold okP at h
  simp only [Bool.and_eq_true, decide_eq_true_eq, Bool.or_eq_true] at h
  exact ⟨⟨h.1.1.1.1, h.1.1.1.2, h.1.1.2, h.1.2⟩, h.2⟩
theorem okD_spec {d : D} (h : okD d = true) : ∃ p, d = .py p ∧ Short 100 p ∧ Low p ∧ FitX p 5 200 ∧ Lay p := by
  cases d with
  | obj n => cases h
  | raw n => cases h
  | py p =>
    cases p with
    | str x =>
      have h := Bool.and_eq_true_iff.mp h
      have h2 := Bool.and_eq_true_iff.mp h.2
      refine ⟨_, rfl, fun x e => ?_, fun x e c hc => ?_, okP_spec h.1⟩
      · cases e
        exact of_decide_eq_true h2.1
      · cases e
        exact of_decide_eq_true (List.all_eq_true.mp h2.2 c hc)
    | none => exact ⟨_, rfl, fun x e => (by cases e), fun x e => (by cases e), okP_spec h⟩
    | bool b => exact ⟨_, rfl, fun x e => (by cases e), fun x e => (by cases e), okP_spec h⟩
    | int i => exact ⟨_, rfl, fun x e => (by cases e), fun x e => (by cases e), okP_spec h⟩
    | list ds => exact ⟨_, rfl, fun x e => (by cases e), fun x e => (by cases e), okP_spec h⟩
    | tuple ds => exact ⟨_, rfl, fun x e => (by cases e), fun x e => (by cases e), okP_spec h⟩
    | dict ds => exact ⟨_, rfl, fun x e => (by cases e), fun x e => (by cases e), okP_spec h⟩
theorem law_odd_okL {S : Sto} {n : Nat} {f : Face} (hB : BoxAt S n) (b122 : ∀ c ∈ f.lets, c ≤ 122) (h1 : 0 < f.ls.length) (h2 : f.ls.length ≤ 200) :
    (F_law_odd_v1 [.obj n, .py f.py] S).wp (fun d S' => ∃ p, d = .py p ∧ Short 100 p ∧ Low p ∧ FitX p 5 200 ∧ Lay p ∧ Ch n S S') noE := by
  have hn := hB.lt
  have tk : ∀ {T : Sto} (m : Int), Ch n S T → 0 < m → m < 1073741824 → (F_law_take [.obj n, .py (.int m)] T).wp (fun d S2 => ∃ r, d = .py (PyData.int r) ∧ (0 ≤ r ∧ r < m) ∧ Ch n T S2 ∧ S2.length = T.length) noE := fun m c a b =>
    (take_ok c.box a b).to fun d S2 ⟨r, e, r0, r1, c2, l⟩ => ⟨r, e, ⟨r0, r1⟩, c2, l⟩
  have c0 : Ch n S S := Ch.refl hB
  unfold F_law_odd_v1 b_law_odd_v1
  refine wp_fn ?_
  simp [init, law_letters_eq]
  refine (tk f.ls.length c0 (by omega) (by omega)).to ?_
  rintro _ T1 ⟨r, rfl, hr, c1, l1⟩
  have hl : r.toNat < f.lets.length := by simp; omega
  have it : ∀ T, itemD (.py (.list (f.lets.map lt))) (.py (.int r)) T = .ok (.py (lt f.lets[r.toNat])) T := fun T => itemD_listI hr.1 (by simp [hl])
  have ha : f.lets[r.toNat] ≤ 122 := b122 _ (List.getElem_mem hl)
  generalize f.lets[r.toNat] = a at *
  simp [it]
  refine (tk 26 c1 (by decide) (by decide)).to ?_
  rintro _ T2 ⟨r2, rfl, hr2, c2, l2⟩
  have i2 : ∃ b, b ≤ 122 ∧ ∀ T, itemD (.py (.str (Str.ofString "abcdefghijklmnopqrstuvwxyz"))) (.py (.int r2)) T = .ok (.py (lt b)) T := by
    obtain ⟨j, rfl⟩ : ∃ j : Nat, r2 = j := ⟨r2.toNat, by omega⟩
    have hj : j < 26 := by omega
    refine ⟨97 + j, by omega, fun T => ?_⟩
    unfold itemD
    simp only
    rw [if_pos (by decide +kernel), alphabet, atI_nat j (97 + j) (by rw [List.getElem?_map, List.getElem?_range hj]; rfl)]
  obtain ⟨b, hb, i2⟩ := i2
  have p10 : ∀ T, powD (.py (.int 10)) (.py (.int 19)) T = .ok (.py (.int 10000000000000000000)) T := fun T => rfl
  have a1 : ∀ T, addD (.py (lt a)) (.py (lt b)) T = .ok (.py (tx [a, b])) T := fun T => by
    unfold addD
    simp only
    rw [if_pos (by rw [sl_big']; simp [Str.length])]
    rfl
  have a2 : ∀ T, addD (.py (lt b)) (.py (.str (Str.ofString "\n"))) T = .ok (.py (tx [b, 10])) T := fun T => by
    have e : Str.ofString "\n" = ⟨#[10]⟩ := by decide +kernel
    rw [e]
    unfold addD
    simp only
    rw [if_pos (by rw [sl_big']; simp [Str.length])]
    rfl
  have m1 : ∀ T, mulSD (.py (lt a)) (.py (.int 2)) T = .ok (.py (tx [a, a])) T := fun T => by
    unfold mulSD
    simp only
    rw [if_pos (by simp [Str.length])]
    rfl
  have d1 : ∀ (x : D) T, dict1E 3 10 [some (.obj n), some (.py f.py), some (.py (.list (f.lets.map lt))), some (.py (lt a)), some (.py (lt b)), some x] T = .ok (.py (.dict [(lt a, .int 10)])) T := fun x T => rfl
  simp [i2, p10, a1, a2, m1, d1, lstOf_last, sl_big']
  rw [app4 _ _ _ _ _ _ (by rw [sl_big']; simp)]
  simp only [wp_ok]
  have ok : ∀ A B C E : List D, E.all okD = true → E.length = 46 → ∀ S0 : Sto, S0 = T2 ++ [.lst A, .lst B, .lst C, .lst E] →
      (lenD [.obj (T2.length + 1 + 1 + 1)] S0).wp (fun d S1 => (F_law_take [.obj n, d] S1).wp (fun y S2 => (itemD (.obj (T2.length + 1 + 1 + 1)) y S2).wp (fun d S1 => ∃ T, Cut S S1 T ∧ d.pure = true ∧ ∃ p, d = .py p ∧ Short 100 p ∧ Low p ∧ FitX p 5 200 ∧ Lay p ∧ Ch n S T) fun _ _ => False) fun _ _ => False) fun _ _ => False := by
    rintro A B C E hE lE _ rfl
    have c3 : Ch n S (T2 ++ [.lst A, .lst B, .lst C, .lst E]) := (c1.trans c2).trans (Ch.app c2.box)
    have g := get4 T2 (.lst A) (.lst B) (.lst C) (.lst E)
    rw [lenD_obj g]
    simp only [wp_ok, lE]
    refine (tk 46 c3 (by decide) (by decide)).to ?_
    rintro _ T3 ⟨r3, rfl, hr3, c4, l4⟩
    obtain ⟨j, rfl⟩ : ∃ j : Nat, r3 = j := ⟨r3.toNat, by omega⟩
    have hj : j < E.length := by omega
    have nn : T2.length + 1 + 1 + 1 ≠ n := by have := c2.box.lt; omega
    rw [itemD_obj (c4.at_ g nn) j (List.getElem?_eq_getElem hj)]
    simp only [wp_ok]
    obtain ⟨p, hp, sp, lp, fx, ly⟩ := okD_spec (List.all_eq_true.mp hE _ (List.getElem_mem hj))
    obtain ⟨U, k1, k2, k3⟩ := (c3.trans c4).cut hn
    exact ⟨U, k1, by rw [hp]; rfl, p, hp, sp, lp, fx, ly, k2⟩
  refine ok _ _ _ _ ?_ rfl _ rfl
  simp only [List.all_append, List.all_cons, List.all_nil, Bool.and_eq_true, and_true]
  repeat' apply And.intro
  all_goals first | rfl | (simp [okD, okP, Str.length, PyData.showable, PyData.showableAll, PyData.showableKv, PyData.depth, PyData.depthAll, PyData.depthKv, PyData.leavesShort, PyData.leavesShortAll, PyData.leavesShortKv, PyData.bulk, PyData.bulkAll, PyData.bulkKv, PyData.canLay0, PyData.canLayAll0, PyData.strOk, isDk, shS, shBig]; try ((repeat' apply And.intro) <;> first | omega | decide))
end DV

set_option maxHeartbeats 4000000
namespace DV
open PySem
/-! Things spoilt at some place. -/
theorem bulk_app : ∀ xs ys : List PyData, PyData.bulkAll (xs ++ ys) = PyData.bulkAll xs + PyData.bulkAll ys
  | [], ys => by rw [List.nil_append, PyData.bulkAll.eq_1, Nat.zero_add]
  | x :: xs, ys => by rw [List.cons_append, PyData.bulkAll.eq_2, PyData.bulkAll.eq_2, bulk_app xs ys]; omega
theorem depth_app : ∀ xs ys : List PyData, PyData.depthAll (xs ++ ys) = max (PyData.depthAll xs) (PyData.depthAll ys)
  | [], ys => by rw [List.nil_append, PyData.depthAll.eq_1, Nat.zero_max]
  | x :: xs, ys => by rw [List.cons_append, PyData.depthAll.eq_2, PyData.depthAll.eq_2, depth_app xs ys]; omega
theorem show_app : ∀ xs ys : List PyData, PyData.showableAll (xs ++ ys) = (PyData.showableAll xs && PyData.showableAll ys)
  | [], ys => by rw [List.nil_append, PyData.showableAll.eq_1, Bool.true_and]
  | x :: xs, ys => by rw [List.cons_append, PyData.showableAll.eq_2, PyData.showableAll.eq_2, show_app xs ys, Bool.and_assoc]
theorem leaves_app (n : Nat) : ∀ xs ys : List PyData, PyData.leavesShortAll n (xs ++ ys) = (PyData.leavesShortAll n xs && PyData.leavesShortAll n ys)
  | [], ys => by rw [List.nil_append, PyData.leavesShortAll.eq_1, Bool.true_and]
  | x :: xs, ys => by rw [List.cons_append, PyData.leavesShortAll.eq_2, PyData.leavesShortAll.eq_2, leaves_app n xs ys, Bool.and_assoc]
/-- the parts of a sequence, how much they weigh -/
structure Part (ds : List PyData) (k : Nat) : Prop where
  sh : PyData.showableAll ds = true
  dp : PyData.depthAll ds ≤ k
  ls : PyData.leavesShortAll 25 ds = true
theorem Part.app {xs ys : List PyData} {k : Nat} : Part (xs ++ ys) k ↔ Part xs k ∧ Part ys k := by
  constructor
  · intro ⟨a, b, c⟩
    rw [show_app, Bool.and_eq_true] at a
    rw [depth_app] at b
    rw [leaves_app, Bool.and_eq_true] at c
    exact ⟨⟨a.1, by omega, c.1⟩, ⟨a.2, by omega, c.2⟩⟩
  · intro ⟨⟨a, b, c⟩, ⟨d, e, f⟩⟩
    exact ⟨by rw [show_app, a, d]; rfl, by rw [depth_app]; omega, by rw [leaves_app, c, f]; rfl⟩
theorem Part.one {d : PyData} {k : Nat} : Part [d] k ↔ d.showable = true ∧ d.depth ≤ k ∧ d.leavesShort 25 = true := by
  constructor
  · intro ⟨a, b, c⟩
    rw [PyData.showableAll.eq_2, PyData.showableAll.eq_1, Bool.and_true] at a
    rw [PyData.depthAll.eq_2, PyData.depthAll.eq_1] at b
    rw [PyData.leavesShortAll.eq_2, PyData.leavesShortAll.eq_1, Bool.and_true] at c
    exact ⟨a, by omega, c⟩
  · intro ⟨a, b, c⟩
    exact ⟨by rw [PyData.showableAll.eq_2, PyData.showableAll.eq_1, a]; rfl, by rw [PyData.depthAll.eq_2, PyData.depthAll.eq_1]; omega, by rw [PyData.leavesShortAll.eq_2, PyData.leavesShortAll.eq_1, c]; rfl⟩
theorem Part.mono {ds : List PyData} {k j : Nat} (h : Part ds k) (hk : k ≤ j) : Part ds j := ⟨h.sh, Nat.le_trans h.dp hk, h.ls⟩
theorem Part.rev {ds : List PyData} {k : Nat} (h : Part ds k) : Part ds.reverse k ∧ PyData.bulkAll ds.reverse = PyData.bulkAll ds := by
  induction ds with
  | nil => exact ⟨h, rfl⟩
  | cons d ds ih =>
    have h2 : Part ([d] ++ ds) k := h
    rw [Part.app] at h2
    obtain ⟨i1, i2⟩ := ih h2.2
    rw [List.reverse_cons]
    refine ⟨Part.app.mpr ⟨i1, h2.1⟩, ?_⟩
    rw [bulk_app, i2, PyData.bulkAll.eq_2, PyData.bulkAll.eq_2, PyData.bulkAll.eq_1]
    omega
theorem FitX.part {d : PyData} {k w : Nat} (h : FitX d k w) : Part [d] k := Part.one.mpr ⟨h.sh, h.dp, h.ls⟩
theorem Part.fit {d : PyData} {k w : Nat} (h : Part [d] k) (hb : d.bulk ≤ w) : FitX d k w := let ⟨a, b, c⟩ := Part.one.mp h; ⟨a, b, c, hb⟩
theorem Part.tuple {ds : List PyData} {k w : Nat} (h : Part ds k) (hb : PyData.bulkAll ds ≤ w) : FitX (.tuple ds) (k + 1) w := FitX.tuple ⟨h.sh, h.dp, h.ls, hb⟩
theorem Part.list {ds : List PyData} {k w : Nat} (h : Part ds k) (hb : PyData.bulkAll ds ≤ w) : FitX (.list ds) (k + 1) w := FitX.list ⟨h.sh, h.dp, h.ls, hb⟩
theorem FitX.items {ds : List PyData} {k w : Nat} (h : FitX (.tuple ds) k w) : ∃ j, k = j + 1 ∧ Part ds j ∧ PyData.bulkAll ds ≤ w := by
  have h1 := h.sh
  have h2 := h.dp
  have h3 := h.ls
  have h4 := h.bk
  rw [PyData.showable.eq_6] at h1
  rw [PyData.depth.eq_2] at h2
  rw [PyData.leavesShort.eq_6] at h3
  rw [PyData.bulk.eq_3] at h4
  exact ⟨k - 1, by omega, ⟨h1, by omega, h3⟩, h4⟩
theorem bulk_one (d : PyData) : PyData.bulkAll [d] = d.bulk + 1 := by rw [PyData.bulkAll.eq_2, PyData.bulkAll.eq_1]
theorem bulk_mem {d : PyData} : ∀ {ds : List PyData}, d ∈ ds → d.bulk + 1 ≤ PyData.bulkAll ds
  | x :: xs, h => by
    rw [PyData.bulkAll.eq_2]
    rcases List.mem_cons.mp h with rfl | h
    · omega
    · have := bulk_mem h
      omega
theorem Part.mem {d : PyData} {ds : List PyData} {k : Nat} (h : Part ds k) (hd : d ∈ ds) : Part [d] k := by
  obtain ⟨a, b, rfl⟩ := List.append_of_mem hd
  have := (Part.app.mp h).2
  have : Part ([d] ++ b) k := this
  exact (Part.app.mp this).1
theorem FitX.item {d : PyData} {ds : List PyData} {k w : Nat} (h : FitX (.tuple ds) k w) (hd : d ∈ ds) : FitX d k w := by
  obtain ⟨j, rfl, p, b⟩ := h.items
  have := bulk_mem hd
  exact (p.mem hd).mono (Nat.le_succ _) |>.fit (by omega)
theorem FitX.short {d : PyData} {k w : Nat} (h : FitX d k w) : Short w d := by
  rintro x rfl
  have := h.bk
  rw [PyData.bulk.eq_1] at this
  exact this
/-- what may be spoilt: tuples of such, whole numbers, texts -/
def Tr : Nat → PyData → Prop
  | 0, _ => False
  | m + 1, .tuple ds => ds.length ≤ 1000 ∧ ∀ d ∈ ds, Tr m d
  | _ + 1, .int i => -10000000000000000000 ≤ i ∧ i ≤ 10000000000000000000
  | _ + 1, .bool _ => False
  | _ + 1, _ => True
theorem eqB_empty (ds : List PyData) : eqB (.tuple ds) (.tuple []) = some ds.isEmpty := by
  cases ds with
  | nil => rfl
  | cons d ds =>
    unfold eqB
    have e : PyData.eqv (.tuple (d :: ds)) (.tuple []) = false := rfl
    simp [flatD, e, offB]
theorem ne_unit (ds : List PyData) (S : Sto) : neD (.py (.tuple ds)) (.py (.tuple [])) S = .ok (.py (.bool (!ds.isEmpty))) S := by
  unfold neD
  simp only [eqB_empty]
theorem char_lt (c : Char) : c.toNat < 1114112 := by
  have h := c.valid
  simp only [UInt32.isValidChar, Nat.isValidChar] at h
  have e : c.toNat = c.val.toNat := rfl
  omega
theorem cps_lt (s : String) : ∀ c ∈ (Str.ofString s).cps.toList, c < 1114112 := by
  intro c hc
  have e : (Str.ofString s).cps.toList = s.toList.map Char.toNat := cpsOfBytes_string s
  rw [e] at hc
  obtain ⟨a, _, rfl⟩ := List.mem_map.mp hc
  exact char_lt a
theorem shI25 {i : Int} (h : -200000000000000000000 ≤ i ∧ i ≤ 200000000000000000000) : (PyData.int i).shown.length ≤ 25 := by
  have e := int_text_length_le10 (a := i) (k := 21) (by decide) (show i.natAbs < 10 ^ 21 by omega)
  have e2 : (PyData.int i).shown.length = (toString i).length := by
    show (Str.ofString (toString i)).length = _
    exact ofString_length _
  omega
theorem log_small {i : Int} (h : -200000000000000000000 ≤ i ∧ i ≤ 200000000000000000000) : i.natAbs.log2 < 1920 := by
  by_cases h0 : i.natAbs = 0
  · rw [h0]
    decide
  · rw [Nat.log2_lt h0]
    exact Nat.lt_of_lt_of_le (show i.natAbs < 2 ^ 80 by omega) (Nat.pow_le_pow_right (by decide) (by decide))
theorem fit_int {i : Int} (h : -200000000000000000000 ≤ i ∧ i ≤ 200000000000000000000) : FitX (.int i) 0 0 := by
  refine ⟨?_, by rw [PyData.depth.eq_6]; exact Nat.le_refl _, ?_, by rw [PyData.bulk.eq_7]; exact Nat.le_refl _⟩
  · rw [PyData.showable.eq_4, decide_eq_true_eq]
    by_cases h0 : i.natAbs = 0
    · rw [h0]
      decide
    · rw [Nat.log2_lt h0]
      exact Nat.lt_of_lt_of_le (show i.natAbs < 2 ^ 80 by omega) (Nat.pow_le_pow_right (by decide) (by decide))
  · rw [PyData.leavesShort.eq_3, decide_eq_true_eq]
    exact shI25 h
theorem fit_str {i : Int} (h : -200000000000000000000 ≤ i ∧ i ≤ 200000000000000000000) : FitX (.str (toString i)) 0 25 := (Fit.str (x := Str.ofString (toString i)) (n := 25) (cps_lt _) (shI25 h)).x
theorem sl_tr : sizeLine = 16777216 := by decide
theorem add_tup {a b : List PyData} (h : a.length + b.length ≤ 100000) (S : Sto) : addD (.py (.tuple a)) (.py (.tuple b)) S = .ok (.py (.tuple (a ++ b))) S := by
  unfold addD
  simp only
  rw [if_pos (by rw [sl_tr]; omega)]
theorem slice_to {ds : List PyData} {n : Nat} (S : Sto) : sliceV (.py (.tuple ds)) none (some (n : Int)) S = .ok (.py (.tuple (ds.take n))) S := by
  unfold sliceV
  simp only [cut_to]
theorem slice_from {ds : List PyData} {n : Nat} (S : Sto) : sliceV (.py (.tuple ds)) (some (n : Int)) none S = .ok (.py (.tuple (ds.drop n))) S := by
  unfold sliceV
  simp only [cut_from]
end DV

set_option maxHeartbeats 4000000
namespace DV
open PySem
/-! What a line of words costs. -/
/-- the words from one number to another -/
def lnW (ws : List (List Nat)) (a b : Nat) : List (List Nat) := (ws.drop a).take (b - a)
theorem Wds.ln {f : Face} {ws : List (List Nat)} (h : Wds f ws) (a b : Nat) : Wds f (lnW ws a b) := by
  have sub : ∀ w ∈ lnW ws a b, w ∈ ws := fun w hw => List.mem_of_mem_drop (List.mem_of_mem_take hw)
  refine ⟨fun w hw => h.ne w (sub w hw), fun w hw => h.mem w (sub w hw), fun w hw => h.short w (sub w hw), ?_⟩
  have := h.few
  simp [lnW]
  omega
/-- what a line costs -/
def cost (f : Face) (P : List Pair) (n : Int) (ws : List (List Nat)) (a b : Nat) : Option Int :=
  if n - wd f P (jn (lnW ws a b)) < 0 then none else if b = ws.length then some 0 else some ((n - wd f P (jn (lnW ws a b))) * (n - wd f P (jn (lnW ws a b))))
end DV

set_option maxHeartbeats 4000000
namespace DV
open PySem
/-! A thing spoilt at some place. -/
@[simp ↓] theorem wp_revTE (a : Ex) {σ : En} {S : Sto} {P : D → Sto → Prop} {E : Str → Sto → Prop} : (revTE a σ S).wp P E = (a σ S).wp (fun x S1 => ∃ ds, x = .py (.tuple ds) ∧ P (.py (.tuple ds.reverse)) S1) E := by
  unfold revTE
  rw [wp_bind]
  congr 1
  funext x S1
  split
  · exact propext ⟨fun h => ⟨_, rfl, h⟩, fun ⟨ds, e, h⟩ => by cases e; exact h⟩
  · rename_i hn
    exact propext ⟨fun h => h.elim, fun ⟨ds, e, h⟩ => (hn ds e).elim⟩
theorem list_tup (ds : List PyData) (S : Sto) : listD [.py (.tuple ds)] S = .ok (ds.map .py) S := rfl
theorem Part.sub {xs ys : List PyData} {k : Nat} (h : xs.Sublist ys) : Part ys k → Part xs k ∧ PyData.bulkAll xs ≤ PyData.bulkAll ys := by
  induction h with
  | slnil => exact fun h => ⟨h, Nat.le_refl _⟩
  | @cons l1 l2 a hs ih =>
    intro h
    have h2 : Part ([a] ++ l2) k := h
    obtain ⟨i1, i2⟩ := ih (Part.app.mp h2).2
    refine ⟨i1, ?_⟩
    rw [PyData.bulkAll.eq_2]
    omega
  | @cons_cons l1 l2 a hs ih =>
    intro h
    have h2 : Part ([a] ++ l2) k := h
    obtain ⟨i1, i2⟩ := ih (Part.app.mp h2).2
    refine ⟨show Part ([a] ++ l1) k from Part.app.mpr ⟨(Part.app.mp h2).1, i1⟩, ?_⟩
    rw [PyData.bulkAll.eq_2, PyData.bulkAll.eq_2]
    omega
theorem slice_one {ds : List PyData} {a : Nat} (S : Sto) : sliceV (.py (.tuple ds)) (some (a : Int)) (some ((a : Int) + 1)) S = .ok (.py (.tuple ((ds.drop a).take 1))) S := by
  unfold sliceV
  simp only
  have e : ((a : Int) + 1) = ((a + 1 : Nat) : Int) := by omega
  have : cutP ds (some (a : Int)) (some ((a : Int) + 1)) = (ds.drop a).take 1 := by
    unfold cutP
    rw [e, HT.sIx_nat, HT.sIx_nat]
    by_cases h : a < ds.length
    · rw [Nat.min_eq_left (Nat.le_of_lt h), Nat.min_eq_left (by omega)]
      congr 1
      omega
    · rw [List.drop_eq_nil_of_le (by omega), List.drop_eq_nil_of_le (by omega)]
      simp
  rw [this]
theorem law_spoil_ok (m : Nat) : ∀ {S : Sto} {n : Nat} {t o : PyData} {k w : Nat}, BoxAt S n → Tr m t → FitX t k w → FitX o 5 200 →
    (F_law_spoil m [.obj n, .py t, .py o] S).wp (fun d S' => ∃ p, d = .py p ∧ FitX p (k + 6) (2 * w + 300) ∧ Ch n S S') noE := by
  induction m with
  | zero => intro S n t o k w hB ht; exact ht.elim
  | succ m ih =>
    intro S n t o k w hB ht ft fo
    have hn := hB.lt
    have tk : ∀ {T : Sto} (m : Int), Ch n S T → 0 < m → m < 1073741824 → (F_law_take [.obj n, .py (.int m)] T).wp (fun d S2 => ∃ r, d = .py (PyData.int r) ∧ (0 ≤ r ∧ r < m) ∧ Ch n S S2) noE := fun m c a b =>
      (take_ok c.box a b).to fun d S2 ⟨r, e, r0, r1, c2, _⟩ => ⟨r, e, ⟨r0, r1⟩, c.trans c2⟩
    have c0 : Ch n S S := Ch.refl hB
    have fin : ∀ {T : Sto} {p : PyData}, FitX p (k + 6) (2 * w + 300) → Ch n S T → ∃ U, Cut S T U ∧ (D.py p).pure = true ∧ FitX p (k + 6) (2 * w + 300) ∧ Ch n S U := fun {T p} h c => by
      obtain ⟨U, k1, k2, _⟩ := c.cut hn
      exact ⟨U, k1, rfl, h, k2⟩
    have fod : FitX o (k + 6) (2 * w + 300) := fo.mono (by omega) (by omega)
    show (fnF 6 (b_law_spoil (F_law_spoil m)) _ S).wp _ _
    unfold b_law_spoil
    refine wp_fn ?_
    rw [wp_seq]
    refine wp_mid (fun σ σ' T => σ' = σ ∧ Ch n S T) ?_ ?_
    · cases t with
      | tuple ds =>
        obtain ⟨hl, hd⟩ := ht
        obtain ⟨j, rfl, hp, hb⟩ := ft.items
        have ne := fun T => ne_unit ds T
        have le : ∀ T, lenD [.py (.tuple ds)] T = .ok (.py (.int (ds.length : Nat))) T := fun T => by simp [lenD, seqOf]
        by_cases h0 : ds = []
        · subst h0
          simp [init, ne, isB]
          exact c0
        · have hne : ds.isEmpty = false := by simpa using h0
          have hpos : 0 < ds.length := List.length_pos_iff.mpr h0
          simp [init, ne, hne, isB]
          refine (tk 5 c0 (by decide) (by decide)).to ?_
          rintro _ T1 ⟨r, rfl, hr, c1⟩
          by_cases hr0 : 0 < r
          · simp [hr0, le]
            refine (tk ds.length c1 (by omega) (by omega)).to ?_
            rintro _ T2 ⟨r2, rfl, hr2, c2⟩
            obtain ⟨a, rfl⟩ : ∃ a : Nat, r2 = a := ⟨r2.toNat, by omega⟩
            have ha : a < ds.length := by omega
            have s1 : ∀ T, sliceV (.py (.tuple ds)) none (some (a : Int)) T = .ok (.py (.tuple (ds.take a))) T := fun T => slice_to T
            have s2 : ∀ T, sliceV (.py (.tuple ds)) (some ((a : Int) + 1)) none T = .ok (.py (.tuple (ds.drop (a + 1)))) T := fun T => slice_from (n := a + 1) T
            have it : ∀ T, itemD (.py (.tuple ds)) (.py (.int (a : Int))) T = .ok (.py ds[a]) T := fun T => itemD_tupleI (by omega) (by simp [ha])
            simp [s1, it]
            have hx : ds = ds.take a ++ [ds[a]] ++ ds.drop (a + 1) := by simp
            have hpx := hp
            rw [hx] at hpx
            have hb2 := hb
            rw [hx, bulk_app, bulk_app, bulk_one] at hb2
            obtain ⟨hp12, hp3⟩ := Part.app.mp hpx
            obtain ⟨hp1, hp2⟩ := Part.app.mp hp12
            refine (ih (k := j) (w := ds[a].bulk) c2.box (hd _ (List.getElem_mem ha)) (hp2.fit (Nat.le_refl _)) fo).to ?_
            rintro _ T3 ⟨p, rfl, fp, c3⟩
            have l1 : (ds.take a).length ≤ 1000 := by rw [List.length_take]; omega
            have l2 : (ds.drop (a + 1)).length ≤ 1000 := by rw [List.length_drop]; omega
            have a1 : ∀ T, addD (.py (.tuple (ds.take a))) (.py (.tuple [p])) T = .ok (.py (.tuple (ds.take a ++ [p]))) T := fun T => add_tup (by simp; omega) T
            have a2 : ∀ T, addD (.py (.tuple (ds.take a ++ [p]))) (.py (.tuple (ds.drop (a + 1)))) T = .ok (.py (.tuple (ds.take a ++ [p] ++ ds.drop (a + 1)))) T := fun T => add_tup (by rw [List.length_append]; simp; omega) T
            simp [pysOf, a1, s2, a2, -List.append_assoc]
            refine fin ?_ (c2.trans c3)
            have hpp : Part (ds.take a ++ [p] ++ ds.drop (a + 1)) (j + 6) := Part.app.mpr ⟨Part.app.mpr ⟨hp1.mono (by omega), fp.part⟩, hp3.mono (by omega)⟩
            refine (hpp.tuple (w := 2 * w + 300) ?_).mono (by omega) (Nat.le_refl _)
            rw [bulk_app, bulk_app, bulk_one]
            have := fp.bk
            omega
          · simp [hr0]
            exact c1
      | none => simp [init, isB]; exact c0
      | bool b => simp [init, isB]; exact c0
      | int i => simp [init, isB]; exact c0
      | str x => simp [init, isB]; exact c0
      | list ds => simp [init, isB]; exact c0
      | dict ds => simp [init, isiD, tyN, isB]; exact c0
    · rintro _ T ⟨rfl, c1⟩
      have odd : ∀ {T' : Sto}, Ch n S T' → ∃ U, Cut S T' U ∧ (D.py o).pure = true ∧ FitX o (k + 6) (2 * w + 300) ∧ Ch n S U := fun c => fin fod c
      cases t with
      | none => simp [init, isB]; exact (tk 7 c1 (by decide) (by decide)).to fun _ T2 ⟨r, e, hr, c2⟩ => by subst e; (try simp); exact odd c2
      | bool b => exact ht.elim
      | int i =>
        simp [init, isB]
        refine (tk 7 c1 (by decide) (by decide)).to ?_
        rintro _ T2 ⟨r, rfl, hr, c2⟩
        have ⟨i1, i2⟩ : -10000000000000000000 ≤ i ∧ i ≤ 10000000000000000000 := ht
        have st : ∀ T, strD [.py (.int i)] T = .ok (.py (.str (toString i))) T := fun T => by
          unfold strD
          simp only
          rw [if_pos (log_small (by omega))]
        have fi : ∀ z : Int, -200000000000000000000 ≤ z ∧ z ≤ 200000000000000000000 → FitX (.int z) (k + 6) (2 * w + 300) := fun z h => (fit_int h).mono (by omega) (by omega)
        have : r = 0 ∨ r = 1 ∨ r = 2 ∨ r = 3 ∨ r = 4 ∨ r = 5 ∨ r = 6 := by omega
        have items : ∀ (T : Sto), ∃ p, itemD (.py (.list [.int (i + 1), .int (i - 1), .int (-i), .str (Str.ofString i.repr), o, .int (i + 90), o])) (.py (.int r)) T = .ok (.py p) T ∧ FitX p (k + 6) (2 * w + 300) := fun T => by
          rcases this with rfl | rfl | rfl | rfl | rfl | rfl | rfl
          · exact ⟨_, itemD_listI (by decide) rfl, fi _ (by omega)⟩
          · exact ⟨_, itemD_listI (by decide) rfl, fi _ (by omega)⟩
          · exact ⟨_, itemD_listI (by decide) rfl, fi _ (by omega)⟩
          · exact ⟨_, itemD_listI (by decide) rfl, (fit_str (by omega)).mono (by omega) (by omega)⟩
          · exact ⟨_, itemD_listI (by decide) rfl, fod⟩
          · exact ⟨_, itemD_listI (by decide) rfl, fi _ (by omega)⟩
          · exact ⟨_, itemD_listI (by decide) rfl, fod⟩
        obtain ⟨p, ip, fp⟩ := items T2
        simp [st, pysOf, ip]
        exact fin fp c2
      | str x => simp [init, isB]; exact (tk 7 c1 (by decide) (by decide)).to fun _ T2 ⟨r, e, hr, c2⟩ => by subst e; (try simp); exact odd c2
      | list ds => simp [init, isB]; exact (tk 7 c1 (by decide) (by decide)).to fun _ T2 ⟨r, e, hr, c2⟩ => by subst e; (try simp); exact odd c2
      | dict ds => simp [init, isiD, tyN, isB]; exact (tk 7 c1 (by decide) (by decide)).to fun _ T2 ⟨r, e, hr, c2⟩ => by subst e; (try simp); exact odd c2
      | tuple ds =>
        obtain ⟨hl, hd⟩ := ht
        obtain ⟨j, rfl, hp, hb⟩ := ft.items
        have le : ∀ T, lenD [.py (.tuple ds)] T = .ok (.py (.int (ds.length : Nat))) T := fun T => by simp [lenD, seqOf]
        simp [init, isB]
        refine (tk 7 c1 (by decide) (by decide)).to ?_
        rintro _ T2 ⟨r, rfl, hr, c2⟩
        try simp [le]
        refine (tk (ds.length + 1) c2 (by omega) (by omega)).to ?_
        rintro _ T3 ⟨r2, rfl, hr2, c3⟩
        obtain ⟨a, rfl⟩ : ∃ a : Nat, r2 = a := ⟨r2.toNat, by omega⟩
        have ha : a ≤ ds.length := by omega
        have s1 : ∀ T, sliceV (.py (.tuple ds)) none (some (a : Int)) T = .ok (.py (.tuple (ds.take a))) T := fun T => slice_to T
        have s2 : ∀ T, sliceV (.py (.tuple ds)) (some ((a : Int) + 1)) none T = .ok (.py (.tuple (ds.drop (a + 1)))) T := fun T => slice_from (n := a + 1) T
        have s3 : ∀ T, sliceV (.py (.tuple ds)) (some (a : Int)) (some ((a : Int) + 1)) T = .ok (.py (.tuple ((ds.drop a).take 1))) T := fun T => slice_one T
        have s4 : ∀ T, sliceV (.py (.tuple ds)) (some (a : Int)) none T = .ok (.py (.tuple (ds.drop a))) T := fun T => slice_from (n := a) T
        have l1 : (ds.take a).length ≤ 1000 := by rw [List.length_take]; omega
        have l2 : (ds.drop (a + 1)).length ≤ 1000 := by rw [List.length_drop]; omega
        have l3 : ((ds.drop a).take 1).length ≤ 1000 := by rw [List.length_take]; omega
        have l4 : (ds.drop a).length ≤ 1000 := by rw [List.length_drop]; omega
        have a1 : ∀ T, addD (.py (.tuple (ds.take a))) (.py (.tuple (ds.drop (a + 1)))) T = .ok (.py (.tuple (ds.take a ++ ds.drop (a + 1)))) T := fun T => add_tup (by omega) T
        have a2 : ∀ T, addD (.py (.tuple (ds.take a))) (.py (.tuple ((ds.drop a).take 1))) T = .ok (.py (.tuple (ds.take a ++ (ds.drop a).take 1))) T := fun T => add_tup (by omega) T
        have a3 : ∀ T, addD (.py (.tuple (ds.take a ++ (ds.drop a).take 1))) (.py (.tuple (ds.drop a))) T = .ok (.py (.tuple (ds.take a ++ (ds.drop a).take 1 ++ ds.drop a))) T := fun T => add_tup (by rw [List.length_append]; omega) T
        have a4 : ∀ T, addD (.py (.tuple ds)) (.py (.tuple [o])) T = .ok (.py (.tuple (ds ++ [o]))) T := fun T => add_tup (by simp; omega) T
        have a5 : ∀ T, addD (.py (.tuple (ds.drop a))) (.py (.tuple (ds.take a))) T = .ok (.py (.tuple (ds.drop a ++ ds.take a))) T := fun T => add_tup (by omega) T
        have a6 : ∀ (p q r z u v w : PyData) T, addD (.py (.list [p, q, r, z])) (.py (.list [u, v, w])) T = .ok (.py (.list [p, q, r, z, u, v, w])) T := fun p q r z u v w T => by
          unfold addD
          simp only
          rw [if_pos (by rw [sl_tr]; simp)]
          rfl
        have fb : ∀ {xs : List PyData}, Part xs (j + 5) → PyData.bulkAll xs ≤ 2 * w + 300 → FitX (.tuple xs) (j + 1 + 6) (2 * w + 300) := fun h b => (h.tuple b).mono (by omega) (Nat.le_refl _)
        have ht1 := hp.sub (List.take_sublist a ds)
        have hd1 := hp.sub (List.drop_sublist a ds)
        have hd2 := hp.sub (List.drop_sublist (a + 1) ds)
        have hm1 := hd1.1.sub (List.take_sublist 1 (ds.drop a))
        have hsum : PyData.bulkAll (ds.take a) + PyData.bulkAll (ds.drop a) ≤ w := by
          rw [← bulk_app, List.take_append_drop]
          exact hb
        have hsub : PyData.bulkAll (ds.drop (a + 1)) ≤ PyData.bulkAll (ds.drop a) := by
          have := (hd1.1.sub (List.drop_sublist 1 (ds.drop a))).2
          rw [List.drop_drop] at this
          exact this
        have hrev := hp.rev
        have items : ∀ (T : Sto), ∃ p, itemD (.py (.list [.tuple (ds.take a ++ ds.drop (a + 1)), .tuple (ds.take a ++ (ds.drop a).take 1 ++ ds.drop a), .tuple ds.reverse, .list ds, .tuple (ds ++ [o]), o, .tuple (ds.drop a ++ ds.take a)])) (.py (.int r)) T = .ok (.py p) T ∧ FitX p (j + 1 + 6) (2 * w + 300) := fun T => by
          have : r = 0 ∨ r = 1 ∨ r = 2 ∨ r = 3 ∨ r = 4 ∨ r = 5 ∨ r = 6 := by omega
          rcases this with rfl | rfl | rfl | rfl | rfl | rfl | rfl
          · exact ⟨_, itemD_listI (by decide) rfl, fb (Part.app.mpr ⟨ht1.1.mono (by omega), hd2.1.mono (by omega)⟩) (by rw [bulk_app]; omega)⟩
          · exact ⟨_, itemD_listI (by decide) rfl, fb (Part.app.mpr ⟨Part.app.mpr ⟨ht1.1.mono (by omega), hm1.1.mono (by omega)⟩, hd1.1.mono (by omega)⟩) (by rw [bulk_app, bulk_app]; omega)⟩
          · exact ⟨_, itemD_listI (by decide) rfl, fb (hrev.1.mono (by omega)) (by rw [hrev.2]; omega)⟩
          · exact ⟨_, itemD_listI (by decide) rfl, (hp.list (Nat.le_refl _)).mono (by omega) (by omega)⟩
          · exact ⟨_, itemD_listI (by decide) rfl, fb (Part.app.mpr ⟨hp.mono (by omega), fo.part.mono (by omega)⟩) (by rw [bulk_app, bulk_one]; have := fo.bk; omega)⟩
          · exact ⟨_, itemD_listI (by decide) rfl, fod⟩
          · exact ⟨_, itemD_listI (by decide) rfl, fb (Part.app.mpr ⟨hd1.1.mono (by omega), ht1.1.mono (by omega)⟩) (by rw [bulk_app]; omega)⟩
        obtain ⟨p, ip, fp⟩ := items T3
        simp [s1, s2, s3, s4, a1, a2, a3, a4, a5, a6, list_tup, pysOf, ip, -List.append_assoc]
        exact fin fp c3
end DV

set_option maxHeartbeats 4000000
namespace DV
open PySem
/-! What is shown is no word; how far the signs of a text begin. -/
@[simp ↓] theorem wp_revS (a : Ex) {σ : En} {S : Sto} {P : D → Sto → Prop} {E : Str → Sto → Prop} : (revS a σ S).wp P E = (a σ S).wp (fun x S1 => ∃ z : Str, x = .py (.str z) ∧ z.length ≤ sizeLine ∧ P (.py (.str ⟨z.cps.toList.reverse.toArray⟩)) S1) E := by
  unfold revS
  rw [wp_bind]
  congr 1
  funext x S1
  split
  · rename_i z
    rw [wp_iteR]
    split
    · rename_i hz
      exact propext ⟨fun p => ⟨z, rfl, hz, p⟩, fun ⟨_, e, _, p⟩ => by cases e; exact p⟩
    · rename_i hz
      exact propext ⟨fun p => p.elim, fun ⟨_, e, q, p⟩ => by cases e; exact hz q⟩
  · rename_i hn
    exact propext ⟨fun h => h.elim, fun ⟨_, e, _⟩ => (hn _ e).elim⟩
end DV

set_option maxHeartbeats 4000000
namespace DV
/-! Breakings of k words left of L into lines, as rows of how many words each line has: costs, the greedy row of least cost. -/
section
variable (C : Nat → Nat → Option Int) (L : Nat) (pr : Nat → Int)
/-- the line of i + 1 words keeps to the price of k + 1 words left -/
def okR (k i : Nat) : Bool := match C (L - (k + 1)) (L - k + i) with
  | some c => decide (c + pr (k - i) = pr (k + 1))
  | none => false
def pickR (k : Nat) : Nat := ((List.range (k + 1)).reverse.find? fun i => okR C L pr k i).getD 0
def greedy : Nat → List Nat
  | 0 => []
  | k + 1 => (pickR C L pr k + 1) :: greedy (k - pickR C L pr k)
termination_by k => k
/-- the prices are least sums -/
structure Prs : Prop where
  zero : pr 0 = 0
  is : ∀ k, k < L → ∃ i c, i ≤ k ∧ C (L - (k + 1)) (L - k + i) = some c ∧ c + pr (k - i) = pr (k + 1)
  le : ∀ k i c, k < L → i ≤ k → C (L - (k + 1)) (L - k + i) = some c → pr (k + 1) ≤ c + pr (k - i)
variable {C L pr}
/-- a row with more words ahead -/
def ahead : List Nat → List Nat → Prop
  | x :: xs, y :: ys => y < x ∨ (x = y ∧ ahead xs ys)
  | _, _ => False
end
/-! ### all rows -/
/-- the last number one more -/
def more1 (row : List Nat) : List Nat := row.dropLast ++ [row.getLastD 0 + 1]
def brk : Nat → List (List Nat)
  | 0 => [[]]
  | 1 => [[1]]
  | k + 2 => (brk (k + 1)).map (· ++ [1]) ++ (brk (k + 1)).map more1
end DV

set_option maxHeartbeats 4000000
namespace DV
open PySem
end DV

set_option maxHeartbeats 4000000
namespace DV
open PySem
/-! Things drawn for laws of texts. -/
/-- a thing that may be asked about -/
structure Tng (x : PyData) : Prop where
  short : Short 10000 x
  low : Low x
  fit : FitX x 6 1000
theorem Tng.tx {l : List Nat} (h : ∀ c ∈ l, c ≤ 300) (hl : l.length ≤ 1000) : Tng (tx l) :=
  ⟨fun x e => (by cases e; simp [Str.length]; omega), fun x e => (by cases e; simpa using h), (Fit.str (x := ⟨l.toArray⟩) (n := 1000) (fun c hc => by have := h c (by simpa using hc); omega) (by simpa using hl)).x.mono (by decide) (by decide)⟩
theorem Tng.odd {p : PyData} (h1 : Short 100 p) (h2 : Low p) (h3 : FitX p 5 200) : Tng p :=
  ⟨fun x e => by have := h1 x e; omega, h2, h3.mono (by decide) (by decide)⟩
theorem fitL_lts {l : List Nat} (h : ∀ c ∈ l, c ≤ 300) (hl : l.length ≤ 250) : FitL (l.map lt) 0 500 := (FitL.all (k := 0) (w := 1) (fun d hd => by
    obtain ⟨c, hc, rfl⟩ := List.mem_map.mp hd
    have := h c hc
    exact Fit.lt (by omega))).mono (by decide) (by simp; omega)
theorem Tng.lst {l : List Nat} (h : ∀ c ∈ l, c ≤ 300) (hl : l.length ≤ 250) : Tng (.list (l.map lt)) :=
  ⟨fun x e => (by cases e), fun x e => (by cases e), (Fit.list (fitL_lts h hl)).x.mono (k := 1) (w := 500) (by decide) (by decide)⟩
theorem Tng.tup {l : List Nat} (h : ∀ c ∈ l, c ≤ 300) (hl : l.length ≤ 250) : Tng (.tuple (l.map lt)) :=
  ⟨fun x e => (by cases e), fun x e => (by cases e), (Fit.tuple (fitL_lts h hl)).x.mono (k := 1) (w := 500) (by decide) (by decide)⟩
/-- the law's own loop, where a text is named ahead of it -/
def Keep1 (sc z : D) (n : Nat) (σ : En) : Prop := ∃ ys : En, σ = some sc :: some z :: ys ∧ ys.length = n
theorem Keep1.mk {sc z : D} {n : Nat} {ys : En} (h : ys.length = n) : Keep1 sc z n (some sc :: some z :: ys) := ⟨ys, rfl, h⟩
end DV

set_option maxHeartbeats 4000000
namespace DV
open PySem
/-! The sign at a number. -/
def idx (p : Nat → Bool) (m : Nat) : PyData := match (List.range m).find? p with
  | some i => .int i
  | none => .none
end DV

set_option maxHeartbeats 4000000
namespace DV
open PySem
/-! Letters that may be added. -/
/-- the letter that a thing is -/
def isL : PyData → Option Nat
  | .str x => match x.cps.toList with
    | [c] => if 97 ≤ c ∧ c ≤ 122 then some c else none
    | _ => none
  | _ => none
/-! ### a drawn letter that a face has not -/
end DV

set_option maxHeartbeats 4000000
namespace DV
open PySem
/-! Letters, asked of any thing. -/
def isOne (t : PyData) (a : Nat) : Bool := match t with
  | .str x => decide ((⟨#[a]⟩ : Str) = x)
  | _ => false
theorem isOne_lt {t : PyData} {a : Nat} (h : isOne t a = true) : t = lt a := by
  cases t with
  | str x =>
    have : (⟨#[a]⟩ : Str) = x := of_decide_eq_true h
    rw [← this]
  | _ => cases h
theorem shaped_lt {a : Nat} (h : a ≤ 300) : SeqAt.shaped (lt a) = true := (Fit.str (x := ⟨#[a]⟩) (n := 1) (fun c' h' => by simp at h'; omega) (Nat.le_refl _)).shaped (by decide)
theorem eq_all {a : Nat} {t : PyData} (S : Sto) : eqD (.py (lt a)) (.py t) S = .ok (.py (.bool (isOne t a))) S := by
  cases t with
  | none => rfl
  | bool b => rfl
  | int i => rfl
  | str x => exact eqD_str
  | list ds =>
    unfold eqD eqB
    simp only [flatD]
    split
    · rename_i k hk
      split at hk
      · cases hk; rfl
      · cases hk; rfl
    · rename_i hk
      split at hk
      · cases hk
      · simp [offB] at hk
  | tuple ds =>
    unfold eqD eqB
    simp only [flatD]
    split
    · rename_i k hk
      split at hk
      · cases hk; rfl
      · cases hk; rfl
    · rename_i hk
      split at hk
      · cases hk
      · simp [offB] at hk
  | dict kvs =>
    have h0 : SeqAt.shaped (.dict kvs) = false := by
      unfold SeqAt.shaped
      rw [PyData.canLay0.eq_7]
      rfl
    unfold eqD eqB
    simp only [flatD]
    rw [h0]
    simp [offB, dkTx, isOne]
theorem eqv_all {a : Nat} {t : PyData} : PyData.eqv (lt a) t = isOne t a := by
  cases t with
  | str x =>
    show PyData.eqv (.str ⟨#[a]⟩) (.str x) = _
    rw [PyData.eqv.eq_6]
    rw [Bool.eq_iff_iff]
    simp [isOne]
  | none => simp [isOne, PyData.eqv]
  | bool b => simp [isOne, PyData.eqv]
  | int b => simp [isOne, PyData.eqv]
  | list b => simp [isOne, PyData.eqv]
  | tuple b => simp [isOne, PyData.eqv]
  | dict b => simp [isOne, PyData.eqv]
/-- any thing among texts of one sign -/
theorem inB_all (L : List Nat) (t : PyData) : inB t (.list (L.map lt)) = some (L.any (isOne t)) := by
  have hv : ((L.map lt).any fun z => PyData.eqv z t) = L.any (isOne t) := by
    rw [List.any_map]
    congr 1
    funext a
    exact eqv_all
  have hst : (L.map lt).all isSt = true := by
    rw [List.all_map]
    exact List.all_eq_true.mpr fun _ _ => rfl
  have hfl : (L.map lt).all isFlat = true := by
    rw [List.all_map]
    exact List.all_eq_true.mpr fun _ _ => rfl
  have hno : isSq t = true → L.any (isOne t) = false := fun h => by
    rw [List.any_eq_false]
    intro c _
    cases t <;> simp [isSq] at h <;> simp [isOne]
  unfold inB
  simp only
  split
  · rw [hv]
  · split
    · rename_i h
      rw [hno h.1]
    · rename_i h
      have hf : isFlat t = true := by cases t <;> first | rfl | exact absurd ⟨rfl, hst⟩ h
      rw [if_pos ⟨hf, hfl⟩, hv]
theorem notin_all (L : List Nat) (t : PyData) (S : Sto) : notInD (.py t) (.py (.list (L.map lt))) S = .ok (.py (.bool (!L.any (isOne t)))) S := by
  have h1 : deep S 8 (.py t) = some t := rfl
  have h2 : deep S 8 (.py (.list (L.map lt))) = some (.list (L.map lt)) := rfl
  simp only [notInD, inS, h1, h2, inB_all]
theorem place_all {f : Face} {t : PyData} (S : Sto) : F_place_of [.py f.py, .py t] S = .ok (.py (plcD (f.lets.findIdx? (isOne t)))) S := place_gen (f := f) (t := t) (p := isOne t) (fun q hq S => eq_all S) S
end DV

set_option maxHeartbeats 4000000
namespace DV
open PySem
/-! Rows of gaps, asked of any thing. -/
end DV

set_option maxHeartbeats 4000000
namespace DV
open PySem
/-! Tuples of pairs in order, each with a gap, asked of any thing. -/
/-- the place of a thing among letters -/
def plOf (L : List Nat) (t : PyData) : Option Nat := L.findIdx? (isOne t)
theorem plOf_some {L : List Nat} {t : PyData} : (plOf L t).isSome = L.any (isOne t) := by
  unfold plOf
  cases e : L.findIdx? (isOne t) with
  | none =>
    rw [List.findIdx?_eq_none_iff] at e
    symm
    simpa using e
  | some i =>
    obtain ⟨h1, h2, _⟩ := List.findIdx?_eq_some_iff_getElem.mp e
    symm
    exact List.any_eq_true.mpr ⟨_, List.getElem_mem h1, h2⟩
theorem plOf_lt {L : List Nat} {t : PyData} {i : Nat} (h : plOf L t = some i) : i < L.length ∧ ∃ c, L[i]? = some c ∧ t = lt c := by
  obtain ⟨h1, h2, _⟩ := List.findIdx?_eq_some_iff_getElem.mp h
  exact ⟨h1, L[i], by rw [List.getElem?_eq_getElem h1], isOne_lt h2⟩
def ltC (a b : Nat × Nat × Int) : Prop := a.1 < b.1 ∨ (a.1 = b.1 ∧ a.2.1 < b.2.1)
instance (a b : Nat × Nat × Int) : Decidable (ltC a b) := by unfold ltC; infer_instance
theorem three {gs : List PyData} (h : gs.length = 3) : ∃ a b c, gs = [a, b, c] := by
  match gs, h with
  | [a, b, c], _ => exact ⟨a, b, c, rfl⟩
/-! ### the law's own -/
theorem sort_iff (ns : List Int) : ns = sortI ns ↔ ns.Pairwise (· ≤ ·) := by
  constructor
  · intro h
    rw [h]
    exact (List.pairwise_mergeSort (le := fun a b : Int => decide (a ≤ b)) (fun a b c h1 h2 => by simp at *; omega) (fun a b => by simp; omega) ns).imp fun h => by simpa using h
  · intro h
    exact (sortI_self h).symm
theorem index_lts {L : List Nat} {c i : Nat} (hL : ∀ c ∈ L, c ≤ 122) (hl : L.length ≤ 200) (hc : c ≤ 300) (h : plOf L (lt c) = some i) (S : Sto) : indexD (.py (.list (L.map lt))) [.py (lt c)] S = .ok (.py (.int (i : Nat))) S := by
  have h1 : deep S 8 (.py (lt c)) = some (lt c) := rfl
  have h2 : deep S 8 (.py (.list (L.map lt))) = some (.list (L.map lt)) := rfl
  have f2 : SeqAt.shaped (.list (L.map lt)) = true := (Fit.list (fitL_lts (l := L.take 200) (fun c hc => by have := hL c (List.mem_of_mem_take hc); omega) (by simp; omega))).shaped (by decide) |> fun h => by
    rw [List.take_of_length_le (by simpa using hl)] at h
    exact h
  have hp : placeOf (L.map lt) (lt c) = some i := by
    unfold placeOf
    rw [List.findIdx?_map]
    have e : ((fun z => PyData.eqv z (lt c)) ∘ lt) = isOne (lt c) := funext fun a => show PyData.eqv (lt a) (lt c) = _ from eqv_all
    rw [e]
    exact h
  unfold indexD
  simp only [h1, h2]
  rw [if_pos ⟨f2, shaped_lt hc⟩]
  simp only [hp]
end DV

set_option maxHeartbeats 4000000
namespace DV
open PySem
/-! The law's things: some told ones, many spoilt ones. -/
theorem fix_own {σ : En} {i m : Nat} {T : Sto} {ds : List PyData} {N : K} (hi : σ[i]? = some (some (.obj m))) (h : T[m]? = some (.lst (ds.map .py))) (q : N.nx (σ.set i (some (.py (.list ds)))) (T.set m .gone)) : (fixS i σ T).wp N := by
  unfold fixS
  simp only [hi, h, pysOf_map]
  exact q
theorem app_own {S T : Sto} {n m : Nat} {ds : List PyData} (cT : Ch n S T) (hm : S.length ≤ m) (hn : n < S.length) (hT : T[m]? = some (.lst (ds.map .py))) (hl : ds.length ≤ 1000) (d : PyData) :
    ∃ U, appendD (.obj m) [.py d] T = .ok (.py .none) U ∧ Ch n S U ∧ U[m]? = some (.lst ((ds ++ [d]).map .py)) := by
  have hlt : m < T.length := (List.getElem?_eq_some_iff.mp hT).1
  refine ⟨_, appendD_obj hT (by rw [List.length_map, sl_tr]; omega), cT.own hm hn, ?_⟩
  rw [List.getElem?_set_self hlt]
  simp
theorem bulk_len : ∀ ds : List PyData, ds.length ≤ PyData.bulkAll ds
  | [] => Nat.zero_le _
  | d :: ds => by
    have := bulk_len ds
    rw [PyData.bulkAll.eq_2, List.length_cons]
    omega
theorem FitX.len {ts : List PyData} {k w : Nat} (h : FitX (.tuple ts) k w) : ts.length ≤ w := by
  obtain ⟨j, _, _, hb⟩ := h.items
  exact Nat.le_trans (bulk_len ts) hb
end DV

set_option maxHeartbeats 4000000
namespace DV
open PySem
/-! Partings, asked of any thing. -/
def plsOf (L : List Nat) : List PyData → Option (List Nat)
  | [] => some []
  | x :: xs => match plOf L x, plsOf L xs with
    | some i, some is => some (i :: is)
    | _, _ => none
def pInts (is : List Nat) : List Int := is.map fun k : Nat => (k : Int)
@[simp] theorem pInts_len (is : List Nat) : (pInts is).length = is.length := by simp [pInts]
theorem pInts_le {is : List Nat} : (pInts is).Pairwise (· ≤ ·) ↔ is.Pairwise (· ≤ ·) := by
  unfold pInts
  rw [List.pairwise_map]
  constructor
  · exact fun h => h.imp fun h => by omega
  · exact fun h => h.imp fun h => by omega
def clsOf (L : List Nat) : PyData → Option (List Nat)
  | .tuple xs => match plsOf L xs with
    | some is => if is ≠ [] ∧ is.Pairwise (· ≤ ·) then some is else none
    | none => none
  | _ => none
def clss (L : List Nat) : List PyData → Option (List (List Nat))
  | [] => some []
  | x :: xs => match clsOf L x, clss L xs with
    | some c, some cs => some (c :: cs)
    | _, _ => none
def isPart (L : List Nat) : PyData → Bool
  | .tuple ts => match clss L ts with
    | some G => decide ((pInts (G.map (·.headD 0))).Pairwise (· ≤ ·)) && decide (sortI (pInts G.flatten) = pInts (List.range L.length))
    | none => false
  | _ => false
theorem plsOf_len {L : List Nat} : ∀ {xs : List PyData} {is : List Nat}, plsOf L xs = some is → is.length = xs.length ∧ (∀ i ∈ is, i < L.length) ∧ xs = is.map fun i => lt (L.getD i 0)
  | [], is, h => by cases h; exact ⟨rfl, by simp, rfl⟩
  | x :: xs, is, h => by
    rw [plsOf] at h
    split at h
    · rename_i i is' h1 h2
      cases h
      obtain ⟨e1, e2, e3⟩ := plsOf_len h2
      obtain ⟨hi, c, hc, rfl⟩ := plOf_lt h1
      refine ⟨by rw [List.length_cons, List.length_cons, e1], fun j hj => ?_, ?_⟩
      · rcases List.mem_cons.mp hj with rfl | hj
        · exact hi
        · exact e2 j hj
      · rw [List.map_cons, ← e3, List.getD_eq_getElem?_getD, hc]
        rfl
    · cases h
theorem plsOf_all {L : List Nat} : ∀ {xs : List PyData} {is : List Nat}, plsOf L xs = some is → (xs.map fun d => D.py (plcD (plOf L d))) = ((pInts is).map PyData.int).map D.py
  | [], is, h => by cases h; rfl
  | x :: xs, is, h => by
    rw [plsOf] at h
    split at h
    · rename_i i is' h1 h2
      cases h
      rw [List.map_cons, plsOf_all h2, h1]
      rfl
    · cases h
theorem plsOf_none {L : List Nat} : ∀ {xs : List PyData}, plsOf L xs = none → ∃ x ∈ xs, plOf L x = none
  | [], h => by cases h
  | x :: xs, h => by
    rw [plsOf] at h
    split at h
    · cases h
    · rename_i hn
      cases h1 : plOf L x with
      | none => exact ⟨x, List.mem_cons_self .., h1⟩
      | some i =>
        cases h2 : plsOf L xs with
        | none =>
          obtain ⟨y, hy, h3⟩ := plsOf_none h2
          exact ⟨y, List.mem_cons_of_mem _ hy, h3⟩
        | some is => exact (hn _ _ h1 h2).elim
theorem plsOf_some {L : List Nat} : ∀ {xs : List PyData} {is : List Nat}, plsOf L xs = some is → ∀ x ∈ xs, ∃ i, plOf L x = some i
  | y :: xs, is, h, x, hx => by
    rw [plsOf] at h
    split at h
    · rename_i i is' h1 h2
      rcases List.mem_cons.mp hx with rfl | hx
      · exact ⟨i, h1⟩
      · exact plsOf_some h2 x hx
    · cases h
theorem clss_snoc {L : List Nat} {x : PyData} {c : List Nat} : ∀ {xs : List PyData} {cs : List (List Nat)}, clss L xs = some cs → clsOf L x = some c → clss L (xs ++ [x]) = some (cs ++ [c])
  | [], cs, h, hx => by
    cases h
    simp [clss, hx]
  | y :: xs, cs, h, hx => by
    unfold clss at h
    split at h
    · rename_i d ds h1 h2
      cases h
      rw [List.cons_append, clss, h1, clss_snoc h2 hx]
      rfl
    · cases h
theorem clss_none {L : List Nat} {x : PyData} {post : List PyData} : ∀ {xs : List PyData}, clsOf L x = none → clss L (xs ++ x :: post) = none
  | [], hx => by simp [clss, hx]
  | y :: xs, hx => by
    rw [List.cons_append, clss, clss_none (xs := xs) hx]
    split
    · rename_i h; cases h
    · rfl
theorem clss_bulk {L : List Nat} : ∀ {xs : List PyData} {cs : List (List Nat)}, clss L xs = some cs → cs.length = xs.length ∧ cs.flatten.length ≤ PyData.bulkAll xs ∧ ∀ c ∈ cs, c ≠ [] ∧ c.Pairwise (· ≤ ·) ∧ ∀ i ∈ c, i < L.length
  | [], cs, h => by cases h; exact ⟨rfl, Nat.zero_le _, by simp⟩
  | x :: xs, cs, h => by
    rw [clss] at h
    split at h
    · rename_i d ds h1 h2
      cases h
      obtain ⟨e1, e2, e3⟩ := clss_bulk h2
      unfold clsOf at h1
      split at h1
      · rename_i ys
        split at h1
        · rename_i is his
          split at h1
          · rename_i hq
            cases h1
            obtain ⟨l1, l2, _⟩ := plsOf_len his
            have lb := bulk_len ys
            refine ⟨by rw [List.length_cons, List.length_cons, e1], ?_, fun c hc => ?_⟩
            · rw [List.flatten_cons, List.length_append, PyData.bulkAll.eq_2, PyData.bulk.eq_3]
              omega
            · rcases List.mem_cons.mp hc with rfl | hc
              · exact ⟨hq.1, hq.2, l2⟩
              · exact e3 c hc
          · cases h1
        · cases h1
      · cases h1
    · cases h
theorem isPart_bad {L : List Nat} {pre post : List PyData} {x : PyData} (h : clsOf L x = none) : isPart L (.tuple (pre ++ x :: post)) = false := by
  unfold isPart
  simp only [clss_none h]
theorem eq_emp (ds : List PyData) (S : Sto) : eqD (.py (.tuple ds)) (.py (.tuple [])) S = .ok (.py (.bool ds.isEmpty)) S := by
  unfold eqD
  simp only [eqB_empty]
theorem eqB_nil (ds : List PyData) : eqB (.list ds) (.list []) = some ds.isEmpty := by
  cases ds with
  | nil => rfl
  | cons d ds =>
    unfold eqB
    have e : PyData.eqv (.list (d :: ds)) (.list []) = false := rfl
    simp [flatD, e, offB]
theorem ne_nil (ds : List PyData) (S : Sto) : neD (.py (.list ds)) (.py (.list [])) S = .ok (.py (.bool (!ds.isEmpty))) S := by
  unfold neD
  simp only [eqB_nil]
/-- None among places -/
theorem none_in (ds : List PyData) (h : ds.all isFlat = true) (S : Sto) : inD (.py .none) (.py (.list ds)) S = .ok (.py (.bool (ds.any isNon))) S := by
  have h1 : deep S 8 (.py .none) = some .none := rfl
  have h2 : deep S 8 (.py (.list ds)) = some (.list ds) := rfl
  have hv : (ds.any fun z => PyData.eqv z .none) = ds.any isNon := by
    rw [Bool.eq_iff_iff, List.any_eq_true, List.any_eq_true]
    have : ∀ x ∈ ds, (PyData.eqv x .none = true ↔ isNon x = true) := fun x hx => by
      have := List.all_eq_true.mp h x hx
      cases x <;> simp [isFlat] at this <;> simp [PyData.eqv, isNon]
    constructor
    · rintro ⟨x, hx, e⟩; exact ⟨x, hx, (this x hx).mp e⟩
    · rintro ⟨x, hx, e⟩; exact ⟨x, hx, (this x hx).mpr e⟩
  simp only [inD, inS, h1, h2, inB]
  by_cases hs : SeqAt.shaped PyData.none = true ∧ SeqAt.shaped (PyData.list ds) = true
  · rw [if_pos hs, hv]
  · rw [if_neg hs, if_neg (by simp [isSq]), if_pos ⟨rfl, h⟩, hv]
theorem plcD_flat (o : Option Nat) : isFlat (plcD o) = true := by cases o <;> rfl
theorem sm_p {is : List Nat} {n : Nat} (h : ∀ i ∈ is, i < n) (hn : n ≤ 1000) (hl : is.length ≤ 2000) : Sm (pInts is) := by
  refine ⟨fun x hx => ?_, by simpa using hl⟩
  obtain ⟨k, hk, rfl⟩ := List.mem_map.mp hx
  have := h k hk
  omega
theorem sm_sort {ns : List Int} (h : Sm ns) : Sm (sortI ns) := by
  have hp : (sortI ns).Perm ns := List.mergeSort_perm ns _
  exact ⟨fun x hx => h.bnd x (hp.mem_iff.mp hx), by rw [hp.length_eq]; exact h.len⟩
/-- what a program asks of a list of places -/
theorem sort_ask {ns : List Int} (h : Sm ns) (S : Sto) : sortedD [.py (lstI ns)] S = .ok (((sortI ns).map PyData.int).map D.py) S ∧ neD (.py (lstI ns)) (.py (lstI (sortI ns))) S = .ok (.py (.bool (!decide (ns.Pairwise (· ≤ ·))))) S ∧ eqD (.py (lstI ns)) (.py (lstI (sortI ns))) S = .ok (.py (.bool (decide (ns.Pairwise (· ≤ ·))))) S := by
  have e : decide (ns = sortI ns) = decide (ns.Pairwise (· ≤ ·)) := by rw [decide_eq_decide]; exact sort_iff ns
  refine ⟨?_, ?_, ?_⟩
  · rw [sortedD_ints (by have := h.len; omega)]
    simp
  · rw [ne_lstI h (sm_sort h), e]
  · rw [eq_lstI h (sm_sort h), e]
def heads0 (G : List (List Nat)) : List Nat := G.map (·.headD 0)
theorem isPart_eq {L : List Nat} {ts : List PyData} {G : List (List Nat)} (h : clss L ts = some G) : isPart L (.tuple ts) = (decide ((pInts (heads0 G)).Pairwise (· ≤ ·)) && decide (sortI (pInts G.flatten) = pInts (List.range L.length))) := by
  unfold isPart
  simp only [h]
  rfl
theorem lists_p (G : List (List Nat)) : listsOf (G.map fun is => lstI (pInts is)) = some (G.map fun is => (pInts is).map PyData.int) := by
  have := listsOf_map (G.map pInts)
  simpa [Function.comp_def] using this
theorem flat_p (G : List (List Nat)) : (G.map fun is => (pInts is).map PyData.int).flatten = (pInts G.flatten).map PyData.int := by
  induction G with
  | nil => rfl
  | cons g G ih =>
    rw [List.map_cons, List.flatten_cons, List.flatten_cons, ih]
    simp [pInts]
theorem is_parting_any {f : Face} {p : PyData} {k w : Nat} (h20 : f.ls.length ≤ 200) (fp : FitX p k w) (hw : w ≤ 1900) (S : Sto) : F_is_parting [.py f.py, .py p] S = .ok (.py (.bool (isPart f.lets p))) S := by
  have llen : f.lets.length = f.ls.length := by simp
  unfold F_is_parting b_is_parting
  refine fn_eq (wp_fn ?_)
  cases p with
  | none => simp [init, isB, isPart]; exact ⟨.self, rfl⟩
  | bool b => simp [init, isB, isPart]; exact ⟨.self, rfl⟩
  | int b => simp [init, isB, isPart]; exact ⟨.self, rfl⟩
  | str b => simp [init, isB, isPart]; exact ⟨.self, rfl⟩
  | list b => simp [init, isB, isPart]; exact ⟨.self, rfl⟩
  | dict b => simp [init, isiD, tyN, isB, isPart]; exact ⟨.self, rfl⟩
  | tuple ts =>
    have tl := fp.len
    obtain ⟨j, _, _, hbulk⟩ := fp.items
    simp [init, isB, -wp_forL_cons]
    rw [stL_nil]
    refine wp_forM D.py (fun pre σ T => wipeD σ [3, 4, 7] = [some (.py f.py), some (.py (.tuple ts)), some (.obj S.length), none, none, none, none, none] ∧ ∃ G, clss f.lets pre = some G ∧ T = stL S (G.map fun is => lstI (pInts is))) ⟨rfl, [], rfl, rfl⟩ ?_ ?_
    · rintro pre x post σ T e ⟨hσ, G, hG, rfl⟩
      obtain ⟨v3, v4, v7, rfl⟩ := slot3 hσ
      clear hσ
      have hGl : G.length ≤ 1900 := by
        have := (clss_bulk hG).1
        have := congrArg List.length e
        rw [List.length_append] at this
        omega
      have bad : clsOf f.lets x = none → ∃ U, Cut S (stL S (G.map fun is => lstI (pInts is))) U ∧ (D.py (PyData.bool false)).pure = true ∧ isPart f.lets (.tuple ts) = false ∧ U = S := fun h => ⟨S, .stL, rfl, by rw [e]; exact isPart_bad h, rfl⟩
      have fx := fp.item (d := x) (by rw [e]; simp)
      cases x with
      | none => simp [isB]; exact bad rfl
      | bool b => simp [isB]; exact bad rfl
      | int b => simp [isB]; exact bad rfl
      | str b => simp [isB]; exact bad rfl
      | list b => simp [isB]; exact bad rfl
      | dict b => simp [isiD, tyN, isB]; exact bad rfl
      | tuple xs =>
        have xl := fx.len
        have em := fun T => eq_emp xs T
        by_cases h0 : xs = []
        · subst h0
          simp [isB, em]
          exact bad (by simp [clsOf, plsOf])
        · have h0' : xs.isEmpty = false := by simpa using h0
          simp [isB, em, h0']
          refine wp_pureM1 D.py (fun d => D.py (plcD (plOf f.lets d))) (fun d _ => wp_eq ?_) ?_
          · have : ∀ T, F_place_of [.py f.py, .py d] T = .ok (.py (plcD (plOf f.lets d))) T := fun T => place_all T
            simp [this]
          · have e0 : (xs.map fun d => D.py (plcD (plOf f.lets d))) = (xs.map fun d => plcD (plOf f.lets d)).map D.py := by simp
            cases ep : plsOf f.lets xs with
            | none =>
              rw [e0, pysOf_map]
              have ni := fun T => none_in (xs.map fun d => plcD (plOf f.lets d)) (by rw [List.all_map]; exact List.all_eq_true.mpr fun d _ => plcD_flat _) T
              obtain ⟨y, hy, hn⟩ := plsOf_none ep
              have ht : (xs.map fun d => plcD (plOf f.lets d)).any isNon = true := List.any_eq_true.mpr ⟨plcD (plOf f.lets y), List.mem_map.mpr ⟨y, hy, rfl⟩, by rw [hn]; rfl⟩
              rw [ht] at ni
              simp [ni]
              exact bad (by simp [clsOf, ep])
            | some is =>
              obtain ⟨il, ilt, ixs⟩ := plsOf_len ep
              have sm := sm_p ilt (by omega) (by omega)
              rw [plsOf_all ep, pysOf_map]
              have nn := fun T => none_notin sm T
              have sa := fun T => sort_ask sm T
              have sa1 := fun T => (sa T).1
              have sa2 := fun T => (sa T).2.1
              have isne : is ≠ [] := fun h => h0 (by rw [ixs, h]; rfl)
              by_cases hs : (pInts is).Pairwise (· ≤ ·)
              · have ec : clsOf f.lets (.tuple xs) = some is := by simp [clsOf, ep, isne, pInts_le.mp hs]
                have ap := stL_app (S := S) (ds := G.map fun is => lstI (pInts is)) (d := lstI (pInts is)) (by rw [List.length_map, sl_tr]; omega)
                simp only [hs, decide_true, Bool.not_true] at sa2
                simp [nn, sa1, sa2, ap]
                exact ⟨G ++ [is], clss_snoc hG ec, by simp⟩
              · have ec : clsOf f.lets (.tuple xs) = none := by
                  have : ¬ is.Pairwise (· ≤ ·) := fun h => hs (pInts_le.mpr h)
                  simp [clsOf, ep, this]
                simp only [hs, decide_false, Bool.not_false] at sa2
                simp [nn, sa1, sa2]
                exact bad ec
    · rintro σ T ⟨hσ, G, hG, rfl⟩
      obtain ⟨v3, v4, v7, rfl⟩ := slot3 hσ
      obtain ⟨g1, g2, g3⟩ := clss_bulk hG
      simp
      refine stL_fix rfl ?_
      simp
      have hd : ∀ is ∈ G, ∀ T, itemD (.py (lstI (pInts is))) (.py (.int 0)) T = .ok (.py (.int ((is.headD 0 : Nat) : Int))) T := fun is his T => by
        have := (g3 is his).1
        cases is with
        | nil => exact absurd rfl this
        | cons a r => exact item_headI
      refine wp_pureM1 (D.py ∘ fun is : List Nat => lstI (pInts is)) (fun is => D.py (.int ((is.headD 0 : Nat) : Int))) (fun is his => wp_eq (by simp [hd is his])) ?_
      have e1 : (G.map fun is => D.py (.int ((is.headD 0 : Nat) : Int))) = ((pInts (heads0 G)).map PyData.int).map D.py := by simp [pInts, heads0]
      rw [e1, pysOf_map]
      have hfl : ∀ i ∈ G.flatten, i < f.lets.length := fun i hi => by
        obtain ⟨c, hc, hi⟩ := List.mem_flatten.mp hi
        exact (g3 c hc).2.2 i hi
      have hhd : ∀ i ∈ heads0 G, i < f.lets.length := fun i hi => by
        obtain ⟨c, hc, rfl⟩ := List.mem_map.mp hi
        have := g3 c hc
        cases c with
        | nil => exact absurd rfl this.1
        | cons a r => exact this.2.2 a (List.mem_cons_self ..)
      have smF := sm_p hfl (by omega) (by omega)
      have smH := sm_p hhd (by omega) (by simp [heads0]; omega)
      have smR := sm_p (is := List.range f.ls.length) (n := f.ls.length) (fun i hi => List.mem_range.mp hi) (by omega) (by simp; omega)
      have saF := fun T => (sort_ask smF T).1
      have saH1 := fun T => (sort_ask smH T).1
      have saH2 := fun T => (sort_ask smH T).2.2
      have eR := fun T => eq_lstI (sm_sort smF) smR T
      have lo := lists_p G
      have fl := flat_p G
      have hT := isPart_eq hG
      rw [llen] at hT
      have er : rngV 0 f.ls.length = ((pInts (List.range f.ls.length)).map PyData.int).map D.py := by simp [rngV, pInts]
      simp only [wp_ok]
      have fl2 : ((G.map fun is => (pInts is).map PyData.int).map (List.map D.py)).flatten = ((pInts G.flatten).map PyData.int).map D.py := by rw [← fl, List.map_flatten]
      have fl3 : (((G.map fun is => (pInts is).map PyData.int)).map List.length).sum = G.flatten.length := by rw [← List.length_flatten, fl, List.length_map, pInts_len]
      refine ⟨_, lo, by rw [fl3, sl_tr]; omega, ?_⟩
      rw [fl2, pysOf_map]
      have fin : ∀ b, b = isPart f.lets (.tuple ts) → ∃ U, Cut S (S ++ [O.gone]) U ∧ (D.py (PyData.bool b)).pure = true ∧ D.py (PyData.bool b) = D.py (.bool (isPart f.lets (.tuple ts))) ∧ U = S := fun b hb => ⟨S, .app, rfl, by rw [hb], rfl⟩
      by_cases h1 : (pInts (heads0 G)).Pairwise (· ≤ ·)
      · rw [decide_eq_true h1] at saH2 hT
        rw [Bool.true_and] at hT
        simp [saF, saH1, saH2, er, eR]
        first | exact ⟨by omega, S, .app, rfl, hT.symm, rfl⟩ | exact ⟨by omega, S, .app, rfl, by rw [hT], rfl⟩ | exact ⟨S, .app, rfl, by rw [hT], rfl⟩
      · rw [decide_eq_false h1] at saH2 hT
        rw [Bool.false_and] at hT
        simp [saF, saH1, saH2]
        exact ⟨S, .app, rfl, hT, rfl⟩
theorem notin_fil {L : List Nat} {xs : List PyData} : plsOf L xs = none ↔ (xs.filter fun d => !L.any (isOne d)) ≠ [] := by
  constructor
  · intro h
    obtain ⟨x, hx, hn⟩ := plsOf_none h
    have : L.any (isOne x) = false := by rw [← plOf_some, hn]; rfl
    exact List.ne_nil_of_mem (List.mem_filter.mpr ⟨hx, by rw [this]; rfl⟩)
  · intro h
    cases e : plsOf L xs with
    | none => rfl
    | some is =>
      exfalso
      apply h
      rw [List.filter_eq_nil_iff]
      intro d hd
      obtain ⟨i, hi⟩ := plsOf_some e d hd
      have : L.any (isOne d) = true := by rw [← plOf_some, hi]; rfl
      rw [this]
      simp
@[simp] theorem headD_take (is : List Nat) (h : is ≠ []) : is.take 1 = [is.headD 0] := by
  cases is with
  | nil => exact absurd rfl h
  | cons a r => rfl
def OkP (L : List Nat) (pre : List PyData) (m h : PyData) : Prop := ∃ G, clss L pre = some G ∧ m = lstI (pInts G.flatten) ∧ h = lstI (pInts (heads0 G))
theorem law_is_parting_any {f : Face} {p : PyData} {k w : Nat} (b122 : ∀ c ∈ f.lets, c ≤ 122) (h20 : f.ls.length ≤ 200) (fp : FitX p k w) (hw : w ≤ 1900) (S : Sto) : F_law_is_parting [.py f.py, .py p] S = .ok (.py (.bool (isPart f.lets p))) S := by
  have llen : f.lets.length = f.ls.length := by simp
  unfold F_law_is_parting b_law_is_parting
  refine fn_eq (wp_fn ?_)
  cases p with
  | none => simp [init, law_letters_eq, isB, isPart]; exact ⟨.self, rfl⟩
  | bool b => simp [init, law_letters_eq, isB, isPart]; exact ⟨.self, rfl⟩
  | int b => simp [init, law_letters_eq, isB, isPart]; exact ⟨.self, rfl⟩
  | str b => simp [init, law_letters_eq, isB, isPart]; exact ⟨.self, rfl⟩
  | list b => simp [init, law_letters_eq, isB, isPart]; exact ⟨.self, rfl⟩
  | dict b => simp [init, law_letters_eq, isiD, tyN, isB, isPart]; exact ⟨.self, rfl⟩
  | tuple ts =>
    have tl := fp.len
    obtain ⟨j, _, _, hbulk⟩ := fp.items
    simp [init, law_letters_eq, isB, setAll, -wp_forL_cons]
    refine wp_forM D.py (fun pre σ T => wipeD σ [3, 4, 5, 6, 7] = [some (.py f.py), some (.py (.tuple ts)), some (.py (.list (f.lets.map lt))), none, none, none, none, none] ∧ T = S ∧ ∃ m h, σ[3]? = some (some (.py m)) ∧ σ[4]? = some (some (.py h)) ∧ OkP f.lets pre m h) ⟨rfl, rfl, .list [], .list [], rfl, rfl, [], rfl, rfl, rfl⟩ ?_ ?_
    · rintro pre x post σ T e ⟨hσ, rfl, m, h, hm, hh, G, hG, rfl, rfl⟩
      obtain ⟨v3, v4, v5, v6, v7, rfl⟩ := slot5 hσ
      clear hσ
      have h3 : v3 = some (.py (lstI (pInts G.flatten))) := by simpa using hm
      have h4 : v4 = some (.py (lstI (pInts (heads0 G)))) := by simpa using hh
      subst h3 h4
      obtain ⟨g1, g2, g3⟩ := clss_bulk hG
      have hsub : PyData.bulkAll pre + PyData.bulkAll (x :: post) ≤ w := by
        rw [e, bulk_app] at hbulk
        exact hbulk
      have bad : clsOf f.lets x = none → ∃ U, Cut T T U ∧ (D.py (PyData.bool false)).pure = true ∧ isPart f.lets (.tuple ts) = false ∧ U = T := fun h => ⟨T, .self, rfl, by rw [e]; exact isPart_bad h, rfl⟩
      have fx := fp.item (d := x) (by rw [e]; simp)
      cases x with
      | none => simp [isB]; exact bad rfl
      | bool b => simp [isB]; exact bad rfl
      | int b => simp [isB]; exact bad rfl
      | str b => simp [isB]; exact bad rfl
      | list b => simp [isB]; exact bad rfl
      | dict b => simp [isiD, tyN, isB]; exact bad rfl
      | tuple xs =>
        have xl := fx.len
        have em := fun T => eq_emp xs T
        by_cases h0 : xs = []
        · subst h0
          simp [isB, em]
          exact bad (by simp [clsOf, plsOf])
        · have h0' : xs.isEmpty = false := by simpa using h0
          simp [isB, em, h0']
          refine wp_pureM D.py (fun d => !f.lets.any (isOne d)) D.py (fun d _ => ?_) ?_
          · have ni := fun T => notin_all f.lets d T
            simp [ni]
            by_cases hh : ∃ x, x ∈ f.lets ∧ isOne d x = true
            · exact .inl hh
            · exact .inr fun x hx => by
                cases q : isOne d x with
                | false => rfl
                | true => exact absurd ⟨x, hx, q⟩ hh
          · rw [pysOf_map]
            have nn := fun T => ne_nil (xs.filter fun d => !f.lets.any (isOne d)) T
            cases ep : plsOf f.lets xs with
            | none =>
              have hne := notin_fil.mp ep
              have hne' : (xs.filter fun d => !f.lets.any (isOne d)).isEmpty = false := by simpa using hne
              rw [hne'] at nn
              simp only [nn, wp_ok]
              simp
              exact bad (by simp [clsOf, ep])
            | some is =>
              have hnn : (xs.filter fun d => !f.lets.any (isOne d)) = [] := by
                apply Classical.byContradiction
                intro h
                rw [notin_fil.mpr h] at ep
                cases ep
              rw [hnn] at nn ⊢
              simp only [nn, wp_ok]
              obtain ⟨il, ilt, ixs⟩ := plsOf_len ep
              have isne : is ≠ [] := fun h => h0 (by rw [ixs, h]; rfl)
              have sm := sm_p ilt (by omega) (by omega)
              simp
              refine wp_pureM1 D.py (fun d => D.py (plcD (plOf f.lets d))) (fun d hd => wp_eq ?_) ?_
              · obtain ⟨i, hi⟩ := plsOf_some ep d hd
                obtain ⟨_, c, hc, rfl⟩ := plOf_lt hi
                have ix := fun T => index_lts b122 (by omega) (by have := b122 _ (List.mem_of_getElem? hc); omega) hi T
                simp [ix, hi, plcD]
              · rw [plsOf_all ep, pysOf_map]
                have sa1 := fun T => (sort_ask sm T).1
                have sa2 := fun T => (sort_ask sm T).2.1
                by_cases hs : (pInts is).Pairwise (· ≤ ·)
                · have ec : clsOf f.lets (.tuple xs) = some is := by simp [clsOf, ep, isne, pInts_le.mp hs]
                  have ad : ∀ (u v : List Int) T, u.length + v.length ≤ 100000 → addD (.py (lstI u)) (.py (lstI v)) T = .ok (.py (lstI (u ++ v))) T := fun u v T h => by
                    unfold addD
                    simp only
                    rw [if_pos (by rw [List.length_map, List.length_map, sl_tr]; omega), ← List.map_append]
                  have l1 : G.flatten.length ≤ 1900 := by omega
                  have l2 : is.length ≤ 1900 := by omega
                  have l3 : (heads0 G).length ≤ 1900 := by
                    have := bulk_len pre
                    simp [heads0]
                    omega
                  have a1 := fun T => ad (pInts G.flatten) (pInts is) T (by simp only [pInts_len]; omega)
                  have a2 := fun T => ad (pInts (heads0 G)) [(is.headD 0 : Nat)] T (by simp only [pInts_len, List.length_singleton]; omega)
                  have so : ∀ T, seqOf T (.py (lstI (pInts is))) = some (((pInts is).map PyData.int).map D.py) := fun T => rfl
                  have cu : cutP (((pInts is).map PyData.int).map D.py) none (some 1) = [D.py (.int ((is.headD 0 : Nat) : Int))] := by
                    have := cut_to (((pInts is).map PyData.int).map D.py) 1
                    rw [show ((1 : Nat) : Int) = 1 from rfl] at this
                    rw [this]
                    cases is with
                    | nil => exact absurd rfl isne
                    | cons a r => rfl
                  have cl : (((pInts is).map PyData.int).map D.py).length ≤ sizeLine := by
                    rw [List.length_map, List.length_map, pInts_len, sl_tr]
                    omega
                  simp only [hs, decide_true, Bool.not_true] at sa2
                  have en : OkP f.lets (pre ++ [.tuple xs]) (lstI (pInts G.flatten ++ pInts is)) (lstI (pInts (heads0 G) ++ [((is.headD 0 : Nat) : Int)])) :=
                    ⟨G ++ [is], clss_snoc hG ec, by simp [pInts], by simp [pInts, heads0]⟩
                  simp only [sa1, wp_ok, pysOf_map, sa2]
                  refine .inl ⟨trivial, ?_⟩
                  have a1' := a1 T
                  rw [a1', wp_ok, so]
                  simp only [cl, if_true, wp_ok, cu]
                  have a2' := a2 T
                  show (addD (.py (lstI (pInts (heads0 G)))) (.py (lstI [((is.headD 0 : Nat) : Int)])) T).wp _ _
                  rw [a2', wp_ok]
                  exact ⟨rfl, _, rfl, _, rfl, en⟩
                · have ec : clsOf f.lets (.tuple xs) = none := by
                    have : ¬ is.Pairwise (· ≤ ·) := fun h => hs (pInts_le.mpr h)
                    simp [clsOf, ep, this]
                  simp only [hs, decide_false, Bool.not_false] at sa2
                  simp [sa1, sa2]
                  exact bad ec
    · rintro σ T ⟨hσ, rfl, m, h, hm, hh, G, hG, rfl, rfl⟩
      obtain ⟨v3, v4, v5, v6, v7, rfl⟩ := slot5 hσ
      clear hσ
      have h3 : v3 = some (.py (lstI (pInts G.flatten))) := by simpa using hm
      have h4 : v4 = some (.py (lstI (pInts (heads0 G)))) := by simpa using hh
      subst h3 h4
      obtain ⟨g1, g2, g3⟩ := clss_bulk hG
      have hfl : ∀ i ∈ G.flatten, i < f.lets.length := fun i hi => by
        obtain ⟨c, hc, hi⟩ := List.mem_flatten.mp hi
        exact (g3 c hc).2.2 i hi
      have hhd : ∀ i ∈ heads0 G, i < f.lets.length := fun i hi => by
        obtain ⟨c, hc, rfl⟩ := List.mem_map.mp hi
        have := g3 c hc
        cases c with
        | nil => exact absurd rfl this.1
        | cons a r => exact this.2.2 a (List.mem_cons_self ..)
      have smF := sm_p hfl (by omega) (by omega)
      have smH := sm_p hhd (by omega) (by simp [heads0]; omega)
      have smR := sm_p (is := List.range f.ls.length) (n := f.ls.length) (fun i hi => List.mem_range.mp hi) (by omega) (by simp; omega)
      have saF := fun T => (sort_ask smF T).1
      have saH1 := fun T => (sort_ask smH T).1
      have saH2 := fun T => (sort_ask smH T).2.2
      have eR := fun T => eq_lstI (sm_sort smF) smR T
      have hT := isPart_eq hG
      rw [llen, Bool.and_comm] at hT
      have er : rngV 0 f.ls.length = ((pInts (List.range f.ls.length)).map PyData.int).map D.py := by simp [rngV, pInts]
      by_cases h1 : sortI (pInts G.flatten) = pInts (List.range f.ls.length)
      · rw [decide_eq_true h1] at hT
        rw [Bool.true_and] at hT
        simp only [h1, decide_true] at eR saF
        simp [saF, saH1, saH2, er, eR]
        exact ⟨by omega, T, .self, rfl, by rw [hT], rfl⟩
      · rw [decide_eq_false h1] at hT
        rw [Bool.false_and] at hT
        simp only [h1, decide_false] at eR
        simp [saF, er, eR]
        exact ⟨by omega, T, .self, rfl, hT, rfl⟩
/-! ### what is a parting is one -/
def ltsOf (L : List Nat) (is : List Nat) : List Nat := is.map fun i => L.getD i 0
theorem clss_is {L : List Nat} : ∀ {xs : List PyData} {C : List (List Nat)}, clss L xs = some C → xs = C.map fun is => .tuple ((ltsOf L is).map lt)
  | [], C, h => by cases h; rfl
  | x :: xs, C, h => by
    rw [clss] at h
    split at h
    · rename_i d ds h1 h2
      cases h
      unfold clsOf at h1
      split at h1
      · rename_i ys
        split at h1
        · rename_i is his
          split at h1
          · cases h1
            obtain ⟨_, _, e⟩ := plsOf_len his
            rw [List.map_cons, ← clss_is h2]
            congr 2
            rw [e]
            try simp [ltsOf]
          · cases h1
        · cases h1
      · cases h1
    · cases h
theorem heads_sub : ∀ {C : List (List Nat)}, (∀ c ∈ C, c ≠ []) → (heads0 C).Sublist C.flatten
  | [], _ => List.Sublist.refl _
  | c :: C, h => by
    have ih := heads_sub (C := C) fun x hx => h x (List.mem_cons_of_mem _ hx)
    have hc := h c (List.mem_cons_self ..)
    cases c with
    | nil => exact absurd rfl hc
    | cons a r =>
      show (a :: heads0 C).Sublist ((a :: r) ++ C.flatten)
      exact List.Sublist.cons_cons a (ih.trans (List.sublist_append_right r _))
theorem lts_range (L : List Nat) : ltsOf L (List.range L.length) = L := by
  unfold ltsOf
  apply List.ext_getElem?
  intro i
  by_cases hi : i < L.length
  · rw [List.getElem?_map, List.getElem?_range hi, List.getElem?_eq_getElem hi]
    simp [List.getD_eq_getElem?_getD, hi]
  · rw [List.getElem?_eq_none (by simp; omega), List.getElem?_eq_none (by omega)]
theorem part_is {L : List Nat} {p : PyData} (nd : L.Nodup) (h : isPart L p = true) : ∃ G, p = encG G ∧ IsPart L G := by
  cases p with
  | tuple ts =>
    cases hC : clss L ts with
    | none => unfold isPart at h; simp only [hC] at h; cases h
    | some C =>
      rw [isPart_eq hC, Bool.and_eq_true, decide_eq_true_eq, decide_eq_true_eq] at h
      obtain ⟨hh, hs⟩ := h
      obtain ⟨_, _, g3⟩ := clss_bulk hC
      have hp : C.flatten.Perm (List.range L.length) := by
        have h1 : (sortI (pInts C.flatten)).Perm (pInts C.flatten) := List.mergeSort_perm _ _
        rw [hs] at h1
        have h2 := h1.symm.map Int.toNat
        have e : ∀ l : List Nat, (pInts l).map Int.toNat = l := fun l => by simp [pInts, Function.comp_def]
        rw [e, e] at h2
        exact h2
      have hnd : C.flatten.Nodup := hp.nodup_iff.mpr List.nodup_range
      have pl : ∀ i, i < L.length → plc L (L.getD i 0) = i := fun i hi => plc_at nd (by rw [List.getD_eq_getElem?_getD, List.getElem?_eq_getElem hi]; rfl)
      have pls : ∀ is : List Nat, (∀ i ∈ is, i < L.length) → (ltsOf L is).map (plc L) = is := fun is his => by
        unfold ltsOf
        rw [List.map_map]
        conv => rhs; rw [← List.map_id is]
        exact List.map_congr_left fun i hi => pl i (his i hi)
      refine ⟨C.map (ltsOf L), ?_, ?_, ?_, ?_, ?_, ?_⟩
      · rw [clss_is hC]
        simp
      · intro g hg
        obtain ⟨c, hc, rfl⟩ := List.mem_map.mp hg
        have := (g3 c hc).1
        unfold ltsOf
        simpa using this
      · intro g hg
        obtain ⟨c, hc, rfl⟩ := List.mem_map.mp hg
        obtain ⟨c1, c2, c3⟩ := g3 c hc
        rw [pls c c3]
        have c4 : c.Nodup := hnd.sublist (List.sublist_flatten_of_mem hc)
        exact (c2.and c4).imp fun ⟨a, b⟩ => by omega
      · intro g hg x hx
        obtain ⟨c, hc, rfl⟩ := List.mem_map.mp hg
        obtain ⟨i, hi, rfl⟩ := List.mem_map.mp hx
        have := (g3 c hc).2.2 i hi
        rw [List.getD_eq_getElem?_getD, List.getElem?_eq_getElem this]
        exact List.getElem_mem this
      · have e : ((C.map (ltsOf L)).map fun g => plc L (hd0 g)) = heads0 C := by
          unfold heads0
          rw [List.map_map]
          refine List.map_congr_left fun c hc => ?_
          obtain ⟨c1, c2, c3⟩ := g3 c hc
          cases c with
          | nil => exact absurd rfl c1
          | cons a r => exact pl a (c3 a (List.mem_cons_self ..))
        rw [e]
        have h1 := pInts_le.mp hh
        have h2 : (heads0 C).Nodup := hnd.sublist (heads_sub fun c hc => (g3 c hc).1)
        exact (h1.and h2).imp fun ⟨a, b⟩ => by omega
      · have e : (C.map (ltsOf L)).flatten = ltsOf L C.flatten := by
          unfold ltsOf
          rw [List.map_flatten]
          try rfl
        rw [e]
        have := hp.map fun i => L.getD i 0
        have e2 : (List.range L.length).map (fun i => L.getD i 0) = L := lts_range L
        rw [e2] at this
        exact this
  | _ => cases h
theorem need_parting_any {f : Face} {p : PyData} {k w : Nat} (h20 : f.ls.length ≤ 200) (fp : FitX p k w) (hw : w ≤ 1900) (S : Sto) : F_need_parting [.py f.py, .py p] S = if isPart f.lets p = true then .ok (.py .none) S else .ex "NoParting" S := by
  have ip := fun T => is_parting_any h20 fp hw T
  unfold F_need_parting b_need_parting
  by_cases h : isPart f.lets p = true
  · rw [if_pos h]
    refine fn_eq (wp_fn ?_)
    simp [init, ip, h]
    first | exact ⟨.self, rfl⟩ | exact .self
  · rw [if_neg h]
    have h' : isPart f.lets p = false := by simpa using h
    refine wp_exq (wp_fn ?_)
    simp [init, ip, h']
    exact .self
theorem tr_cls {G : List (List Nat)} (h1 : G.length ≤ 1000) (h2 : ∀ g ∈ G, g.length ≤ 1000) : Tr 6 (encG G) := by
  refine ⟨by simpa using h1, fun d hd => ?_⟩
  obtain ⟨g, hg, rfl⟩ := List.mem_map.mp hd
  refine ⟨by simpa using h2 g hg, fun x hx => ?_⟩
  obtain ⟨c, _, rfl⟩ := List.mem_map.mp hx
  trivial
end DV

set_option maxHeartbeats 4000000
namespace DV
open PySem
/-! All partings, as rows of class numbers. -/
abbrev e1 (r : List Int) : PyData := .int (r.headD 0)
end DV

set_option maxHeartbeats 4000000
namespace DV
open PySem
/-! The least of some sums, none where there is none. -/
def bestS (b : Option Int) (s : Option Int) : Option Int := match s with
  | none => b
  | some c => match b with
    | none => some c
    | some v => if c < v then some c else some v
def bestL (xs : List (Option Int)) : Option Int := xs.foldl bestS none
/-- the least costs from each of the last k words on, the first ahead -/
def prices (f : Face) (P : List Pair) (n : Int) (ws : List (List Nat)) : Nat → List Int
  | 0 => [0]
  | k + 1 => ((bestL ((List.range (k + 1)).map fun i => (cost f P n ws (ws.length - (k + 1)) (ws.length - k + i)).map (· + (prices f P n ws k).getD i 0))).getD 0) :: prices f P n ws k
@[simp ↓] theorem wp_rrng (a b : Ex) {σ : En} {S : Sto} {P : List D → Sto → Prop} {E : Str → Sto → Prop} : (rrngI a b σ S).wp P E = (a σ S).wp (fun x S1 => (b σ S1).wp (fun y S2 => ∃ i j, x = .py (.int i) ∧ y = .py (.int j) ∧ (-(2 ^ 62) ≤ i ∧ j - i ≤ 16777216 ∧ i < 2 ^ 62 ∧ -(2 ^ 62) ≤ j ∧ j < 2 ^ 62) ∧ P (rngV i (j - i).toNat).reverse S2) E) E := by
  unfold rrngI
  rw [wp_bind]
  congr 1
  funext x S1
  rw [wp_bind]
  congr 1
  funext y S2
  split
  · rw [wp_iteR]
    split
    · rename_i h
      exact propext ⟨fun p => ⟨_, _, rfl, rfl, h, p⟩, fun ⟨i, j, e1, e2, _, p⟩ => by cases e1; cases e2; exact p⟩
    · rename_i h
      exact propext ⟨fun p => p.elim, fun ⟨i, j, e1, e2, h', p⟩ => by cases e1; cases e2; exact h h'⟩
  · rename_i hn
    exact propext ⟨fun h => h.elim, fun ⟨i, j, e1, e2, _, _⟩ => (hn i j e1 e2).elim⟩
@[simp ↓] theorem wp_rng2 (a b : Ex) {σ : En} {S : Sto} {P : List D → Sto → Prop} {E : Str → Sto → Prop} : (rng2I a b σ S).wp P E = (a σ S).wp (fun x S1 => (b σ S1).wp (fun y S2 => ∃ i j, x = .py (.int i) ∧ y = .py (.int j) ∧ (-(2 ^ 62) ≤ i ∧ j - i ≤ 16777216 ∧ i < 2 ^ 62 ∧ -(2 ^ 62) ≤ j ∧ j < 2 ^ 62) ∧ P (rngV i (j - i).toNat) S2) E) E := by
  unfold rng2I
  rw [wp_bind]
  congr 1
  funext x S1
  rw [wp_bind]
  congr 1
  funext y S2
  split
  · rw [wp_iteR]
    split
    · rename_i h
      exact propext ⟨fun p => ⟨_, _, rfl, rfl, h, p⟩, fun ⟨i, j, e1, e2, _, p⟩ => by cases e1; cases e2; exact p⟩
    · rename_i h
      exact propext ⟨fun p => p.elim, fun ⟨i, j, e1, e2, h', p⟩ => by cases e1; cases e2; exact h h'⟩
  · rename_i hn
    exact propext ⟨fun h => h.elim, fun ⟨i, j, e1, e2, _, _⟩ => (hn i j e1 e2).elim⟩
end DV

set_option maxHeartbeats 4000000
namespace DV
open PySem
end DV

set_option maxHeartbeats 4000000
namespace DV
open PySem
/-- one more than the greatest -/
def top : List Nat → Nat
  | [] => 0
  | x :: r => max (x + 1) (top r)
theorem top_snoc (r : List Nat) (i : Nat) : top (r ++ [i]) = max (top r) (i + 1) := by
  induction r with
  | nil => simp [top]
  | cons x r ih =>
    rw [List.cons_append]
    show max (x + 1) (top (r ++ [i])) = max (max (x + 1) (top r)) (i + 1)
    rw [ih]
    omega
def longer (most : Nat) (r : List Nat) : List (List Nat) := (List.range (min (top r + 1) most)).map fun i => r ++ [i]
def parts (most : Nat) : Nat → List (List Nat)
  | 0 => [[]]
  | n + 1 => (parts most n).flatMap (longer most)
def iN (r : List Nat) : List Int := r.map fun (i : Nat) => (i : Int)
def gsOf (L : List Nat) (r : List Nat) : List (List Nat) := groups L (sing (iN r))
end DV

set_option maxHeartbeats 4000000
namespace DV
open PySem
/-! Tables with single exceptions. -/
end DV

set_option maxHeartbeats 4000000
namespace DV
open PySem
/-! with_singles: the exceptions in order. -/
def leP (L : List Nat) (p q : Pair) : Prop := (plc L p.1 : Int) < plc L q.1 ∨ ((plc L p.1 : Int) = plc L q.1 ∧ (plc L p.2.1 : Int) ≤ plc L q.2.1)
instance (L : List Nat) (p q : Pair) : Decidable (leP L p q) := by unfold leP; infer_instance
theorem plc_inj {L : List Nat} {a b : Nat} (ha : a ∈ L) (hb : b ∈ L) (h : plc L a = plc L b) : a = b := by
  have h1 := List.getElem_idxOf (List.idxOf_lt_length_iff.mpr ha)
  have h2 := List.getElem_idxOf (List.idxOf_lt_length_iff.mpr hb)
  rw [← h1, ← h2]
  congr 1
theorem keyRun_map {P : Nat} {q : Str} {kf : D → Sto → R D} {α : Type} (u : α → D) (kk : α → PyData) {S : Sto} (ht : tabIn P q S) : ∀ {xs : List α}, (∀ x ∈ xs, kf (u x) S = .ok (.py (kk x)) S) → keyRun P q kf (xs.map u) S = some (xs.map kk, S)
  | [], _ => rfl
  | x :: xs, h => by
    rw [List.map_cons]
    unfold keyRun
    rw [if_pos ht, h x (by simp)]
    simp only
    rw [keyRun_map u kk ht fun y hy => h y (List.mem_cons_of_mem _ hy)]
    rfl
open Classical in
theorem sortK_ok {P : Nat} {q : Str} {a kf : Ex} {σ : En} {S : Sto} {d : D} {α : Type} (u : α → D) (kk : α → PyData) {xs : List α} (ha : a σ S = .ok d S) (hs : seqOf S d = some (xs.map u)) (hl : lstD d = true) (h4 : xs.length ≤ 4000) (ht : tabIn P q S) (hk : ∀ x ∈ xs, kf (σ ++ [some (u x)]) S = .ok (.py (kk x)) S) (ho : keysOk (xs.map kk)) :
    sortKL P q a kf σ S = .ok (byKeys (xs.map kk) (xs.map u)) S := by
  unfold sortKL
  rw [ha]
  show (match seqOf S d with | some ds => _ | none => _) = _
  rw [hs]
  simp only
  rw [if_pos ⟨hl, by simpa using h4, ht⟩, keyRun_map (kf := fun d S => kf (σ ++ [some d]) S) u kk ht hk]
  simp only
  rw [if_pos ho]
end DV

set_option maxHeartbeats 4000000
namespace DV
open PySem
/-! singles_in, single_table, with_singles. -/
theorem zip_same {α β γ : Type} (u : α → β) (v : α → γ) : ∀ l : List α, (l.map u).zip (l.map v) = l.map fun x => (u x, v x)
  | [] => rfl
  | x :: l => by simp [zip_same u v l]
section
variable {P : List Pair} {g h : List Nat} {gp : Int} {A : List Pair} {s0 s2 s3 s4 s6 s7 s8 s9 s10 s11 s12 s13 : Option D} {S : Sto} {N : K}
end
section
variable {P : List Pair} {g : List Nat} {H : List (List Nat)} {A : List Pair} {s0 s2 s4 s6 s8 s9 s10 s11 s12 s13 : Option D} {S : Sto} {N : K}
end
end DV

set_option maxHeartbeats 4000000
namespace DV
open PySem
/-! Tables with single exceptions: what they tell, and how many there are. -/
/-! ### how many -/
end DV

set_option maxHeartbeats 4000000
namespace DV
open PySem
/-! The partings that need the fewest single exceptions. -/
theorem need_most {vs : List Int} (h : vs ≠ []) : needV vs = (vs.length : Int) - (vs.count (mostV vs) : Nat) := by
  have hm := mostV_is h
  have e3 : maxI (vs.map fun v => ((vs.count v : Nat) : Int)) = (vs.count (mostV vs) : Nat) := by
    refine (maxI_eq (by simpa using List.length_pos_iff.mpr h) (List.mem_map.mpr ⟨_, hm.mem, rfl⟩) fun x hx => ?_).symm
    obtain ⟨v, hv, rfl⟩ := List.mem_map.mp hx
    have := hm.best v hv
    unfold cntZ at this
    omega
  unfold needV
  rw [e3]
abbrev encB (m : Int) (G H : List (List Nat)) : PyData := .tuple [.int m, encG G, encG H]
abbrev PT := List (List Nat) × List (List Nat)
/-- what stands as the best of those tried -/
def BestOf (P : List Pair) (tried : List PT) (d : PyData) : Prop :=
  (d = .none ∧ tried = []) ∨ ∃ p ∈ tried, d = encB (needS P p.1 p.2) p.1 p.2 ∧ ∀ q ∈ tried, needS P p.1 p.2 ≤ needS P q.1 q.2
theorem BestOf.new {P : List Pair} {tried : List PT} {d : PyData} (h : BestOf P tried d) (q : PT) : (d = .none ∨ ∃ m G H, d = encB m G H ∧ needS P q.1 q.2 < m) → BestOf P (tried ++ [q]) (encB (needS P q.1 q.2) q.1 q.2) := by
  intro hc
  refine .inr ⟨q, by simp, rfl, fun r hr => ?_⟩
  rcases List.mem_append.mp hr with hr | hr
  · rcases h with ⟨rfl, rfl⟩ | ⟨p, hp, rfl, hl⟩
    · cases hr
    · rcases hc with hc | ⟨m, G, H, e, hlt⟩
      · cases hc
      · have : needS P p.1 p.2 = m := by
          injection e with e
          injection e with e1 e
          injection e1
        have := hl r hr
        omega
  · rw [List.mem_singleton.mp hr]
    exact Int.le_refl _
theorem BestOf.old {P : List Pair} {tried : List PT} {p q : PT} (h : BestOf P tried (encB (needS P p.1 p.2) p.1 p.2)) (hle : needS P p.1 p.2 ≤ needS P q.1 q.2) : BestOf P (tried ++ [q]) (encB (needS P p.1 p.2) p.1 p.2) := by
  rcases h with ⟨h, _⟩ | ⟨r, hr, e, hl⟩
  · cases h
  · have e' : needS P p.1 p.2 = needS P r.1 r.2 := by
      injection e with e
      injection e with e1 e
      injection e1
    refine .inr ⟨r, by simp [hr], e, fun x hx => ?_⟩
    rcases List.mem_append.mp hx with hx | hx
    · exact hl x hx
    · rw [List.mem_singleton.mp hx]
      omega
/-- the partings of so many letters -/
abbrev Gs (L : List Nat) (most : Nat) : List (List (List Nat)) := (parts most L.length).map (gsOf L)
/-- the least number of single exceptions -/
structure IsLeast (P : List Pair) (A B : List (List (List Nat))) (m : Int) : Prop where
  has : ∃ G ∈ A, ∃ H ∈ B, needS P G H = m
  least : ∀ G ∈ A, ∀ H ∈ B, m ≤ needS P G H
section
variable {f : Face} {P : List Pair} {a b : Nat} {m : Int}
end
end DV

set_option maxHeartbeats 4000000
namespace DV
open PySem
/-! Papers of left classes. -/
/-! ### all two of some letters -/
@[simp ↓] theorem wp_sliceA (a : Ex) (lo hi : Px) {σ : En} {S : Sto} {P : D → Sto → Prop} {E : Str → Sto → Prop} : (sliceA a lo hi σ S).wp P E = (a σ S).wp (fun x S1 => (lo σ S1).wp (fun l S2 => (hi σ S2).wp (fun h S3 => (sliceAV x l h S3).wp P E) E) E) E := by
  unfold sliceA
  rw [wp_bind]
  congr 1
  funext x S1
  rw [wp_bind]
  congr 1
  funext l S2
  rw [wp_bind]
def heads (G : List (List Nat)) : List Nat := G.map fun g => g.headD 0
end DV

set_option maxHeartbeats 4000000
namespace DV
open PySem
/-! A gap turned, a letter left out: what the program answers of any things. -/
theorem Cut.low {S S' : Sto} (hl : S.length ≤ S'.length) (h : ∀ j, j < S.length → S'[j]? = S[j]?) : Cut S S' S :=
  ⟨hl, by
    apply List.ext_getElem?
    intro i
    by_cases hi : i < S.length
    · rw [List.getElem?_take_of_lt hi, h i hi]
    · rw [List.getElem?_eq_none (by omega), List.getElem?_eq_none (by simp; omega)], fun i o hi e => .inl ((h i hi).symm.trans e)⟩
@[simp ↓] theorem wp_methT (g : D → List D → Sto → R D) (o : Ex) (a : Ax) {σ : En} {S : Sto} {P : D → Sto → Prop} {E : Str → Sto → Prop} : (methT g o a σ S).wp P E = (o σ S).wp (fun x S1 => ∃ ts, x = .py (.tuple ts) ∧ (a σ S1).wp (fun ds S2 => (g x ds S2).wp P E) E) E := by
  unfold methT
  rw [wp_bind]
  congr 1
  funext x S1
  rcases x with d | n | n
  · cases d
    case tuple ts =>
      simp only [wp_bind]
      exact propext ⟨fun h => ⟨ts, rfl, h⟩, fun ⟨_, _, h⟩ => h⟩
    all_goals exact propext ⟨fun h => h.elim, fun ⟨_, e, _⟩ => by cases e⟩
  · exact propext ⟨fun h => h.elim, fun ⟨_, e, _⟩ => by cases e⟩
  · exact propext ⟨fun h => h.elim, fun ⟨_, e, _⟩ => by cases e⟩
theorem ne_lt (a c : Nat) (T : Sto) : neD (.py (lt a)) (.py (lt c)) T = .ok (.py (.bool (decide (a ≠ c)))) T := by
  rw [neD_of (eq_all T)]
  by_cases h : a = c
  · subst h
    simp [isOne]
  · have : isOne (lt c) a = false := by simp [isOne, h]
    simp [this, h]
end DV

set_option maxHeartbeats 4000000
namespace DV
open PySem
/-! Exceptions of three kinds: blocks of two classes, sets of rows, columns. -/
/-- the gaps of two classes -/
def blkM (P : List Pair) (g h : List Nat) : List (List Int) := g.map fun a => h.map fun b => gapIn P a b
abbrev encB2 (B : List (List Int)) : PyData := .list (B.map lstI)
theorem block_of_eq (P : List Pair) (g h : List Nat) (S : Sto) : F_block_of [.py (encP P), .py (.tuple (g.map lt)), .py (.tuple (h.map lt))] S = .ok (.py (encB2 (blkM P g h))) S := by
  have gi := fun l r T => gap_in_eq P l r T
  unfold F_block_of b_block_of
  refine fn_eq (wp_fn ?_)
  simp [init]
  refine wp_pureM1 (D.py ∘ lt) (fun a => D.py (lstI (h.map fun b => gapIn P a b))) (fun a ha => wp_eq ?_) ?_
  · simp
    refine wp_pureM1 (D.py ∘ lt) (fun b => D.py (.int (gapIn P a b))) (fun b hb => wp_eq (by simp [gi])) ?_
    have e2 : (h.map fun b => D.py (.int (gapIn P a b))) = ((h.map fun b => gapIn P a b).map PyData.int).map D.py := by rw [List.map_map, List.map_map]; rfl
    rw [e2, pysOf_map]
    simp
  · have e2 : (g.map fun a => D.py (lstI (h.map fun b => gapIn P a b))) = ((blkM P g h).map lstI).map D.py := by unfold blkM; rw [List.map_map, List.map_map]; rfl
    rw [e2, pysOf_map]
    simp
    exact ⟨.self, rfl⟩
/-- all rows of so many truths, in order -/
def bools : Nat → List (List Bool)
  | 0 => [[]]
  | n + 1 => ((bools n).map fun r => r ++ [false]) ++ (bools n).map fun r => r ++ [true]
abbrev rowB (r : List Bool) : PyData := .tuple (r.map .bool)
theorem bools_len : ∀ n, (bools n).length = 2 ^ n
  | 0 => rfl
  | n + 1 => by
    rw [bools, List.length_append, List.length_map, List.length_map, bools_len n, Nat.pow_succ]
    omega
theorem bools_row : ∀ n, ∀ r ∈ bools n, r.length = n
  | 0, r, h => by
    rw [bools, List.mem_singleton] at h
    rw [h]
    rfl
  | n + 1, r, h => by
    rw [bools, List.mem_append] at h
    rcases h with h | h <;>
    · obtain ⟨s, hs, rfl⟩ := List.mem_map.mp h
      simp [bools_row n s hs]
theorem sets_of_eq {n : Nat} (hn : n ≤ 12) (S : Sto) : F_sets_of [.py (.int (n : Nat))] S = .ok (.py (.list ((bools n).map rowB))) S := by
  have one : ∀ (r : List Bool) (b : Bool) T, r.length ≤ 12 → addD (.py (rowB r)) (.py (.tuple [.bool b])) T = .ok (.py (rowB (r ++ [b]))) T := fun r b T h => by
    rw [show rowB r = .tuple (r.map .bool) from rfl]
    unfold addD
    simp only
    rw [if_pos (by rw [List.length_map, sl_big']; simp; omega)]
    simp
  unfold F_sets_of b_sets_of
  refine fn_eq (wp_fn ?_)
  simp [init, pysOf, -wp_forL_cons]
  refine ⟨by omega, ?_⟩
  refine wp_forL (fun pre σ T => wipeD σ [1, 2] = [some (.py (.int (n : Nat))), none, none, none] ∧ σ[1]? = some (some (.py (.list ((bools pre.length).map rowB)))) ∧ T = S) ⟨rfl, rfl, rfl⟩ ?_ ?_
  · rintro pre k post σ T e ⟨hσ, h1, rfl⟩
    obtain ⟨v1, v2, rfl⟩ := slot2 hσ
    clear hσ
    simp at h1
    subst h1
    have hp : pre.length < n := by
      have := congrArg List.length e
      simp [rngV] at this
      omega
    have hrow := bools_row pre.length
    have hl := bools_len pre.length
    have h2 : (bools pre.length).length ≤ 4096 := by
      rw [hl]
      exact Nat.le_trans (Nat.pow_le_pow_right (by decide) (by omega)) (by decide : 2 ^ 12 ≤ 4096)
    have add : ∀ T', addD (.py (.list (((bools pre.length).map fun r => r ++ [false]).map rowB))) (.py (.list (((bools pre.length).map fun r => r ++ [true]).map rowB))) T' = .ok (.py (.list ((bools (pre.length + 1)).map rowB))) T' := fun T' => by
      unfold addD
      simp only
      rw [if_pos (by rw [List.length_map, List.length_map, List.length_map, List.length_map, sl_big']; omega), bools, List.map_append]
    have row : ∀ (b : Bool), ((bools pre.length).map fun r => D.py (rowB (r ++ [b]))) = (((bools pre.length).map fun r => r ++ [b]).map rowB).map D.py := fun b => by rw [List.map_map, List.map_map]; rfl
    simp
    refine wp_pureM1 (D.py ∘ rowB) (fun r => D.py (rowB (r ++ [false]))) (fun r hr => ?_) ?_
    · have := hrow r hr
      exact wp_eq (by simp [pysOf, -List.map_append, one r false _ (by omega)])
    rw [row, pysOf_map]
    simp only []
    refine wp_pureM1 (D.py ∘ rowB) (fun r => D.py (rowB (r ++ [true]))) (fun r hr => ?_) ?_
    · have := hrow r hr
      exact wp_eq (by simp [pysOf, -List.map_append, one r true _ (by omega)])
    rw [row, pysOf_map]
    simp only [add, wp_ok]
    exact ⟨trivial, trivial⟩
  · rintro σ T ⟨hσ, h1, rfl⟩
    obtain ⟨v1, v2, rfl⟩ := slot2 hσ
    simp [rngV] at h1
    subst h1
    simp
    exact ⟨.self, rfl⟩
/-- a column: what it costs, what is told for it -/
def colC (vs : List Int) (g : Int) : Int × Option Int :=
  if vs = [] then (0, none) else if 1 + needV vs < (vs.length : Int) - (vs.count g : Nat) then (1 + needV vs, some (mostV vs)) else ((vs.length : Int) - (vs.count g : Nat), none)
def optI : Option Int → PyData
  | none => .none
  | some i => .int i
theorem column_of_eq {vs : List Int} {g : Int} (hb : ∀ x ∈ vs, -999999999 ≤ x ∧ x ≤ 999999999) (hl : vs.length ≤ 2000) (hg : -999999999 ≤ g ∧ g ≤ 999999999) (S : Sto) : F_column_of [.py (lstI vs), .py (.int g)] S = .ok (.py (.tuple [.int (colC vs g).1, optI (colC vs g).2])) S := by
  have ln : ∀ T, lenD [.py (lstI vs)] T = .ok (.py (.int (vs.length : Nat))) T := fun T => by simp [lenD, seqOf]
  have cnt : ∀ v, (-999999999 ≤ v ∧ v ≤ 999999999) → ∀ T, countD (.py (lstI vs)) [.py (.int v)] T = .ok (.py (.int (vs.count v : Nat))) T := fun v hv T => count_ok hb hl hv T
  have ad : ∀ (a b : Int) T, addD (.py (.int a)) (.py (.int b)) T = .ok (.py (.int (a + b))) T := fun a b T => rfl
  have su : ∀ (a b : Int) T, subD (.py (.int a)) (.py (.int b)) T = .ok (.py (.int (a - b))) T := fun a b T => rfl
  have lt' : ∀ (a b : Int) T, ltD (.py (.int a)) (.py (.int b)) T = .ok (.py (.bool (decide (a < b)))) T := fun a b T => rfl
  have en : ∀ T, eqD (.py (lstI vs)) (.py (.list [])) T = .ok (.py (.bool (decide (vs = [])))) T := fun T => by
    unfold eqD
    simp only [eqB_nil]
    congr 3
    cases vs <;> simp
  unfold F_column_of b_column_of colC
  by_cases h0 : vs = []
  · subst h0
    refine fn_eq (wp_fn ?_)
    simp [init, ln, cnt _ hg, su, en, pysOf]
    exact ⟨S, .self, rfl, rfl, rfl⟩
  · have mo := fun T => most_in_eq h0 hb hl T
    have mm : mostV vs ∈ vs := (mostV_is h0).mem
    have nm := need_most h0
    have cm := cnt _ (hb _ mm)
    simp only [if_neg h0]
    by_cases h1 : 1 + needV vs < (vs.length : Int) - (vs.count g : Nat)
    · have h1' : 1 + (vs.length : Int) - (vs.count (mostV vs) : Nat) < (vs.length : Int) - (vs.count g : Nat) := by omega
      have e1 : 1 + (vs.length : Int) - (vs.count (mostV vs) : Nat) = 1 + needV vs := by omega
      simp only [if_pos h1]
      refine fn_eq (wp_fn ?_)
      simp [init, ln, cnt _ hg, su, en, h0, mo, cm, ad, lt', h1', pysOf]
      rw [e1]
      exact ⟨S, .self, rfl, ⟨rfl, rfl⟩, rfl⟩
    · have h1' : ¬ 1 + (vs.length : Int) - (vs.count (mostV vs) : Nat) < (vs.length : Int) - (vs.count g : Nat) := by omega
      simp only [if_neg h1]
      refine fn_eq (wp_fn ?_)
      simp [init, ln, cnt _ hg, su, en, h0, mo, cm, ad, lt', h1', pysOf]
      exact ⟨S, .self, rfl, rfl, rfl⟩
/-! ### two classes settled: Z = the rows, each with whether it has a gap of its own -/
abbrev Zb := List (List Int × Bool)
def rgZ (z : List Int × Bool) : Option Int := if z.2 then some (mostV z.1) else none
def ownZ (Z : Zb) : Int := (Z.map fun z => if z.2 then 1 + needV z.1 else 0).sum
def colZ (Z : Zb) (k : Nat) : List Int := (Z.filter fun z => !z.2).map fun z => z.1.getD k 0
def totZ (Z : Zb) (c : Nat) (g : Int) : Int := ownZ Z + ((List.range c).map fun k => (colC (colZ Z k) g).1).sum
def setZ (Z : Zb) (c : Nat) (g : Int) : PyData := .tuple [.int (totZ Z c g), .int g, .list (Z.map fun z => optI (rgZ z)), .list ((List.range c).map fun k => optI (colC (colZ Z k) g).2)]
structure OkZ (Z : Zb) (c : Nat) : Prop where
  few : Z.length ≤ 12
  pos : 0 < Z.length
  row : ∀ z ∈ Z, z.1.length = c
  bnd : ∀ z ∈ Z, ∀ x ∈ z.1, -999999999 ≤ x ∧ x ≤ 999999999
theorem settled_eq {Z : Zb} {c : Nat} {g : Int} (h : OkZ Z c) (hc : 0 < c ∧ c ≤ 100) (hg : -999999999 ≤ g ∧ g ≤ 999999999) (S : Sto) :
    F_settled [.py (encB2 (Z.map (·.1))), .py (.int g), .py (rowB (Z.map (·.2)))] S = .ok (.py (setZ Z c g)) S := by
  have ad : ∀ (a b : Int) T, addD (.py (.int a)) (.py (.int b)) T = .ok (.py (.int (a + b))) T := fun a b T => rfl
  have su : ∀ (a b : Int) T, subD (.py (.int a)) (.py (.int b)) T = .ok (.py (.int (a - b))) T := fun a b T => rfl
  have few := h.few
  have ne : ∀ z ∈ Z, z.1 ≠ [] := fun z hz e => by
    have := h.row z hz
    rw [e] at this
    simp at this
    omega
  have mo : ∀ z ∈ Z, ∀ T, F_most_in [.py (lstI z.1)] T = .ok (.py (.int (mostV z.1))) T := fun z hz T => most_in_eq (ne z hz) (h.bnd z hz) (by have := h.row z hz; omega) T
  have zz : (Z.map fun x => x.1).zip (Z.map fun x => x.2) = Z := by
    rw [List.zip_map']
    simp
  have z2 : ((Z.map fun x => x.1).map lstI).zip (Z.map fun z => optI (rgZ z)) = Z.map fun z => (lstI z.1, optI (rgZ z)) := by
    rw [List.map_map, List.zip_map']
    rfl
  have i0 : ∃ z0 Z', Z = z0 :: Z' := List.exists_cons_of_length_pos h.pos
  obtain ⟨z0, Z', eZ⟩ := i0
  have h0 := h.row z0 (by rw [eZ]; simp)
  have it0 : ∀ T, itemD (.py (encB2 (Z.map (·.1)))) (.py (.int 0)) T = .ok (.py (lstI z0.1)) T := fun T => by
    rw [eZ]
    exact itemD_listI (by decide) rfl
  have ln0 : ∀ T, lenD [.py (lstI z0.1)] T = .ok (.py (.int (c : Nat))) T := fun T => by simp [lenD, seqOf, h0]
  unfold F_settled b_settled
  refine fn_eq (wp_fn ?_)
  simp [init, -wp_forL_cons, -List.map_map]
  rw [zz]
  refine wp_pureM (fun p : List Int × Bool => D.py (PyData.tuple [lstI p.fst, PyData.bool p.snd])) (fun _ => true) (fun z => D.py (optI (rgZ z))) (fun z hz => ?_) ?_
  · have m := mo z hz
    obtain ⟨r, b⟩ := z
    cases b with
    | false => simp [rgZ, optI]
    | true => simp [rgZ, optI, m]
  rw [List.filter_eq_self.mpr fun _ _ => rfl]
  have e1 : (Z.map fun z => D.py (optI (rgZ z))) = (Z.map fun z => optI (rgZ z)).map D.py := by rw [List.map_map]; rfl
  rw [e1, pysOf_map]
  simp only []
  rw [z2, List.map_map]
  refine wp_forM ((fun p : PyData × PyData => D.py (PyData.tuple [p.fst, p.snd])) ∘ fun z : List Int × Bool => (lstI z.1, optI (rgZ z))) (fun pre σ T => wipeD σ [4, 5, 6] = [some (.py (encB2 (Z.map (·.1)))), some (.py (.int g)), some (.py (rowB (Z.map (·.2)))), some (.py (.list (Z.map fun z => optI (rgZ z)))), none, none, none, none, none, none, none] ∧ σ[4]? = some (some (.py (.int (ownZ pre)))) ∧ T = S) ⟨rfl, rfl, rfl⟩ ?_ ?_
  · rintro pre z post σ T e ⟨hσ, h1, rfl⟩
    obtain ⟨v4, v5, v6, rfl⟩ := slot3 hσ
    clear hσ
    simp at h1
    subst h1
    have hz : z ∈ Z := by rw [e]; simp
    have nm := need_most (ne z hz)
    have cn : ∀ T, countD (.py (lstI z.1)) [.py (.int (mostV z.1))] T = .ok (.py (.int (z.1.count (mostV z.1) : Nat))) T := fun T => count_ok (h.bnd z hz) (by have := h.row z hz; omega) (h.bnd z hz _ (mostV_is (ne z hz)).mem) T
    have ln : ∀ T, lenD [.py (lstI z.1)] T = .ok (.py (.int (z.1.length : Nat))) T := fun T => by simp [lenD, seqOf]
    have os : ∀ z, ownZ (pre ++ [z]) = ownZ pre + if z.2 then 1 + needV z.1 else 0 := fun z => by simp [ownZ]
    have nn : ∀ T, notND (.py .none) (.py .none) T = .ok (.py (.bool false)) T := fun T => rfl
    have ni : ∀ i T, notND (.py (.int i)) (.py .none) T = .ok (.py (.bool true)) T := fun i T => rfl
    have o1 := os z
    obtain ⟨r, b⟩ := z
    cases b with
    | false =>
      simp at o1
      simp [rgZ, optI, nn, o1]
    | true =>
      simp at o1 nm cn ln
      simp [rgZ, optI, ni, ad, su, ln, cn, o1]
      omega
  rintro σ T ⟨hσ, h1, rfl⟩
  obtain ⟨v4, v5, v6, rfl⟩ := slot3 hσ
  clear hσ
  simp at h1
  subst h1
  simp [it0, ln0, -wp_forL_cons]
  refine ⟨by omega, ?_⟩
  rw [stL_nil]
  have tot : ∀ m, (((List.range (m + 1)).map fun k => (colC (colZ Z k) g).1).sum) = ((List.range m).map fun k => (colC (colZ Z k) g).1).sum + (colC (colZ Z m) g).1 := fun m => by
    rw [List.range_succ, List.map_append, List.sum_append]
    simp
  refine wp_forL (fun pre σ T' => wipeD σ [4, 6, 8, 9] = [some (.py (encB2 (Z.map (·.1)))), some (.py (.int g)), some (.py (rowB (Z.map (·.2)))), some (.py (.list (Z.map fun z => optI (rgZ z)))), none, v5, none, some (.obj T.length), none, none, none] ∧ σ[4]? = some (some (.py (.int (ownZ Z + ((List.range pre.length).map fun k => (colC (colZ Z k) g).1).sum)))) ∧ T' = stL T ((List.range pre.length).map fun k => optI (colC (colZ Z k) g).2)) ⟨rfl, by simp, rfl⟩ ?_ ?_
  · rintro pre x post σ T' e ⟨hσ, h1, rfl⟩
    obtain ⟨v4, v6', v8, v9, rfl⟩ := slot4 hσ
    clear hσ
    simp at h1
    subst h1
    obtain ⟨hm, rfl⟩ : pre.length < c ∧ x = .py (.int (pre.length : Nat)) := by
      have hl := congrArg List.length e
      have hx := congrArg (fun l => l[pre.length]?) e
      simp [rngV] at hl hx
      have hlt : pre.length < c := by omega
      rw [List.getElem?_range hlt] at hx
      simp at hx
      exact ⟨hlt, hx.symm⟩
    obtain ⟨m, hpm⟩ : ∃ m, m = pre.length := ⟨_, rfl⟩
    rw [← hpm] at hm
    simp only [← hpm]
    simp [-List.map_map]
    rw [zz]
    refine wp_pureM (fun p : List Int × Bool => D.py (PyData.tuple [lstI p.fst, PyData.bool p.snd])) (fun z => !z.2) (fun z => D.py (.int (z.1.getD m 0))) (fun z hz => ?_) ?_
    · have hr := h.row z hz
      have hk : m < z.1.length := by omega
      have it : ∀ T, itemD (.py (lstI z.1)) (.py (.int (m : Nat))) T = .ok (.py (.int (z.1.getD m 0))) T := fun T => itemD_list m (by simp [hk])
      simp only [List.getD_eq_getElem?_getD] at it
      obtain ⟨r, b⟩ := z
      cases b <;> simp [it]
    have e2 : ((Z.filter fun z => !z.2).map fun z => D.py (.int (z.1.getD m 0))) = ((colZ Z m).map PyData.int).map D.py := by unfold colZ; rw [List.map_map, List.map_map]; rfl
    rw [e2, pysOf_map]
    have cb : ∀ x ∈ colZ Z m, -999999999 ≤ x ∧ x ≤ 999999999 := fun x hx => by
      obtain ⟨z, hz, rfl⟩ := List.mem_map.mp hx
      have hz' := (List.mem_filter.mp hz).1
      have hk : m < z.1.length := by have := h.row z hz'; omega
      rw [List.getD_eq_getElem?_getD, List.getElem?_eq_getElem hk]
      exact h.bnd z hz' _ (List.getElem_mem hk)
    have cl : (colZ Z m).length ≤ 2000 := by
      unfold colZ
      rw [List.length_map]
      exact Nat.le_trans (List.length_filter_le _ _) (by omega)
    have co := fun T => column_of_eq cb cl hg T
    have ap := stL_app (S := T) (ds := (List.range m).map fun k => optI (colC (colZ Z k) g).2) (d := optI (colC (colZ Z m) g).2) (by rw [show sizeLine = 16777216 from rfl]; simp; omega)
    have er : ((List.range m).map fun k => optI (colC (colZ Z k) g).2) ++ [optI (colC (colZ Z m) g).2] = (List.range (m + 1)).map fun k => optI (colC (colZ Z k) g).2 := by
      rw [List.range_succ, List.map_append]
      rfl
    rw [er] at ap
    simp only []
    simp [co, ad, ap, tot, ← hpm]
    omega
  · rintro σ T' ⟨hσ, h1, rfl⟩
    obtain ⟨v4, v6', v8, v9, rfl⟩ := slot4 hσ
    clear hσ
    have hl : (rngV 0 c).length = c := by simp [rngV]
    rw [hl] at h1 ⊢
    simp at h1
    subst h1
    refine fix_own (m := T.length) (ds := (List.range c).map fun k => optI (colC (colZ Z k) g).2) rfl stL_get ?_
    simp [pysOf]
    refine ⟨T, Cut.low (by simp) fun k hk => ?_, rfl, rfl, rfl⟩
    rw [List.getElem?_set_ne (by omega)]
    unfold stL
    rw [List.getElem?_append_left hk]
/-! ### the best of all -/
theorem wp_sortSetL (f : Ex) {σ : En} {S : Sto} {P : List D → Sto → Prop} {E : Str → Sto → Prop} {ns : List Int} (h : (f σ S).wp (fun d S1 => d = .py (lstI ns) ∧ P ((riseI ns).map fun i => D.py (.int i)) S1) E) (hl : ns.length < 64) : (sortSetL f σ S).wp P E := by
  unfold sortSetL
  rw [wp_bind]
  refine h.mono ?_ fun _ _ h => h
  rintro _ S1 ⟨rfl, hp⟩
  simp only [intsOf_map]
  rw [if_pos hl]
  exact hp
def stepZ (c : Nat) (acc : Option (Zb × Int)) (q : Zb × Int) : Option (Zb × Int) := match acc with
  | none => some q
  | some p => if totZ q.1 c q.2 < totZ p.1 c p.2 then some q else some p
def bestZ (c : Nat) (l : List (Zb × Int)) : Option (Zb × Int) := l.foldl (stepZ c) none
def encZ (c : Nat) : Option (Zb × Int) → PyData
  | none => .none
  | some p => setZ p.1 c p.2
def candZ (B : List (List Int)) (vs : List Int) (r : List Bool) : List (Zb × Int) := vs.map fun g => (B.zip r, g)
def allZ (B : List (List Int)) : List (Zb × Int) := (bools B.length).flatMap (candZ B (riseI B.flatten))
structure OkB (B : List (List Int)) (c : Nat) : Prop where
  few : B.length ≤ 12
  pos : 0 < B.length
  row : ∀ r ∈ B, r.length = c
  bnd : ∀ r ∈ B, ∀ x ∈ r, -999999999 ≤ x ∧ x ≤ 999999999
  flat : B.flatten.length < 64
theorem OkB.z {B : List (List Int)} {c : Nat} (h : OkB B c) {r : List Bool} (hr : r.length = B.length) : OkZ (B.zip r) c ∧ (B.zip r).map (·.1) = B ∧ (B.zip r).map (·.2) = r := by
  refine ⟨⟨by rw [List.length_zip]; have := h.few; omega, by rw [List.length_zip]; have := h.pos; omega, fun z hz => h.row _ (List.of_mem_zip hz).1, fun z hz => h.bnd _ (List.of_mem_zip hz).1⟩, ?_, ?_⟩
  · exact List.map_fst_zip (by omega)
  · exact List.map_snd_zip (by omega)
theorem best_block_eq {B : List (List Int)} {c : Nat} (h : OkB B c) (hc : 0 < c ∧ c ≤ 100) (S : Sto) : F_best_block [.py (encB2 B)] S = .ok (.py (encZ c (bestZ c (allZ B)))) S := by
  have lt' : ∀ (a b : Int) T, ltD (.py (.int a)) (.py (.int b)) T = .ok (.py (.bool (decide (a < b)))) T := fun a b T => rfl
  have i0 : ∀ p : Zb × Int, ∀ T, itemD (.py (setZ p.1 c p.2)) (.py (.int 0)) T = .ok (.py (.int (totZ p.1 c p.2))) T := fun p T => itemD_tupleI (by decide) rfl
  have ln : ∀ T, lenD [.py (encB2 B)] T = .ok (.py (.int (B.length : Nat))) T := fun T => by simp [lenD, seqOf]
  have so := fun T => sets_of_eq h.few T
  have gb : ∀ g ∈ riseI B.flatten, -999999999 ≤ g ∧ g ≤ 999999999 := fun g hg => by
    obtain ⟨r, hr, hg⟩ := List.mem_flatten.mp (mem_riseI.mp hg)
    exact h.bnd r hr g hg
  unfold F_best_block b_best_block
  refine fn_eq (wp_fn ?_)
  simp [init, -wp_forL_cons, -List.map_map]
  refine wp_sortSetL (ns := B.flatten) _ ?_ h.flat
  have fl : (B.map fun r => r.map PyData.int).flatten = B.flatten.map PyData.int := by rw [List.map_flatten]
  have sm : ∀ T, frzE (sumL (varE 0)) [some (.py (encB2 B)), none, none, none, none, none] T = .ok (.py (lstI B.flatten)) T := fun T => by
    have e : sumL (varE 0) [some (.py (encB2 B)), none, none, none, none, none] T = .ok ((B.flatten.map PyData.int).map D.py) T := by
      unfold sumL varE
      simp only [List.getElem?_cons_zero, bind_ok, listsOf_map]
      rw [if_pos (by rw [fl, List.length_map, show sizeLine = 16777216 from rfl]; have := h.flat; omega), fl]
    refine wp_eq ?_
    rw [wp_frz, e]
    simp only [wp_ok, pysOf_map]
    exact ⟨trivial, trivial⟩
  rw [sm]
  simp only [wp_ok]
  have e1 : ((riseI B.flatten).map fun i => D.py (PyData.int i)) = ((riseI B.flatten).map PyData.int).map D.py := by rw [List.map_map]; rfl
  rw [e1, pysOf_map]
  simp [so, -wp_forL_cons, -List.map_map]
  have bs : ∀ (l : List (Zb × Int)) q, bestZ c (l ++ [q]) = stepZ c (bestZ c l) q := fun l q => by
    unfold bestZ
    rw [List.foldl_append]
    rfl
  rw [List.map_map]
  refine wp_forM (D.py ∘ rowB) (fun pre σ T => wipeD σ [3, 4, 5] = [some (D.py (encB2 B)), some (D.py (PyData.list ((riseI B.flatten).map PyData.int))), some (.py (encZ c (bestZ c (pre.flatMap (candZ B (riseI B.flatten)))))), none, none, none] ∧ T = S) ⟨rfl, rfl⟩ ?_ ?_
  · rintro pre r post σ T e ⟨hσ, rfl⟩
    obtain ⟨v3, v4, v5, rfl⟩ := slot3 hσ
    clear hσ
    have hr := bools_row _ r (by rw [e]; simp)
    obtain ⟨oz, m1, m2⟩ := h.z hr
    have se := fun g hg T => settled_eq oz hc (gb g hg) T
    rw [m1, m2] at se
    have e2 : (pre ++ [r]).flatMap (candZ B (riseI B.flatten)) = pre.flatMap (candZ B (riseI B.flatten)) ++ candZ B (riseI B.flatten) r := by simp
    rw [e2]
    generalize pre.flatMap (candZ B (riseI B.flatten)) = l at *
    simp [-wp_forL_cons]
    refine wp_forM (D.py ∘ PyData.int) (fun gs σ T' => wipeD σ [4, 5] = [some (D.py (encB2 B)), some (D.py (PyData.list ((riseI B.flatten).map PyData.int))), some (.py (encZ c (bestZ c (l ++ gs.map fun g => (B.zip r, g))))), some (.py (rowB r)), none, none] ∧ T' = T) ⟨by simp, rfl⟩ ?_ ?_
    · rintro gs g post2 σ T' e3 ⟨hσ, rfl⟩
      obtain ⟨v4, v5, rfl⟩ := slot2 hσ
      clear hσ
      have hg : g ∈ riseI B.flatten := by rw [e3]; simp
      have s1 := fun T => se g hg T
      have e4 : l ++ (gs ++ [g]).map (fun g => (B.zip r, g)) = (l ++ gs.map fun g => (B.zip r, g)) ++ [(B.zip r, g)] := by simp
      rw [e4, bs]
      generalize bestZ c (l ++ gs.map fun g => (B.zip r, g)) = acc at *
      have ia := i0 (B.zip r, g)
      simp only [] at ia
      have yes : ∀ T, isND (.py .none) (.py .none) T = .ok (.py (.bool true)) T := fun T => rfl
      cases acc with
      | none => simp [s1, encZ, stepZ, yes]
      | some p =>
        have ip := i0 p
        have no : ∀ T, isND (.py (setZ p.1 c p.2)) (.py .none) T = .ok (.py (.bool false)) T := fun T => rfl
        by_cases q : totZ (B.zip r) c g < totZ p.1 c p.2
        · simp [s1, encZ, stepZ, no, ia, ip, lt', q]
        · simp [s1, encZ, stepZ, no, ia, ip, lt', q]
    · rintro σ T' ⟨hσ, rfl⟩
      obtain ⟨v4, v5, rfl⟩ := slot2 hσ
      simp [candZ]
  · rintro σ T ⟨hσ, rfl⟩
    obtain ⟨v3, v4, v5, rfl⟩ := slot3 hσ
    simp
    exact ⟨T, .self, rfl, rfl, rfl⟩
/-- the least that two classes need -/
def minZ (B : List (List Int)) (c : Nat) : Int := match bestZ c (allZ B) with
  | none => 0
  | some p => totZ p.1 c p.2
theorem bestZ_some {c : Nat} {l : List (Zb × Int)} (h : l ≠ []) : ∃ p, bestZ c l = some p ∧ p ∈ l ∧ ∀ q ∈ l, totZ p.1 c p.2 ≤ totZ q.1 c q.2 := by
  have key : ∀ (l : List (Zb × Int)) (p : Zb × Int), ∃ q, l.foldl (stepZ c) (some p) = some q ∧ (q = p ∨ q ∈ l) ∧ totZ q.1 c q.2 ≤ totZ p.1 c p.2 ∧ ∀ x ∈ l, totZ q.1 c q.2 ≤ totZ x.1 c x.2 := by
    intro l
    induction l with
    | nil => intro p; exact ⟨p, rfl, .inl rfl, Int.le_refl _, by simp⟩
    | cons a l ih =>
      intro p
      rw [List.foldl_cons]
      by_cases h : totZ a.1 c a.2 < totZ p.1 c p.2
      · rw [show stepZ c (some p) a = some a by simp [stepZ, h]]
        obtain ⟨q, e, h1, h2, h3⟩ := ih a
        refine ⟨q, e, .inr ?_, by omega, fun x hx => ?_⟩
        · rcases h1 with rfl | h1
          · simp
          · exact List.mem_cons_of_mem _ h1
        · rcases List.mem_cons.mp hx with rfl | hx
          · exact h2
          · exact h3 x hx
      · rw [show stepZ c (some p) a = some p by simp [stepZ, h]]
        obtain ⟨q, e, h1, h2, h3⟩ := ih p
        refine ⟨q, e, ?_, h2, fun x hx => ?_⟩
        · rcases h1 with rfl | h1
          · exact .inl rfl
          · exact .inr (List.mem_cons_of_mem _ h1)
        · rcases List.mem_cons.mp hx with rfl | hx
          · omega
          · exact h3 x hx
  cases l with
  | nil => exact absurd rfl h
  | cons a l =>
    obtain ⟨q, e, h1, h2, h3⟩ := key l a
    refine ⟨q, e, ?_, fun x hx => ?_⟩
    · rcases h1 with rfl | h1
      · simp
      · exact List.mem_cons_of_mem _ h1
    · rcases List.mem_cons.mp hx with rfl | hx
      · exact h2
      · exact h3 x hx
theorem allZ_ne {B : List (List Int)} {c : Nat} (h : OkB B c) (hc : 0 < c) : allZ B ≠ [] := by
  have hb : bools B.length ≠ [] := fun e => by
    have := bools_len B.length
    rw [e] at this
    have := Nat.pow_pos (n := B.length) (show 0 < 2 by decide)
    simp at *
    omega
  obtain ⟨r, hr⟩ := List.exists_mem_of_ne_nil _ hb
  obtain ⟨b0, B', rfl⟩ := List.exists_cons_of_length_pos h.pos
  have h0 := h.row b0 (by simp)
  obtain ⟨x, b0', rfl⟩ := List.exists_cons_of_length_pos (show 0 < b0.length by omega)
  have hx : x ∈ riseI ((x :: b0') :: B').flatten := mem_riseI.mpr (by simp)
  intro e
  have : ((((x :: b0') :: B').zip r, x) : Zb × Int) ∈ allZ ((x :: b0') :: B') := List.mem_flatMap.mpr ⟨r, hr, List.mem_map.mpr ⟨x, hx, rfl⟩⟩
  rw [e] at this
  cases this
theorem best_item {B : List (List Int)} {c : Nat} (h : OkB B c) (hc : 0 < c) (T : Sto) : itemD (.py (encZ c (bestZ c (allZ B)))) (.py (.int 0)) T = .ok (.py (.int (minZ B c))) T := by
  obtain ⟨p, e, _⟩ := bestZ_some (c := c) (allZ_ne h hc)
  unfold minZ
  rw [e]
  exact itemD_tupleI (by decide) rfl
theorem blk_ok {P : List Pair} {g h : List Nat} (hP : PG P) (hg : 0 < g.length ∧ g.length ≤ 6) (hh : 0 < h.length ∧ h.length ≤ 10) : OkB (blkM P g h) h.length := by
  refine ⟨by simp [blkM]; omega, by simp [blkM]; omega, fun r hr => ?_, fun r hr x hx => ?_, ?_⟩
  · obtain ⟨a, _, rfl⟩ := List.mem_map.mp hr
    simp
  · obtain ⟨a, _, rfl⟩ := List.mem_map.mp hr
    obtain ⟨b, _, rfl⟩ := List.mem_map.mp hx
    exact gapIn_any (Q := fun x => -999999999 ≤ x ∧ x ≤ 999999999) (by omega) hP.gap a b
  · have : ∀ g : List Nat, (blkM P g h).flatten.length = g.length * h.length := fun g => by
      induction g with
      | nil => simp [blkM]
      | cons a g ih =>
        have e : blkM P (a :: g) h = (h.map fun b => gapIn P a b) :: blkM P g h := rfl
        rw [e, List.flatten_cons, List.length_append, ih, List.length_map, List.length_cons, Nat.succ_mul]
        omega
    rw [this]
    have := Nat.mul_le_mul hg.2 hh.2
    omega
/-- what all classes need -/
def minR (P : List Pair) (H : List (List Nat)) (g : List Nat) : Int := (H.map fun h => minZ (blkM P g h) h.length).sum
def minS (P : List Pair) (G H : List (List Nat)) : Int := (G.map (minR P H)).sum
theorem need_partings_eq {f : Face} {G H : List (List Nat)} (pG : IsPart f.lets G) (pH : IsPart f.lets H) (nd : f.lets.Nodup) (b : ∀ c ∈ f.lets, c ≤ 122) (h1 : f.ls.length ≤ 20) (h6 : ∀ g ∈ G, g.length ≤ 6) (h0 : G ≠ []) (S : Sto) :
    F_need_partings [.py f.py, .py (encG G), .py (encG H)] S = .ok (.py .none) S := by
  have n1 := need_part pG nd b h1
  have n2 := need_part pH nd b h1
  have cm : ∀ (x y : Int) T, cmpI (fun i j => decide (j < i)) (.py (.int x)) (.py (.int y)) T = .ok (.py (.bool (decide (y < x)))) T := fun x y T => rfl
  have ln : ∀ (g : List Nat) T, lenD [.py (.tuple (g.map lt))] T = .ok (.py (.int (g.length : Nat))) T := fun g T => by simp [lenD, seqOf]
  have mx : ∀ T, maxD [.py (.list ((G.map fun g => ((g.length : Nat) : Int)).map PyData.int))] T = .ok (.py (.int (maxI (G.map fun g => ((g.length : Nat) : Int))))) T := fun T => by
    simp only [maxD, intsOf_map]
    rw [if_pos (by simpa using List.length_pos_iff.mpr h0)]
  obtain ⟨m, hm1, hm2⟩ := max_ex (l := G.map fun g => ((g.length : Nat) : Int)) (by simpa using h0)
  have em := maxI_eq (List.length_pos_iff.mpr (by simpa using h0)) hm1 hm2
  have hm : ¬ (6 : Int) < m := by
    obtain ⟨g, hg, rfl⟩ := List.mem_map.mp hm1
    have := h6 g hg
    omega
  rw [← em] at mx
  unfold F_need_partings b_need_partings
  refine fn_eq (wp_fn ?_)
  simp [init, n1, n2, -List.map_map]
  rw [List.map_map]
  refine wp_pureM1 (D.py ∘ fun g : List Nat => .tuple (g.map lt)) (fun g => D.py (.int (g.length : Nat))) (fun g hg => wp_eq (by simp [ln])) ?_
  have e2 : (G.map fun g => D.py (.int (g.length : Nat))) = ((G.map fun g => ((g.length : Nat) : Int)).map PyData.int).map D.py := by rw [List.map_map, List.map_map]; rfl
  rw [e2, pysOf_map]
  simp [mx, cm, hm, -List.map_map]
  exact .self
theorem fewest_told_eq {f : Face} {P : List Pair} {G H : List (List Nat)} (hP : PG P) (pG : IsPart f.lets G) (pH : IsPart f.lets H) (nd : f.lets.Nodup) (b : ∀ c ∈ f.lets, c ≤ 122) (h1 : f.ls.length ≤ 10) (h6 : ∀ g ∈ G, g.length ≤ 6) (h0 : G ≠ []) (S : Sto) :
    F_fewest_told [.py f.py, .py (encP P), .py (encG G), .py (encG H)] S = .ok (.py (.int (minS P G H))) S := by
  have np := need_partings_eq pG pH nd b (by omega) h6 h0
  have ad : ∀ (a b : Int) T, addD (.py (.int a)) (.py (.int b)) T = .ok (.py (.int (a + b))) T := fun a b T => rfl
  have llen : f.lets.length = f.ls.length := by simp
  unfold F_fewest_told b_fewest_told
  refine fn_eq (wp_fn ?_)
  simp [init, np, -wp_forL_cons, -List.map_map]
  rw [List.map_map]
  refine wp_forM (D.py ∘ fun g : List Nat => .tuple (g.map lt)) (fun pre σ T => wipeD σ [4, 5] = [some (.py f.py), some (.py (encP P)), some (.py (encG G)), some (.py (encG H)), none, none, none] ∧ σ[4]? = some (some (.py (.int ((pre.map (minR P H)).sum)))) ∧ T = S) ⟨rfl, rfl, rfl⟩ ?_ ?_
  · rintro pre g post σ T e ⟨hσ, h4, rfl⟩
    obtain ⟨v4, v5, rfl⟩ := slot2 hσ
    clear hσ
    simp at h4
    subst h4
    have hg : g ∈ G := by rw [e]; simp
    have g0 := List.length_pos_iff.mpr (pG.ne g hg)
    have g6 := h6 g hg
    simp [-List.map_map]
    rw [List.map_map]
    refine wp_pureM1 (D.py ∘ fun h : List Nat => .tuple (h.map lt)) (fun h => D.py (.int (minZ (blkM P g h) h.length))) (fun h hh => wp_eq ?_) ?_
    · have hh0 := List.length_pos_iff.mpr (pH.ne h hh)
      have hh1 := pH.len1 hh
      have ok := blk_ok hP (g := g) (h := h) ⟨g0, g6⟩ ⟨hh0, by omega⟩
      have bo := fun T => block_of_eq P g h T
      have bb := fun T => best_block_eq ok ⟨hh0, by omega⟩ T
      have bi := fun T => best_item ok hh0 T
      simp [bo, bb, bi]
    · have e2 : (H.map fun h => D.py (.int (minZ (blkM P g h) h.length))) = ((H.map fun h => minZ (blkM P g h) h.length).map PyData.int).map D.py := by rw [List.map_map, List.map_map]; rfl
      rw [e2, pysOf_map]
      simp only [sumD_ints, wp_ok, ad]
      simp [minR]
  · rintro σ T ⟨hσ, h4, rfl⟩
    obtain ⟨v4, v5, rfl⟩ := slot2 hσ
    simp at h4
    subst h4
    simp
    exact ⟨T, .self, rfl, rfl, rfl⟩
end DV

set_option maxHeartbeats 4000000
namespace DV
open PySem
/-! The law's own search for the fewest exceptions of two classes. -/
def far (vs : List Int) (g : Int) : Int := (vs.length : Int) - (vs.count g : Nat)
theorem ownZ_filter (Z : Zb) : ((Z.filter fun z => z.2).map fun z => 1 + needV z.1).sum = ownZ Z := by
  unfold ownZ
  induction Z with
  | nil => rfl
  | cons z Z ih =>
    obtain ⟨r, b⟩ := z
    cases b with
    | false => simpa using ih
    | true => simpa using ih
/-- the least of a start and of all totals -/
def minL (c : Nat) (b : Int) (l : List (Zb × Int)) : Int := l.foldl (fun b q => if totZ q.1 c q.2 < b then totZ q.1 c q.2 else b) b
theorem minL_is {c : Nat} : ∀ (l : List (Zb × Int)) (b : Int), (minL c b l = b ∨ ∃ q ∈ l, minL c b l = totZ q.1 c q.2) ∧ minL c b l ≤ b ∧ ∀ q ∈ l, minL c b l ≤ totZ q.1 c q.2
  | [], b => ⟨.inl rfl, Int.le_refl _, by simp⟩
  | a :: l, b => by
    obtain ⟨h1, h2, h3⟩ := minL_is (c := c) l (if totZ a.1 c a.2 < b then totZ a.1 c a.2 else b)
    have e : minL c b (a :: l) = minL c (if totZ a.1 c a.2 < b then totZ a.1 c a.2 else b) l := rfl
    rw [e]
    generalize minL c (if totZ a.1 c a.2 < b then totZ a.1 c a.2 else b) l = m at *
    refine ⟨?_, ?_, fun q hq => ?_⟩
    · rcases h1 with h1 | ⟨q, hq, h1⟩
      · split at h1
        · exact .inr ⟨a, by simp, h1⟩
        · exact .inl h1
      · exact .inr ⟨q, List.mem_cons_of_mem _ hq, h1⟩
    · split at h2 <;> omega
    · rcases List.mem_cons.mp hq with rfl | hq
      · split at h2 <;> omega
      · exact h3 q hq
theorem colC_le (vs : List Int) (g : Int) : (colC vs g).1 ≤ vs.length := by
  unfold colC
  split
  · simp
  · split <;> simp only <;> omega
theorem sumI_le {l : List Int} {b : Int} (h : ∀ x ∈ l, x ≤ b) : l.sum ≤ l.length * b := by
  induction l with
  | nil => simp
  | cons a l ih =>
    have h1 := h a (by simp)
    have h2 := ih fun x hx => h x (List.mem_cons_of_mem _ hx)
    rw [List.sum_cons, List.length_cons]
    have : ((l.length + 1 : Nat) : Int) * b = l.length * b + b := by
      push_cast
      rw [Int.add_mul, Int.one_mul]
    omega
theorem none_own : ∀ n, List.replicate n false ∈ bools n
  | 0 => by simp [bools]
  | n + 1 => by
    rw [bools, List.mem_append]
    exact .inl (List.mem_map.mpr ⟨_, none_own n, by rw [List.replicate_succ']⟩)
theorem minL_minZ {B : List (List Int)} {c : Nat} (h : OkB B c) (hc : 0 < c) : minL c ((B.length : Int) * c) (allZ B) = minZ B c := by
  obtain ⟨p, e, hp, hle⟩ := bestZ_some (c := c) (allZ_ne h hc)
  have em : minZ B c = totZ p.1 c p.2 := by unfold minZ; rw [e]
  obtain ⟨h1, h2, h3⟩ := minL_is (c := c) (allZ B) ((B.length : Int) * c)
  rw [em]
  have hb : totZ p.1 c p.2 ≤ (B.length : Int) * c := by
    obtain ⟨b0, B', eB⟩ := List.exists_cons_of_length_pos h.pos
    have h0 := h.row b0 (by rw [eB]; simp)
    obtain ⟨x, b0', rfl⟩ := List.exists_cons_of_length_pos (show 0 < b0.length by omega)
    have hx : x ∈ riseI B.flatten := mem_riseI.mpr (by rw [eB]; simp)
    have hm : ((B.zip (List.replicate B.length false), x) : Zb × Int) ∈ allZ B := List.mem_flatMap.mpr ⟨_, none_own _, List.mem_map.mpr ⟨x, hx, rfl⟩⟩
    refine Int.le_trans (hle _ hm) ?_
    obtain ⟨oz, m1, m2⟩ := h.z (r := List.replicate B.length false) (by simp)
    have own0 : ownZ (B.zip (List.replicate B.length false)) = 0 := by
      rw [← ownZ_filter]
      have : (B.zip (List.replicate B.length false)).filter (fun z => z.2) = [] := List.filter_eq_nil_iff.mpr fun z hz => by
        have := List.eq_of_mem_replicate (List.of_mem_zip hz).2
        simp [this]
      rw [this]
      rfl
    have hs := sumI_le (l := (List.range c).map fun k => (colC (colZ (B.zip (List.replicate B.length false)) k) x).1) (b := (B.length : Int)) fun y hy => by
      obtain ⟨k, _, rfl⟩ := List.mem_map.mp hy
      refine Int.le_trans (colC_le _ _) ?_
      have : (colZ (B.zip (List.replicate B.length false)) k).length ≤ B.length := by
        unfold colZ
        rw [List.length_map]
        refine Nat.le_trans (List.length_filter_le _ _) ?_
        rw [List.length_zip]
        omega
      omega
    rw [List.length_map, List.length_range, Int.mul_comm] at hs
    unfold totZ
    simp only []
    rw [own0]
    omega
  rcases h1 with h1 | ⟨q, hq, h1⟩
  · have := h3 p hp
    omega
  · have := h3 p hp
    have := hle q hq
    omega
end DV

set_option maxHeartbeats 4000000
namespace DV
open PySem
/-! Exceptions of three kinds: what they tell, how few they can be. -/
def dueO (o t : Option Int) (g : Int) : Int := match o with
  | some v => v
  | none => match t with
    | some v => v
    | none => g
def sgO (P : List Pair) (R C : Nat → Option Int) (g0 : Int) (a b : Nat) : Option Exc := if gapIn P a b = dueO (R a) (C b) g0 then none else some (.l a, .l b, gapIn P a b)
def singO (P : List Pair) (R C : Nat → Option Int) (g0 : Int) (g h : List Nat) : List Exc := g.flatMap fun a => h.filterMap fun b => sgO P R C g0 a b
def rowO (R : Nat → Option Int) (g : List Nat) (j : Nat) : List Exc := g.filterMap fun a => (R a).map fun v => (Ky.l a, Ky.n j, v)
def colO (C : Nat → Option Int) (h : List Nat) (i : Nat) : List Exc := h.filterMap fun b => (C b).map fun v => (Ky.n i, Ky.l b, v)
theorem sgO_some {P : List Pair} {R C : Nat → Option Int} {g0 : Int} {a b : Nat} {e : Exc} (h : sgO P R C g0 a b = some e) : e = (.l a, .l b, gapIn P a b) ∧ gapIn P a b ≠ dueO (R a) (C b) g0 := by
  unfold sgO at h
  split at h
  · cases h
  · rename_i hn
    exact ⟨(Option.some.inj h).symm, hn⟩
theorem mem_singO {P : List Pair} {R C : Nat → Option Int} {g0 : Int} {g h : List Nat} {e : Exc} : e ∈ singO P R C g0 g h ↔ ∃ a ∈ g, ∃ b ∈ h, gapIn P a b ≠ dueO (R a) (C b) g0 ∧ e = (.l a, .l b, gapIn P a b) := by
  unfold singO
  simp only [List.mem_flatMap, List.mem_filterMap]
  constructor
  · rintro ⟨a, ha, b, hb, q⟩
    obtain ⟨e1, n⟩ := sgO_some q
    exact ⟨a, ha, b, hb, n, e1⟩
  · rintro ⟨a, ha, b, hb, n, rfl⟩
    exact ⟨a, ha, b, hb, by unfold sgO; rw [if_neg n]⟩
theorem mem_rowO {R : Nat → Option Int} {g : List Nat} {j : Nat} {e : Exc} : e ∈ rowO R g j ↔ ∃ a ∈ g, ∃ v, R a = some v ∧ e = (.l a, .n j, v) := by
  unfold rowO
  simp only [List.mem_filterMap, Option.map_eq_some_iff]
  constructor
  · rintro ⟨a, ha, v, h1, h2⟩
    exact ⟨a, ha, v, h1, h2.symm⟩
  · rintro ⟨a, ha, v, h1, h2⟩
    exact ⟨a, ha, v, h1, h2.symm⟩
theorem mem_colO {C : Nat → Option Int} {h : List Nat} {i : Nat} {e : Exc} : e ∈ colO C h i ↔ ∃ b ∈ h, ∃ v, C b = some v ∧ e = (.n i, .l b, v) := by
  unfold colO
  simp only [List.mem_filterMap, Option.map_eq_some_iff]
  constructor
  · rintro ⟨a, ha, v, h1, h2⟩
    exact ⟨a, ha, v, h1, h2.symm⟩
  · rintro ⟨a, ha, v, h1, h2⟩
    exact ⟨a, ha, v, h1, h2.symm⟩
abbrev Blk := List Nat × Nat
def KyP (p : Blk) : Ky → Prop
  | .l a => a ∈ p.1
  | .n i => i = p.2
def blocks (G H : List (List Nat)) (X : Blk → Blk → List Exc) : List Exc := G.zipIdx.flatMap fun p => H.zipIdx.flatMap fun q => X p q
theorem mem_blocks {G H : List (List Nat)} {X : Blk → Blk → List Exc} {e : Exc} : e ∈ blocks G H X ↔ ∃ p ∈ G.zipIdx, ∃ q ∈ H.zipIdx, e ∈ X p q := by
  unfold blocks
  simp only [List.mem_flatMap]
theorem zipIdx_pw {α : Type} {R : α → α → Prop} : ∀ {l : List α} (n : Nat), l.Pairwise R → (l.zipIdx n).Pairwise fun p q => R p.1 q.1 ∧ p.2 < q.2
  | [], _, _ => .nil
  | a :: l, n, h => by
    rw [List.zipIdx_cons]
    have h1 := List.pairwise_cons.mp h
    refine List.pairwise_cons.mpr ⟨fun q hq => ?_, zipIdx_pw (n + 1) h1.2⟩
    obtain ⟨x, i⟩ := q
    have hm := List.mem_zipIdx hq
    refine ⟨h1.1 x ?_, by simp only; omega⟩
    rw [hm.2.2]
    exact List.getElem_mem _
abbrev Apart (p p' : Blk) : Prop := (∀ x ∈ p.1, ∀ y ∈ p'.1, x ≠ y) ∧ p.2 < p'.2
theorem blk_pw {G : List (List Nat)} (hG : G.flatten.Nodup) : G.zipIdx.Pairwise Apart := zipIdx_pw 0 (List.pairwise_flatten.mp hG).2
theorem Apart.ne {p p' : Blk} {k k' : Ky} (h : Apart p p') (a : KyP p k) (b : KyP p' k') : k ≠ k' := fun e => by
  subst e
  obtain ⟨h1, h2⟩ := h
  cases k with
  | l c => exact h1 c a c b rfl
  | n i =>
    simp only [KyP] at a b
    omega
theorem blocks_nodup {G H : List (List Nat)} {X : Blk → Blk → List Exc} (hG : G.flatten.Nodup) (hH : H.flatten.Nodup) (hin : ∀ p ∈ G.zipIdx, ∀ q ∈ H.zipIdx, ∀ e ∈ X p q, KyP p e.1 ∧ KyP q e.2.1)
    (hnd : ∀ p ∈ G.zipIdx, ∀ q ∈ H.zipIdx, ((X p q).map kk).Nodup) : ((blocks G H X).map kk).Nodup := by
  unfold blocks List.Nodup
  rw [List.pairwise_map, List.pairwise_flatMap]
  refine ⟨fun p hp => ?_, ?_⟩
  · rw [List.pairwise_flatMap]
    refine ⟨fun q hq => ?_, ?_⟩
    · have := hnd p hp q hq
      unfold List.Nodup at this
      rwa [List.pairwise_map] at this
    · refine List.Pairwise.imp_of_mem (fun {q q'} hq hq' r x hx y hy e => ?_) (blk_pw hH)
      exact r.ne (hin p hp q hq x hx).2 (hin p hp q' hq' y hy).2 (Prod.mk.inj e).2
  · refine List.Pairwise.imp_of_mem (fun {p p'} hp hp' r x hx y hy e => ?_) (blk_pw hG)
    obtain ⟨q, hq, hx⟩ := List.mem_flatMap.mp hx
    obtain ⟨q', hq', hy⟩ := List.mem_flatMap.mp hy
    exact r.ne (hin p hp q hq x hx).1 (hin p' hp' q' hq' y hy).1 (Prod.mk.inj e).1
theorem singO_nodup {P : List Pair} {R C : Nat → Option Int} {g0 : Int} {g h : List Nat} (hg : g.Nodup) (hh : h.Nodup) : ((singO P R C g0 g h).map kk).Nodup := by
  unfold singO List.Nodup
  rw [List.pairwise_map, List.pairwise_flatMap]
  refine ⟨fun a ha => ?_, hg.imp fun {a a'} n x hx y hy e => ?_⟩
  · rw [List.pairwise_filterMap]
    refine hh.imp fun {b b'} n x hx y hy e => ?_
    rw [(sgO_some hx).1, (sgO_some hy).1] at e
    simp at e
    exact n e
  · obtain ⟨b, hb, hx⟩ := List.mem_filterMap.mp hx
    obtain ⟨b', hb', hy⟩ := List.mem_filterMap.mp hy
    rw [(sgO_some hx).1, (sgO_some hy).1] at e
    simp at e
    exact n e.1
theorem rowO_nodup {R : Nat → Option Int} {g : List Nat} {j : Nat} (hg : g.Nodup) : ((rowO R g j).map kk).Nodup := by
  unfold rowO List.Nodup
  rw [List.pairwise_map, List.pairwise_filterMap]
  refine hg.imp fun {a a'} n x hx y hy e => ?_
  obtain ⟨v, _, rfl⟩ := Option.map_eq_some_iff.mp hx
  obtain ⟨w, _, rfl⟩ := Option.map_eq_some_iff.mp hy
  simp at e
  exact n e
theorem colO_nodup {C : Nat → Option Int} {h : List Nat} {i : Nat} (hh : h.Nodup) : ((colO C h i).map kk).Nodup := by
  unfold colO List.Nodup
  rw [List.pairwise_map, List.pairwise_filterMap]
  refine hh.imp fun {a a'} n x hx y hy e => ?_
  obtain ⟨v, _, rfl⟩ := Option.map_eq_some_iff.mp hx
  obtain ⟨w, _, rfl⟩ := Option.map_eq_some_iff.mp hy
  simp at e
  exact n e
abbrev RC := Blk → Blk → Nat → Option Int
def F1 (P : List Pair) (R C : RC) (g0 : Blk → Blk → Int) (G H : List (List Nat)) : List Exc := blocks G H fun p q => singO P (R p q) (C p q) (g0 p q) p.1 q.1
def F2 (R : RC) (G H : List (List Nat)) : List Exc := blocks G H fun p q => rowO (R p q) p.1 q.2
def F3 (C : RC) (G H : List (List Nat)) : List Exc := blocks G H fun p q => colO (C p q) q.1 p.2
def gapsZ (g0 : Blk → Blk → Int) (G H : List (List Nat)) : List (List Int) := G.zipIdx.map fun p => H.zipIdx.map fun q => g0 p q
section
variable {P : List Pair} {R C : RC} {g0 : Blk → Blk → Int} {G H : List (List Nat)}
theorem in_nodup {G : List (List Nat)} (hG : G.flatten.Nodup) {p : Blk} (hp : p ∈ G.zipIdx) : p.1.Nodup := by
  obtain ⟨g, i⟩ := p
  have := List.mem_zipIdx hp
  exact (List.pairwise_flatten.mp hG).1 g (by rw [this.2.2]; exact List.getElem_mem _)
theorem F1_nodup (hG : G.flatten.Nodup) (hH : H.flatten.Nodup) : ((F1 P R C g0 G H).map kk).Nodup := blocks_nodup hG hH (fun p hp q hq e he => by
  obtain ⟨a, ha, b, hb, _, rfl⟩ := mem_singO.mp he
  exact ⟨ha, hb⟩) fun p hp q hq => singO_nodup (in_nodup hG hp) (in_nodup hH hq)
theorem F2_nodup (hG : G.flatten.Nodup) (hH : H.flatten.Nodup) : ((F2 R G H).map kk).Nodup := blocks_nodup hG hH (fun p hp q hq e he => by
  obtain ⟨a, ha, v, _, rfl⟩ := mem_rowO.mp he
  exact ⟨ha, rfl⟩) fun p hp q hq => rowO_nodup (in_nodup hG hp)
theorem F3_nodup (hG : G.flatten.Nodup) (hH : H.flatten.Nodup) : ((F3 C G H).map kk).Nodup := blocks_nodup hG hH (fun p hp q hq e he => by
  obtain ⟨a, ha, v, _, rfl⟩ := mem_colO.mp he
  exact ⟨rfl, ha⟩) fun p hp q hq => colO_nodup (in_nodup hH hq)
theorem mem_F1 {e : Exc} : e ∈ F1 P R C g0 G H ↔ ∃ p ∈ G.zipIdx, ∃ q ∈ H.zipIdx, ∃ a ∈ p.1, ∃ b ∈ q.1, gapIn P a b ≠ dueO (R p q a) (C p q b) (g0 p q) ∧ e = (.l a, .l b, gapIn P a b) := by
  unfold F1
  simp only [mem_blocks, mem_singO]
theorem mem_F2 {e : Exc} : e ∈ F2 R G H ↔ ∃ p ∈ G.zipIdx, ∃ q ∈ H.zipIdx, ∃ a ∈ p.1, ∃ v, R p q a = some v ∧ e = (.l a, .n q.2, v) := by
  unfold F2
  simp only [mem_blocks, mem_rowO]
theorem mem_F3 {e : Exc} : e ∈ F3 C G H ↔ ∃ p ∈ G.zipIdx, ∃ q ∈ H.zipIdx, ∃ b ∈ q.1, ∃ v, C p q b = some v ∧ e = (.n p.2, .l b, v) := by
  unfold F3
  simp only [mem_blocks, mem_colO]
/-! ### sums -/
def sm {α : Type} (l : List α) (f : α → Int) : Int := (l.map f).sum
/-! ### what two classes cost -/
def colR (P : List Pair) (R : Nat → Option Int) (g : List Nat) (b : Nat) : List Int := (g.filter fun a => (R a).isNone).map fun a => gapIn P a b
def rowV (P : List Pair) (h : List Nat) (a : Nat) : List Int := h.map fun b => gapIn P a b
/-- a choice of rows and a gap, letter by letter -/
def zOf (P : List Pair) (g h : List Nat) (own : Nat → Bool) : Zb := g.map fun a => (rowV P h a, own a)
theorem zip_own (P : List Pair) (g h : List Nat) (own : Nat → Bool) : (blkM P g h).zip (g.map own) = zOf P g h own := by
  unfold blkM zOf
  rw [List.zip_map']
  rfl
theorem col_own {P : List Pair} {g h : List Nat} {own : Nat → Bool} {k : Nat} (hk : k < h.length) : colZ (zOf P g h own) k = (g.filter fun a => !own a).map fun a => gapIn P a h[k] := by
  unfold colZ zOf
  rw [List.filter_map, List.map_map]
  refine List.map_congr_left fun a _ => ?_
  simp [rowV, hk]
/-! ### the best choice, letter by letter -/
def bestP (P : List Pair) (g h : List Nat) : Zb × Int := (bestZ h.length (allZ (blkM P g h))).getD ([], 0)
def ownF (P : List Pair) (g h : List Nat) (a : Nat) : Bool := ((bestP P g h).1.getD (g.idxOf a) ([], false)).2
def gpF (P : List Pair) (g h : List Nat) : Int := (bestP P g h).2
def roF (P : List Pair) (g h : List Nat) (a : Nat) : Option Int := if ownF P g h a then some (mostV (rowV P h a)) else none
def coF (P : List Pair) (g h : List Nat) (b : Nat) : Option Int := (colC (colR P (roF P g h) g b) (gpF P g h)).2
theorem roF_none (P : List Pair) (g h : List Nat) (a : Nat) : (roF P g h a).isNone = !ownF P g h a := by
  unfold roF
  cases ownF P g h a <;> rfl
theorem best_form {P : List Pair} {g h : List Nat} (ng : g.Nodup) (ok : OkB (blkM P g h) h.length) (hc : 0 < h.length) :
    bestZ h.length (allZ (blkM P g h)) = some (zOf P g h (ownF P g h), gpF P g h) ∧ gpF P g h ∈ (blkM P g h).flatten := by
  obtain ⟨p, e, hp, _⟩ := bestZ_some (c := h.length) (allZ_ne ok hc)
  obtain ⟨r, hr, hp⟩ := List.mem_flatMap.mp hp
  obtain ⟨x, hx, rfl⟩ := List.mem_map.mp hp
  have hb : bestP P g h = ((blkM P g h).zip r, x) := by unfold bestP; rw [e]; rfl
  have hl : r.length = g.length := by have := bools_row _ r hr; simpa [blkM] using this
  have er : r = g.map (ownF P g h) := by
    refine List.ext_getElem (by simp [hl]) fun i h1 h2 => ?_
    have hi : i < g.length := by omega
    have hz : i < ((blkM P g h).zip r).length := by rw [List.length_zip, hl]; simp [blkM]; omega
    have hown : ownF P g h g[i] = r[i] := by
      unfold ownF
      rw [hb, ng.idxOf_getElem i hi]
      simp only [List.getD_eq_getElem?_getD, List.getElem?_eq_getElem hz, Option.getD_some, List.getElem_zip]
    rw [List.getElem_map]
    exact hown.symm
  have eg : gpF P g h = x := by unfold gpF; rw [hb]
  refine ⟨?_, by rw [eg]; exact mem_riseI.mp hx⟩
  rw [e, eg, ← zip_own, ← er]
/-! ### all classes -/
/-- the exceptions that are best told -/
abbrev Rb (P : List Pair) : RC := fun p q => roF P p.1 q.1
abbrev Cb (P : List Pair) : RC := fun p q => coF P p.1 q.1
abbrev gb0 (P : List Pair) : Blk → Blk → Int := fun p q => gpF P p.1 q.1
end
section
variable {P : List Pair} {L : List Nat} {G H : List (List Nat)}
theorem blk_in {G : List (List Nat)} {p : Blk} (h : p ∈ G.zipIdx) : p.1 ∈ G := by
  obtain ⟨g, i⟩ := p
  rw [(List.mem_zipIdx h).2.2]
  exact List.getElem_mem _
end
end DV

set_option maxHeartbeats 4000000
namespace DV
open PySem
/-! Exceptions of three kinds in order. -/
def kvI (L : List Nat) : Ky → Int
  | .l a => (plc L a : Nat)
  | .n i => (i : Nat)
def kdI : Ky × Ky → Int
  | (.l _, .l _) => 0
  | (.l _, .n _) => 1
  | (.n _, .l _) => 2
  | (.n _, .n _) => 3
theorem keyI_kv (L : List Nat) (k : Ky × Ky) : keyI L k = [kdI k, kvI L k.1, kvI L k.2] := by
  obtain ⟨a, b⟩ := k
  cases a <;> cases b <;> rfl
def kyE (L : List Nat) (e : Exc) : PyData := .tuple [.int (kvI L e.1), .int (kvI L e.2.1)]
def leE (L : List Nat) (e e' : Exc) : Prop := kvI L e.1 < kvI L e'.1 ∨ (kvI L e.1 = kvI L e'.1 ∧ kvI L e.2.1 ≤ kvI L e'.2.1)
instance (L : List Nat) (p q : Exc) : Decidable (leE L p q) := by unfold leE; infer_instance
def srtE (L : List Nat) (F : List Exc) : List Exc := F.mergeSort fun e e' => decide (leE L e e')
theorem srtE_perm (L : List Nat) (F : List Exc) : (srtE L F).Perm F := List.mergeSort_perm _ _
theorem by_keysE (L : List Nat) (F : List Exc) : byKeys (F.map (kyE L)) (F.map fun e => D.py (encE e)) = (srtE L F).map fun e => D.py (encE e) := by
  unfold byKeys
  have ez : (F.map (kyE L)).zip (F.map fun p => D.py (encE p)) = F.map fun p => (kyE L p, D.py (encE p)) := by
    rw [List.zip_map']
  rw [ez]
  have el : ∀ p q : Exc, PySem.W.dataLe false Prod.fst ((fun p => (kyE L p, D.py (encE p))) p) ((fun p => (kyE L p, D.py (encE p))) q) = decide (leE L p q) := fun p q => by
    have := PySem.W.dataLe_ii (fun p : Exc => kvI L p.1) (fun p : Exc => kvI L p.2.1)
    exact congrFun (congrFun this p) q
  have em := List.map_mergeSort (r := fun p q => decide (leE L p q)) (s := PySem.W.dataLe false Prod.fst) (f := fun p : Exc => (kyE L p, D.py (encE p))) (l := F) (hl := fun a _ b _ => (el a b).symm)
  rw [← em, List.map_map]
  rfl
theorem keys_okE (L : List Nat) (F : List Exc) : keysOk (F.map (kyE L)) := by
  refine ⟨PySem.W.AllAlike.of fun b b' => by simp [kyE, PySem.W.alike, PySem.W.alikeAll], PySem.W.Sortable.tuples fun b => ⟨_, _, rfl⟩, ?_, ?_⟩
  · induction F with
    | nil => rfl
    | cons y l ih =>
      rw [List.map_cons]
      simp only [kyE, PyData.hasDictAll, PyData.hasDict, Bool.or_false, Bool.false_or]
      exact ih
  · induction F with
    | nil => simp [PyData.depthAll]
    | cons y l ih =>
      rw [List.map_cons]
      simp only [kyE, PyData.depthAll, PyData.depth]
      omega
theorem strict_sub {α : Type} {R : α → α → Prop} (as : ∀ x y, R x y → R y x → False) : ∀ {B A : List α}, A.Pairwise R → B.Pairwise R → (∀ x ∈ A, x ∈ B) → A.Sublist B
  | [], A, _, _, h => by
    cases A with
    | nil => exact List.Sublist.refl _
    | cons a A => exact absurd (h a (by simp)) (by simp)
  | b :: B, [], _, _, _ => List.nil_sublist _
  | b :: B, a :: A, hA, hB, h => by
    have hA1 := List.pairwise_cons.mp hA
    have hB1 := List.pairwise_cons.mp hB
    rcases List.mem_cons.mp (h a (by simp)) with e | ha
    · subst e
      refine List.Sublist.cons₂ _ (strict_sub as hA1.2 hB1.2 fun x hx => ?_)
      rcases List.mem_cons.mp (h x (List.mem_cons_of_mem _ hx)) with q | q
      · subst q
        exact (as _ _ (hA1.1 _ hx) (hA1.1 _ hx)).elim
      · exact q
    · refine List.Sublist.cons _ (strict_sub as hA hB1.2 fun x hx => ?_)
      rcases List.mem_cons.mp (h x hx) with q | q
      · subst q
        rcases List.mem_cons.mp hx with q2 | hx
        · subst q2
          exact ha
        · exact (as _ _ (hB1.1 _ ha) (hA1.1 _ hx)).elim
      · exact q
theorem in_allK3 {L : List Nat} {nl nr : Nat} {p : Ky × Ky} (h : KyIn L nl nr p) : p ∈ allK L nl nr := by
  have mc : ∀ {A B : List Ky} {a b : Ky}, a ∈ A → b ∈ B → (a, b) ∈ cross A B := fun ha hb => List.mem_flatMap.mpr ⟨_, ha, List.mem_map.mpr ⟨_, hb, rfl⟩⟩
  unfold allK
  cases h with
  | ll ha hb => exact List.mem_append.mpr (.inl (mc (List.mem_map.mpr ⟨_, ha, rfl⟩) (List.mem_map.mpr ⟨_, hb, rfl⟩)))
  | ln ha hj => exact List.mem_append.mpr (.inr (List.mem_append.mpr (.inl (mc (List.mem_map.mpr ⟨_, ha, rfl⟩) (List.mem_map.mpr ⟨_, List.mem_range.mpr hj, rfl⟩)))))
  | nl hi hb => exact List.mem_append.mpr (.inr (List.mem_append.mpr (.inr (mc (List.mem_map.mpr ⟨_, List.mem_range.mpr hi, rfl⟩) (List.mem_map.mpr ⟨_, hb, rfl⟩)))))
theorem ky_inj {L : List Nat} {nl nr : Nat} {p q : Ky × Ky} (hp : KyIn L nl nr p) (hq : KyIn L nl nr q) (h : kdI p = kdI q) (h1 : kvI L p.1 = kvI L q.1) (h2 : kvI L p.2 = kvI L q.2) : p = q := by
  cases hp with
  | ll ha hb =>
    cases hq with
    | ll ha' hb' =>
      simp only [kvI] at h1 h2
      rw [plc_inj ha ha' (by omega), plc_inj hb hb' (by omega)]
    | ln ha' hb' => simp [kdI] at h
    | nl ha' hb' => simp [kdI] at h
  | ln ha hb =>
    cases hq with
    | ll ha' hb' => simp [kdI] at h
    | ln ha' hb' =>
      simp only [kvI] at h1 h2
      have e2 := Int.ofNat.inj h2
      rw [plc_inj ha ha' (by omega), e2]
    | nl ha' hb' => simp [kdI] at h
  | nl ha hb =>
    cases hq with
    | ll ha' hb' => simp [kdI] at h
    | ln ha' hb' => simp [kdI] at h
    | nl ha' hb' =>
      simp only [kvI] at h1 h2
      have e1 := Int.ofNat.inj h1
      rw [plc_inj hb hb' (by omega), e1]
abbrev ltK (L : List Nat) (p q : Ky × Ky) : Prop := HT.lexLt (keyI L p) (keyI L q) = true
theorem srtE_pw {L : List Nat} {nl nr : Nat} {F : List Exc} {d : Int} (n : (F.map kk).Nodup) (k : ∀ e ∈ F, kdI (kk e) = d ∧ KyIn L nl nr (kk e)) : ((srtE L F).map kk).Pairwise (ltK L) := by
  have h1 := List.pairwise_mergeSort (le := fun p q => decide (leE L p q)) (fun a b c h1 h2 => by simp only [decide_eq_true_eq] at *; unfold leE at *; omega) (fun a b => by simp only [Bool.or_eq_true, decide_eq_true_eq]; unfold leE; omega) F
  have h2 : ((srtE L F).map kk).Nodup := ((srtE_perm L F).map kk).nodup_iff.mpr n
  unfold List.Nodup at h2
  rw [List.pairwise_map] at h2 ⊢
  have h3 := List.Pairwise.and h1 h2
  refine List.Pairwise.imp_of_mem (fun {a b} ha hb q => ?_) h3
  obtain ⟨q1, q2⟩ := q
  have q1 := of_decide_eq_true q1
  obtain ⟨a1, a2⟩ := k a ((srtE_perm L F).mem_iff.mp ha)
  obtain ⟨b1, b2⟩ := k b ((srtE_perm L F).mem_iff.mp hb)
  unfold ltK
  rw [keyI_kv, keyI_kv, lex3]
  have ne : ¬ (kvI L (kk a).1 = kvI L (kk b).1 ∧ kvI L (kk a).2 = kvI L (kk b).2) := fun z => q2 (ky_inj a2 b2 (by rw [a1, b1]) z.1 z.2)
  unfold leE at q1
  simp only [kk] at ne ⊢
  simp only [kk] at a1 b1
  omega
theorem ex_three {L : List Nat} {nl nr : Nat} {A B C : List Exc} (nd : L.Nodup) (n1 : (A.map kk).Nodup) (n2 : (B.map kk).Nodup) (n3 : (C.map kk).Nodup)
    (k1 : ∀ e ∈ A, kdI (kk e) = 0 ∧ KyIn L nl nr (kk e)) (k2 : ∀ e ∈ B, kdI (kk e) = 1 ∧ KyIn L nl nr (kk e)) (k3 : ∀ e ∈ C, kdI (kk e) = 2 ∧ KyIn L nl nr (kk e))
    (g : ∀ e ∈ A ++ B ++ C, gapB e.2.2) : ExIn L nl nr (srtE L A ++ srtE L B ++ srtE L C) := by
  have m1 : ∀ {e}, e ∈ srtE L A → e ∈ A := fun h => (srtE_perm L A).mem_iff.mp h
  have m2 : ∀ {e}, e ∈ srtE L B → e ∈ B := fun h => (srtE_perm L B).mem_iff.mp h
  have m3 : ∀ {e}, e ∈ srtE L C → e ∈ C := fun h => (srtE_perm L C).mem_iff.mp h
  refine ⟨?_, fun e he => ?_⟩
  · refine strict_sub (R := ltK L) (fun x y h1 h2 => ?_) ?_ ?_ fun x hx => ?_
    · unfold ltK at h1 h2
      rw [keyI_kv, keyI_kv, lex3] at h1 h2
      omega
    · rw [List.map_append, List.map_append, List.pairwise_append, List.pairwise_append]
      refine ⟨⟨srtE_pw n1 k1, srtE_pw n2 k2, fun x hx y hy => ?_⟩, srtE_pw n3 k3, fun x hx y hy => ?_⟩
      · obtain ⟨e, he, rfl⟩ := List.mem_map.mp hx
        obtain ⟨e', he', rfl⟩ := List.mem_map.mp hy
        have a := (k1 e (m1 he)).1
        have b := (k2 e' (m2 he')).1
        unfold ltK
        rw [keyI_kv, keyI_kv, lex3, a, b]
        omega
      · obtain ⟨e', he', rfl⟩ := List.mem_map.mp hy
        have b := (k3 e' (m3 he')).1
        unfold ltK
        rw [keyI_kv, keyI_kv, lex3, b]
        rcases List.mem_append.mp hx with hx | hx
        · obtain ⟨e, he, rfl⟩ := List.mem_map.mp hx
          rw [(k1 e (m1 he)).1]
          omega
        · obtain ⟨e, he, rfl⟩ := List.mem_map.mp hx
          rw [(k2 e (m2 he)).1]
          omega
    · have := allK_pw nd nl nr
      rwa [List.pairwise_map] at this
    · obtain ⟨e, he, rfl⟩ := List.mem_map.mp hx
      rcases List.mem_append.mp he with he | he
      · rcases List.mem_append.mp he with he | he
        · exact in_allK3 (k1 e (m1 he)).2
        · exact in_allK3 (k2 e (m2 he)).2
      · exact in_allK3 (k3 e (m3 he)).2
  · refine g e ?_
    rcases List.mem_append.mp he with he | he
    · rcases List.mem_append.mp he with he | he
      · exact List.mem_append.mpr (.inl (List.mem_append.mpr (.inl (m1 he))))
      · exact List.mem_append.mpr (.inl (List.mem_append.mpr (.inr (m2 he))))
    · exact List.mem_append.mpr (.inr (m3 he))
/-- the table that is best told -/
def bestT (L : List Nat) (P : List Pair) (G H : List (List Nat)) : Tab :=
  { lefts := G, rights := H, gaps := gapsZ (gb0 P) G H, exc := srtE L (F1 P (Rb P) (Cb P) (gb0 P) G H) ++ srtE L (F2 (Rb P) G H) ++ srtE L (F3 (Cb P) G H) }
section
variable {L : List Nat} {P : List Pair} {G H : List (List Nat)}
theorem most_in9 {vs : List Int} (h : vs ≠ []) (g9 : ∀ v ∈ vs, gapB v) : gapB (mostV vs) := g9 _ (mostV_is h).mem
theorem colC_some {vs : List Int} {g v : Int} (h : (colC vs g).2 = some v) : vs ≠ [] ∧ v = mostV vs := by
  unfold colC at h
  split at h
  · cases h
  · rename_i h0
    split at h
    · exact ⟨h0, (Option.some.inj h).symm⟩
    · cases h
theorem best_in (hG : IsPart L G) (hH : IsPart L H) (nd : L.Nodup) (ok : ∀ g ∈ G, ∀ h ∈ H, OkB (blkM P g h) h.length) (g9 : ∀ a b, gapB (gapIn P a b)) : TabIn L (bestT L P G H) := by
  have nG : G.flatten.Nodup := hG.perm.nodup_iff.mpr nd
  have nH : H.flatten.Nodup := hH.perm.nodup_iff.mpr nd
  have hpos : ∀ {q : Blk}, q ∈ H.zipIdx → 0 < q.1.length := fun hq => List.length_pos_iff.mpr (hH.ne _ (blk_in hq))
  have fl : ∀ {g h : List Nat} {v : Int}, v ∈ (blkM P g h).flatten → gapB v := fun hv => by
    obtain ⟨r, hr, hv⟩ := List.mem_flatten.mp hv
    obtain ⟨a, _, rfl⟩ := List.mem_map.mp hr
    obtain ⟨b, _, rfl⟩ := List.mem_map.mp hv
    exact g9 a b
  have idx : ∀ {G : List (List Nat)} {p : Blk}, p ∈ G.zipIdx → p.2 < G.length := fun hp => by
    have := List.mem_zipIdx hp
    omega
  refine ⟨⟨hG, hH, by simp [bestT, gapsZ], fun r hr => ?_, fun r hr x hx => ?_⟩, ?_⟩
  · obtain ⟨p, _, rfl⟩ := List.mem_map.mp hr
    simp [bestT]
  · obtain ⟨p, hp, rfl⟩ := List.mem_map.mp hr
    obtain ⟨q, hq, rfl⟩ := List.mem_map.mp hx
    exact fl (best_form (in_nodup nG hp) (ok _ (blk_in hp) _ (blk_in hq)) (hpos hq)).2
  · refine ex_three nd (F1_nodup nG nH) (F2_nodup nG nH) (F3_nodup nG nH) (fun e he => ?_) (fun e he => ?_) (fun e he => ?_) (fun e he => ?_)
    · obtain ⟨p, hp, q, hq, a, ha, b, hb, n, rfl⟩ := mem_F1.mp he
      exact ⟨rfl, .ll (hG.mem _ (blk_in hp) a ha) (hH.mem _ (blk_in hq) b hb)⟩
    · obtain ⟨p, hp, q, hq, a, ha, v, hv, rfl⟩ := mem_F2.mp he
      exact ⟨rfl, .ln (hG.mem _ (blk_in hp) a ha) (idx hq)⟩
    · obtain ⟨p, hp, q, hq, a, ha, v, hv, rfl⟩ := mem_F3.mp he
      exact ⟨rfl, .nl (idx hp) (hH.mem _ (blk_in hq) a ha)⟩
    · rcases List.mem_append.mp he with he | he
      · rcases List.mem_append.mp he with he | he
        · obtain ⟨p, hp, q, hq, a, ha, b, hb, n, rfl⟩ := mem_F1.mp he
          exact g9 a b
        · obtain ⟨p, hp, q, hq, a, ha, v, hv, rfl⟩ := mem_F2.mp he
          unfold Rb roF at hv
          split at hv
          · cases hv
            refine most_in9 (fun e => ?_) fun v hv => ?_
            · have h1 := congrArg List.length e
              have h2 := hpos hq
              simp [rowV] at h1
              rw [h1] at h2
              simp at h2
            · obtain ⟨b, _, rfl⟩ := List.mem_map.mp hv
              exact g9 a b
          · cases hv
      · obtain ⟨p, hp, q, hq, a, ha, v, hv, rfl⟩ := mem_F3.mp he
        obtain ⟨h0, rfl⟩ := colC_some hv
        refine most_in9 h0 fun v hv => ?_
        obtain ⟨b, _, rfl⟩ := List.mem_map.mp hv
        exact g9 b a
end
end DV

set_option maxHeartbeats 4000000
namespace DV
open PySem
/-! The walks of told_ones and best_told. -/
/-- S, then lists that are changed, then whatever -/
structure Ls (S T : Sto) (xs : List (List PyData)) : Prop where
  le : S.length + xs.length ≤ T.length
  low : ∀ j, j < S.length → T[j]? = S[j]?
  at_ : ∀ i ds, xs[i]? = some ds → T[S.length + i]? = some (.lst (ds.map .py))
theorem Ls.new (S : Sto) (xs : List (List PyData)) : Ls S (S ++ xs.map fun ds => O.lst (ds.map D.py)) xs := by
  refine ⟨by simp, fun j hj => List.getElem?_append_left hj, fun i ds h => ?_⟩
  rw [List.getElem?_append_right (by omega), List.getElem?_map, show S.length + i - S.length = i by omega, h]
  rfl
theorem Ls.lk {S T : Sto} {xs : List (List PyData)} (h : Ls S T xs) (i : Nat) {ds : List PyData} (hi : xs[i]? = some ds) : lsOk T (.obj (S.length + i)) = true := lsOk_obj (h.at_ i ds hi)
theorem Ls.put {S T : Sto} {xs : List (List PyData)} (h : Ls S T xs) (i : Nat) (hi : i < xs.length) (ds : List PyData) : Ls S (T.set (S.length + i) (.lst (ds.map .py))) (xs.set i ds) := by
  have hl := h.le
  refine ⟨by simpa using hl, fun j hj => ?_, fun k es hk => ?_⟩
  · rw [List.getElem?_set_ne (by omega)]
    exact h.low j hj
  · by_cases e : i = k
    · subst e
      rw [List.getElem?_set_self hi] at hk
      cases hk
      rw [List.getElem?_set_self (by omega)]
    · rw [List.getElem?_set_ne e] at hk
      rw [List.getElem?_set_ne (by omega)]
      exact h.at_ k es hk
theorem Ls.app {S T : Sto} {xs : List (List PyData)} (h : Ls S T xs) (i : Nat) {ds : List PyData} (hi : xs[i]? = some ds) (hz : ds.length < sizeLine) (d : PyData) :
    appendD (.obj (S.length + i)) [.py d] T = .ok (.py .none) (T.set (S.length + i) (.lst ((ds ++ [d]).map .py))) := by
  have := h.at_ i ds hi
  simp only [appendD, this]
  rw [if_pos (by simpa using hz), List.map_append]
  rfl
theorem Ls.ext {S T : Sto} {xs : List (List PyData)} (h : Ls S T xs) (i : Nat) {ds : List PyData} (hi : xs[i]? = some ds) (es : List PyData) (hz : ds.length + es.length ≤ sizeLine) :
    extendD (.obj (S.length + i)) [.py (.list es)] T = .ok (.py .none) (T.set (S.length + i) (.lst ((ds ++ es).map .py))) := by
  have := h.at_ i ds hi
  simp only [extendD, this]
  rw [if_pos (by simpa using hz), List.map_append]
theorem Ls.push {S T : Sto} {xs : List (List PyData)} (h : Ls S T xs) (o : O) : Ls S (T ++ [o]) xs := by
  have hl := h.le
  refine ⟨by simp; omega, fun j hj => ?_, fun k es hk => ?_⟩
  · rw [List.getElem?_append_left (by omega)]
    exact h.low j hj
  · have hk' := (List.getElem?_eq_some_iff.mp hk).1
    rw [List.getElem?_append_left (by omega)]
    exact h.at_ k es hk
theorem Ls.over {S T : Sto} {xs : List (List PyData)} (h : Ls S T xs) {m : Nat} (hm : S.length + xs.length ≤ m) (o : O) : Ls S (T.set m o) xs := by
  have hl := h.le
  refine ⟨by simpa using hl, fun j hj => ?_, fun k es hk => ?_⟩
  · rw [List.getElem?_set_ne (by omega)]
    exact h.low j hj
  · have hk' := (List.getElem?_eq_some_iff.mp hk).1
    rw [List.getElem?_set_ne (by omega)]
    exact h.at_ k es hk
theorem Ls.cut {S T : Sto} {xs : List (List PyData)} (h : Ls S T xs) : Cut S T S := Cut.low (by have := h.le; omega) h.low
theorem Ls.tab {S T : Sto} {xs : List (List PyData)} (h : Ls S T xs) {p : Nat} {q : Str} (ht : tabIn p q S) : tabIn p q T := by
  obtain ⟨i, hi⟩ := ht
  exact ⟨i, by rw [h.low i (List.getElem?_eq_some_iff.mp hi).1]; exact hi⟩
theorem sing_snoc (P : List Pair) (R C : Nat → Option Int) (g0 : Int) (pre h : List Nat) (a : Nat) : singO P R C g0 (pre ++ [a]) h = singO P R C g0 pre h ++ h.filterMap fun b => sgO P R C g0 a b := by simp [singO]
theorem fm_snoc {α β : Type} (f : α → Option β) (pre : List α) (b : α) : (pre ++ [b]).filterMap f = pre.filterMap f ++ (f b).toList := by
  rw [List.filterMap_append]
  cases h : f b <;> simp [h]
theorem row_snoc (R : Nat → Option Int) (pre : List Nat) (a j : Nat) : rowO R (pre ++ [a]) j = rowO R pre j ++ ((R a).map fun v => (Ky.l a, Ky.n j, v)).toList := by
  unfold rowO
  exact fm_snoc _ _ _
theorem col_snoc (C : Nat → Option Int) (pre : List Nat) (b i : Nat) : colO C (pre ++ [b]) i = colO C pre i ++ ((C b).map fun v => (Ky.n i, Ky.l b, v)).toList := by
  unfold colO
  exact fm_snoc _ _ _
theorem sing_len (P : List Pair) (R C : Nat → Option Int) (g0 : Int) (g h : List Nat) : (singO P R C g0 g h).length ≤ g.length * h.length := by
  unfold singO
  exact flat_len _ h.length g fun a _ => List.length_filterMap_le _ _
abbrev toldZ (R C : Nat → Option Int) (tot g0 : Int) (g h : List Nat) : PyData := .tuple [.int tot, .int g0, .list (g.map fun a => optI (R a)), .list (h.map fun b => optI (C b))]
theorem sz_ok {n : Nat} (h : n ≤ 10000) : n < sizeLine := by rw [show sizeLine = 16777216 from rfl]; omega
theorem ones_loop {P : List Pair} {R C : Nat → Option Int} {g0 : Int} {a : Nat} {h : List Nat} {A : List Exc} {B D' : List PyData} {S T : Sto} {s1 s2 s3 s4 s5 s7 s8 s10 s11 s14 s15 s16 : Option D} {N : K} {o : Option Int} (hR : R a = o)
    (hL : Ls S T [A.map encE, B, D']) (hz : A.length + h.length ≤ 1000)
    (q : ∀ x y z T', Ls S T' [(A ++ h.filterMap fun b => sgO P R C g0 a b).map encE, B, D'] → N.nx [some (.py (encP P)), s1, s2, s3, s4, s5, some (.py (.int g0)), s7, s8, some (.obj (S.length + 0)), s10, s11, some (.py (lt a)), some (.py (optI o)), x, y, z] T') :
    (forL (tupG 2 (consG (nmG 14) (consG (nmG 15) nilG)))
      (seqS (asgS (varE 13) (nmG 16)) (seqS (ifS (valT (opE isND (varE 13) (cE PyData.none))) (asgS (ifE (valT (opE isND (varE 15) (cE PyData.none))) (varE 6) (varE 15)) (nmG 16)) passS)
        (ifS (valT (opE neD (callE F_gap_in (consA (varE 0) (consA (varE 12) (consA (varE 14) nilA)))) (varE 16)))
          (exprS (methL appendD (varE 9) (consA (tupE (consA (varE 12) (consA (varE 14) (consA (callE F_gap_in (consA (varE 0) (consA (varE 12) (consA (varE 14) nilA)))) nilA)))) nilA))) passS)))
      (h.map fun b => D.py (.tuple [lt b, optI (C b)])) [some (.py (encP P)), s1, s2, s3, s4, s5, some (.py (.int g0)), s7, s8, some (.obj (S.length + 0)), s10, s11, some (.py (lt a)), some (.py (optI o)), s14, s15, s16] T).wp N := by
  have gi := fun l r T => gap_in_eq P l r T
  have yn : ∀ T, isND (.py .none) (.py .none) T = .ok (.py (.bool true)) T := fun T => rfl
  have yi : ∀ i T, isND (.py (.int i)) (.py .none) T = .ok (.py (.bool false)) T := fun i T => rfl
  have ne' : ∀ (x y : Int) T, neD (.py (.int x)) (.py (.int y)) T = .ok (.py (.bool (!decide (x = y)))) T := fun x y T => rfl
  refine wp_forM (fun b => D.py (.tuple [lt b, optI (C b)])) (fun pre σ T => wipeD σ [14, 15, 16] = [some (.py (encP P)), s1, s2, s3, s4, s5, some (.py (.int g0)), s7, s8, some (.obj (S.length + 0)), s10, s11, some (.py (lt a)), some (.py (optI o)), none, none, none] ∧ Ls S T [(A ++ pre.filterMap fun b => sgO P R C g0 a b).map encE, B, D']) ⟨rfl, by simpa using hL⟩ ?_ ?_
  · rintro pre b post σ T e ⟨hσ, hL⟩
    obtain ⟨v14, v15, v16, rfl⟩ := slot3 hσ
    clear hσ
    have hp : pre.length ≤ h.length := by
      have := congrArg List.length e
      simp at this
      omega
    have l1 : (pre.filterMap fun b => sgO P R C g0 a b).length ≤ pre.length := List.length_filterMap_le _ _
    have lk := hL.lk 0 rfl
    have ap := hL.app 0 rfl (by rw [List.length_map, List.length_append]; exact sz_ok (by omega)) (encE (.l a, .l b, gapIn P a b))
    have pt := hL.put 0 (Nat.zero_lt_succ _)
    rw [fm_snoc]
    generalize (pre.filterMap fun b => sgO P R C g0 a b) = X at *
    have fin : ∀ T', T' = T ∧ gapIn P a b = dueO (R a) (C b) g0 ∨ T' = T.set (S.length + 0) (.lst (((A ++ X).map encE ++ [encE (.l a, .l b, gapIn P a b)]).map D.py)) ∧ gapIn P a b ≠ dueO (R a) (C b) g0 → Ls S T' [(A ++ (X ++ (sgO P R C g0 a b).toList)).map encE, B, D'] := by
      rintro T' (⟨rfl, e1⟩ | ⟨rfl, e1⟩)
      · unfold sgO
        rw [if_pos e1]
        simpa using hL
      · unfold sgO
        rw [if_neg e1]
        have := pt ((A ++ X).map encE ++ [encE (.l a, .l b, gapIn P a b)])
        simpa using this
    rw [hR] at fin
    generalize C b = c at *
    have ee : encE (.l a, .l b, gapIn P a b) = .tuple [lt a, lt b, .int (gapIn P a b)] := rfl
    rw [ee] at ap
    have dec : gapIn P a b = dueO o c g0 ∨ gapIn P a b ≠ dueO o c g0 := Decidable.em _
    rcases dec with d | d
    · have f1 := fin T (.inl ⟨rfl, d⟩)
      cases o <;> cases c <;> simp only [dueO] at d <;> simp [optI, yn, yi, gi, ne', d, f1, -List.map_append, -Nat.add_zero]
    · have f1 := fin _ (.inr ⟨rfl, d⟩)
      cases o <;> cases c <;> simp only [dueO] at d <;> (simp [optI, yn, yi, gi, ne', d, pysOf, lk, ap, -List.map_append, -Nat.add_zero]; exact f1)
  · rintro σ T ⟨hσ, hL⟩
    obtain ⟨v14, v15, v16, rfl⟩ := slot3 hσ
    exact q _ _ _ _ hL
theorem told_ones_eq {P : List Pair} {R C : Nat → Option Int} {tot g0 : Int} {g h : List Nat} {i j : Nat} (hg : g.length ≤ 20) (hh : h.length ≤ 20) (S : Sto) :
    F_told_ones [.py (encP P), .py (tgl g), .py (tgl h), .py (.tuple [.int (i : Nat), .int (j : Nat)]), .py (toldZ R C tot g0 g h)] S = .ok (.py (.tuple [.list ((singO P R C g0 g h).map encE), .list ((rowO R g j).map encE), .list ((colO C h i).map encE)])) S := by
  have gi := fun l r T => gap_in_eq P l r T
  have o0 : optI none = .none := rfl
  have o1 : ∀ v, optI (some v) = .int v := fun v => rfl
  unfold F_told_ones b_told_ones
  refine fn_eq (wp_fn ?_)
  simp [init, -wp_forL_cons, -List.map_map]
  have zg : (g.zip g).map (fun p => D.py (.tuple [lt p.1, optI (R p.2)])) = g.map fun a => D.py (.tuple [lt a, optI (R a)]) := by
    have := zip_same id id g
    simp only [List.map_id] at this
    rw [this, List.map_map]
    rfl
  have zh : (h.zip h).map (fun p => D.py (.tuple [lt p.1, optI (C p.2)])) = h.map fun b => D.py (.tuple [lt b, optI (C b)]) := by
    have := zip_same id id h
    simp only [List.map_id] at this
    rw [this, List.map_map]
    rfl
  have sz : ∀ {n : Nat}, n ≤ 1000 → n < sizeLine := fun h => by rw [show sizeLine = 16777216 from rfl]; omega
  have nn : ∀ T, notND (.py .none) (.py .none) T = .ok (.py (.bool false)) T := fun T => rfl
  have ni : ∀ i T, notND (.py (.int i)) (.py .none) T = .ok (.py (.bool true)) T := fun i T => rfl
  have yn : ∀ T, isND (.py .none) (.py .none) T = .ok (.py (.bool true)) T := fun T => rfl
  have yi : ∀ i T, isND (.py (.int i)) (.py .none) T = .ok (.py (.bool false)) T := fun i T => rfl
  have it0 : ∀ T, itemD (.py (.tuple [.int (i : Nat), .int (j : Nat)])) (.py (.int 0)) T = .ok (.py (.int (i : Nat))) T := fun T => itemD_tuple 0 rfl
  have it1 : ∀ T, itemD (.py (.tuple [.int (i : Nat), .int (j : Nat)])) (.py (.int 1)) T = .ok (.py (.int (j : Nat))) T := fun T => itemD_tuple 1 rfl
  have ne' : ∀ (x y : Int) T, neD (.py (.int x)) (.py (.int y)) T = .ok (.py (.bool (!decide (x = y)))) T := fun x y T => rfl
  have e9 : D.obj S.length = D.obj (S.length + 0) := rfl
  rw [zg]
  refine wp_forM (fun a => D.py (.tuple [lt a, optI (R a)])) (fun pre σ T => wipeD σ [12, 13, 14, 15, 16] = [some (D.py (encP P)), some (D.py (tgl g)), some (D.py (tgl h)), some (D.py (.tuple [.int (i : Nat), .int (j : Nat)])), some (D.py (toldZ R C tot g0 g h)), some (D.py (.int tot)), some (D.py (.int g0)), some (D.py (.list (g.map fun a => optI (R a)))), some (D.py (.list (h.map fun b => optI (C b)))), some (D.obj (S.length + 0)), some (D.obj (S.length + 1)), some (D.obj (S.length + 2)), none, none, none, none, none] ∧ Ls S T [(singO P R C g0 pre h).map encE, (rowO R pre j).map encE, []]) ⟨rfl, Ls.new S [[], [], []]⟩ ?_ ?_
  · rintro pre a post σ T e ⟨hσ, hL⟩
    obtain ⟨v12, v13, v14, v15, v16, rfl⟩ := slot5 hσ
    clear hσ
    have hp : pre.length < g.length := by
      have := congrArg List.length e
      simp at this
      omega
    have l1 : (singO P R C g0 pre h).length ≤ 400 := Nat.le_trans (sing_len ..) (Nat.le_trans (Nat.mul_le_mul (Nat.le_of_lt hp) (Nat.le_refl _)) (Nat.mul_le_mul hg hh))
    have l2 : (rowO R pre j).length ≤ 20 := Nat.le_trans (List.length_filterMap_le _ _) (by omega)
    have lk1 := hL.lk 1 rfl
    have ap1 := hL.app 1 rfl (by rw [List.length_map]; exact sz_ok (by omega))
    have pt1 := hL.put 1 (by simp)
    rw [sing_snoc, row_snoc]
    generalize singO P R C g0 pre h = A at *
    generalize rowO R pre j = B at *
    cases hR : R a with
    | none =>
      simp [o0, o1, nn, -wp_forL_cons, -List.map_append, -Nat.add_zero]
      rw [zh]
      refine ones_loop (P := P) (R := R) (C := C) (g0 := g0) (a := a) (h := h) (A := A) (B := B.map encE) (D' := []) (S := S) (T := T) hR hL (by omega) fun x y z T' h' => ⟨rfl, ?_⟩
      simpa using h'
    | some v =>
      have p1 := pt1 (B.map encE ++ [encE (.l a, .n j, v)])
      have a1 := ap1 (encE (.l a, .n j, v))
      rw [show encE (.l a, .n j, v) = .tuple [lt a, .int (j : Nat), .int v] from rfl] at a1 p1
      simp [o0, o1, ni, it1, pysOf, lk1, a1, -wp_forL_cons, -List.map_append, -Nat.add_zero]
      rw [zh]
      have e2 : (B ++ (Option.map (fun v => (Ky.l a, Ky.n j, v)) (some v)).toList).map encE = B.map encE ++ [.tuple [lt a, .int (j : Nat), .int v]] := by
        rw [List.map_append]
        rfl
      have p2 : Ls S _ [A.map encE, B.map encE ++ [.tuple [lt a, .int (j : Nat), .int v]], []] := p1
      refine ones_loop (P := P) (R := R) (C := C) (g0 := g0) (a := a) (h := h) (A := A) (S := S) hR p2 (by omega) fun x y z T' h' => ⟨rfl, ?_⟩
      rw [← e2] at h'
      exact h'
  · rintro σ T ⟨hσ, hL⟩
    obtain ⟨v12, v13, v14, v15, v16, rfl⟩ := slot5 hσ
    clear hσ
    simp [-wp_forL_cons, -List.map_append, -Nat.add_zero]
    rw [zh]
    refine wp_forM (fun b => D.py (.tuple [lt b, optI (C b)])) (fun pre σ T => wipeD σ [14, 15] = [some (D.py (encP P)), some (D.py (tgl g)), some (D.py (tgl h)), some (D.py (.tuple [.int (i : Nat), .int (j : Nat)])), some (D.py (toldZ R C tot g0 g h)), some (D.py (.int tot)), some (D.py (.int g0)), some (D.py (.list (g.map fun a => optI (R a)))), some (D.py (.list (h.map fun b => optI (C b)))), some (D.obj (S.length + 0)), some (D.obj (S.length + 1)), some (D.obj (S.length + 2)), v12, v13, none, none, v16] ∧ Ls S T [(singO P R C g0 g h).map encE, (rowO R g j).map encE, (colO C pre i).map encE]) ⟨rfl, hL⟩ ?_ ?_
    · rintro pre b post σ T e ⟨hσ, hL⟩
      obtain ⟨v14, v15, rfl⟩ := slot2 hσ
      clear hσ
      have hp : pre.length < h.length := by
        have := congrArg List.length e
        simp at this
        omega
      have l2 : (colO C pre i).length ≤ 20 := Nat.le_trans (List.length_filterMap_le _ _) (by omega)
      have lk1 := hL.lk 2 rfl
      have ap1 := hL.app 2 rfl (by rw [List.length_map]; exact sz_ok (by omega))
      have pt1 := hL.put 2 (by simp)
      rw [col_snoc]
      generalize colO C pre i = B at *
      cases hC : C b with
      | none =>
        simp [o0, o1, nn, -List.map_append, -Nat.add_zero]
        simpa using hL
      | some v =>
        have p1 := pt1 (B.map encE ++ [encE (.n i, .l b, v)])
        have a1 := ap1 (encE (.n i, .l b, v))
        rw [show encE (.n i, .l b, v) = .tuple [.int (i : Nat), lt b, .int v] from rfl] at a1 p1
        simp [o0, o1, ni, it0, pysOf, lk1, a1, -List.map_append, -Nat.add_zero]
        have e2 : (B ++ [(Ky.n i, Ky.l b, v)]).map encE = B.map encE ++ [.tuple [.int (i : Nat), lt b, .int v]] := by
          rw [List.map_append]
          rfl
        rw [e2]
        exact p1
    · rintro σ T ⟨hσ, hL⟩
      obtain ⟨v14, v15, rfl⟩ := slot2 hσ
      clear hσ
      have f0 := hL.at_ 0 _ rfl
      have f1 := hL.at_ 1 _ rfl
      have f2 := hL.at_ 2 _ rfl
      refine fix_own (m := S.length + 0) (ds := (singO P R C g0 g h).map encE) rfl f0 ?_
      refine fix_own (m := S.length + 1) (ds := (rowO R g j).map encE) rfl (by rw [List.getElem?_set_ne (by omega)]; exact f1) ?_
      refine fix_own (m := S.length + 2) (ds := (colO C h i).map encE) rfl (by rw [List.getElem?_set_ne (by omega), List.getElem?_set_ne (by omega)]; exact f2) ?_
      simp [pysOf, -Nat.add_zero]
      have hle := hL.le
      refine ⟨Cut.low (by simp at hle ⊢; omega) fun k hk => ?_, by first | rfl | exact ⟨rfl, rfl⟩⟩
      rw [List.getElem?_set_ne (by omega), List.getElem?_set_ne (by omega), List.getElem?_set_ne (by omega)]
      exact hL.low k hk
end DV

set_option maxHeartbeats 4000000
namespace DV
open PySem
theorem set_told {P : List Pair} {g h : List Nat} : setZ (zOf P g h (ownF P g h)) h.length (gpF P g h) = toldZ (roF P g h) (coF P g h) (totZ (zOf P g h (ownF P g h)) h.length (gpF P g h)) (gpF P g h) g h := by
  have hn : (fun a => (roF P g h a).isNone) = fun a => !ownF P g h a := by funext a; exact roF_none P g h a
  have e1 : ((zOf P g h (ownF P g h)).map fun z => optI (rgZ z)) = g.map fun a => optI (roF P g h a) := by
    unfold zOf
    rw [List.map_map]
    rfl
  have e2 : ((List.range h.length).map fun k => optI (colC (colZ (zOf P g h (ownF P g h)) k) (gpF P g h)).2) = h.map fun b => optI (coF P g h b) := by
    refine List.ext_getElem (by simp) fun i h1 h2 => ?_
    simp at h1 h2
    have ec : coF P g h h[i] = (colC ((g.filter fun a => !ownF P g h a).map fun a => gapIn P a h[i]) (gpF P g h)).2 := by
      unfold coF colR
      rw [hn]
    rw [List.getElem_map, List.getElem_map, List.getElem_range, col_own h2]
    exact congrArg optI ec.symm
  unfold setZ
  rw [e1, e2]
structure Lm (S T : Sto) (xs : List (List PyData)) (m : Nat) (l : List PyData) : Prop where
  ls : Ls S T xs
  hm : S.length + xs.length ≤ m
  at_ : T[m]? = some (.lst (l.map .py))
theorem Lm.put {S T : Sto} {xs : List (List PyData)} {m : Nat} {l : List PyData} (h : Lm S T xs m l) (i : Nat) (hi : i < xs.length) (ds : List PyData) : Lm S (T.set (S.length + i) (.lst (ds.map .py))) (xs.set i ds) m l :=
  ⟨h.ls.put i hi ds, by rw [List.length_set]; exact h.hm, by rw [List.getElem?_set_ne (by have := h.hm; omega)]; exact h.at_⟩
theorem Lm.app {S T : Sto} {xs : List (List PyData)} {m : Nat} {l : List PyData} (h : Lm S T xs m l) (hz : l.length < sizeLine) (d : PyData) : appendD (.obj m) [.py d] T = .ok (.py .none) (T.set m (.lst ((l ++ [d]).map .py))) ∧ Lm S (T.set m (.lst ((l ++ [d]).map .py))) xs m (l ++ [d]) := by
  refine ⟨?_, h.ls.over h.hm _, h.hm, ?_⟩
  · simp only [appendD, h.at_]
    rw [if_pos (by simpa using hz), List.map_append]
    rfl
  · rw [List.getElem?_set_self (List.getElem?_eq_some_iff.mp h.at_).1]
theorem Lm.lk {S T : Sto} {xs : List (List PyData)} {m : Nat} {l : List PyData} (h : Lm S T xs m l) : lsOk T (.obj m) = true := lsOk_obj h.at_
theorem flatB {α β : Type} {u : α → List β} {m n : Nat} {l : List α} (h : ∀ x ∈ l, (u x).length ≤ m) (hl : l.length ≤ n) : (l.flatMap u).length ≤ n * m := Nat.le_trans (flat_len u m l h) (Nat.mul_le_mul hl (Nat.le_refl _))
abbrev x1 (P : List Pair) (p q : Blk) : List Exc := singO P (roF P p.1 q.1) (coF P p.1 q.1) (gpF P p.1 q.1) p.1 q.1
abbrev x2 (P : List Pair) (p q : Blk) : List Exc := rowO (roF P p.1 q.1) p.1 q.2
abbrev x3 (P : List Pair) (p q : Blk) : List Exc := colO (coF P p.1 q.1) q.1 p.2
theorem sortE_ok {p0 : Nat} {q : Str} {a kf : Ex} {σ : En} {S : Sto} {m : Nat} {L : List Nat} {F : List Exc} (ha : a σ S = .ok (.obj m) S) (hs : S[m]? = some (.lst ((F.map encE).map D.py))) (h4 : F.length ≤ 4000) (ht : tabIn p0 q S)
    (hk : ∀ e ∈ F, kf (σ ++ [some (.py (encE e))]) S = .ok (.py (kyE L e)) S) : sortKL p0 q a kf σ S = .ok (((srtE L F).map encE).map D.py) S := by
  have so := sortK_ok (P := p0) (q := q) (a := a) (kf := kf) (σ := σ) (S := S) (d := .obj m) (u := fun e : Exc => D.py (encE e)) (kk := kyE L) (xs := F) ha (by simp only [seqOf, hs, List.map_map]; rfl) rfl h4 ht hk (keys_okE L F)
  rw [by_keysE] at so
  rw [so, List.map_map]
  rfl
theorem F_few {L : List Nat} {nl nr : Nat} {F : List Exc} (n : (F.map kk).Nodup) (k : ∀ e ∈ F, KyIn L nl nr (kk e)) (hL : L.length ≤ 10) (h1 : nl ≤ 10) (h2 : nr ≤ 10) : F.length ≤ 300 := by
  have h := n.length_le_of_subset (l₂ := allK L nl nr) fun x hx => by
    obtain ⟨e, he, rfl⟩ := List.mem_map.mp hx
    exact in_allK3 (k e he)
  unfold allK at h
  simp only [List.length_append, cross_length, List.length_map, List.length_range] at h
  have q1 : L.length * L.length ≤ 10 * 10 := Nat.mul_le_mul hL hL
  have q2 : L.length * nr ≤ 10 * 10 := Nat.mul_le_mul hL h2
  have q3 : nl * L.length ≤ 10 * 10 := Nat.mul_le_mul h1 hL
  omega
theorem idx_lt {G : List (List Nat)} {p : Blk} (h : p ∈ G.zipIdx) : p.2 < G.length := by
  have := List.mem_zipIdx h
  omega
theorem best_told_eq {p0 : Nat} {f : Face} {P : List Pair} {G H : List (List Nat)} (hP : PG P) (pG : IsPart f.lets G) (pH : IsPart f.lets H) (nd : f.lets.Nodup) (b : ∀ c ∈ f.lets, c ≤ 122) (h1 : f.ls.length ≤ 10) (h6 : ∀ g ∈ G, g.length ≤ 6) (h0 : G ≠ [])
    {S : Sto} (ht : tabIn p0 "best_told.<locals>.<lambda>" S) :
    F_best_told p0 [.py f.py, .py (encP P), .py (encG G), .py (encG H)] S = .ok (.py (bestT f.lets P G H).py) S := by
  have np := need_partings_eq pG pH nd b (by omega) h6 h0
  have llen : f.lets.length = f.ls.length := by simp
  have nG : G.flatten.Nodup := pG.perm.nodup_iff.mpr nd
  have nH : H.flatten.Nodup := pH.perm.nodup_iff.mpr nd
  have lG := pG.len2
  have lH := pH.len2
  unfold F_best_told b_best_told
  refine fn_eq (wp_fn ?_)
  simp [init, np, -wp_forL_cons, -List.map_map]
  have xg : ∀ p ∈ G.zipIdx, p.1.length ≤ 10 ∧ 0 < p.1.length := fun p hp => ⟨by have := pG.len1 (blk_in hp); omega, List.length_pos_iff.mpr (pG.ne _ (blk_in hp))⟩
  have xh : ∀ q ∈ H.zipIdx, q.1.length ≤ 10 ∧ 0 < q.1.length := fun p hp => ⟨by have := pH.len1 (blk_in hp); omega, List.length_pos_iff.mpr (pH.ne _ (blk_in hp))⟩
  have b1 : ∀ p ∈ G.zipIdx, ∀ q ∈ H.zipIdx, (x1 P p q).length ≤ 100 := fun p hp q hq => Nat.le_trans (sing_len ..) (Nat.mul_le_mul (xg p hp).1 (xh q hq).1)
  have b2 : ∀ p ∈ G.zipIdx, ∀ q ∈ H.zipIdx, (x2 P p q).length ≤ 100 := fun p hp q hq => Nat.le_trans (List.length_filterMap_le _ _) (by have := (xg p hp).1; omega)
  have b3 : ∀ p ∈ G.zipIdx, ∀ q ∈ H.zipIdx, (x3 P p q).length ≤ 100 := fun p hp q hq => Nat.le_trans (List.length_filterMap_le _ _) (by have := (xh q hq).1; omega)
  refine wp_forM (fun p : Blk => D.py (.tuple [.int (p.2 : Nat), tgl p.1])) (fun pre σ T => wipeD σ [8, 9, 10, 11, 12, 13, 14] = [some (D.py f.py), some (D.py (encP P)), some (D.py (encG G)), some (D.py (encG H)), some (D.obj (S.length + 0)), some (D.obj (S.length + 1)), some (D.obj (S.length + 2)), some (D.obj (S.length + 3)), none, none, none, none, none, none, none] ∧
    Ls S T [(pre.map fun p => H.zipIdx.map fun q => gpF P p.1 q.1).map tupI, (pre.flatMap fun p => H.zipIdx.flatMap (x1 P p)).map encE, (pre.flatMap fun p => H.zipIdx.flatMap (x2 P p)).map encE, (pre.flatMap fun p => H.zipIdx.flatMap (x3 P p)).map encE]) ⟨rfl, Ls.new S [[], [], [], []]⟩ ?_ ?_
  · rintro pre p post σ T e ⟨hσ, hL⟩
    obtain ⟨v8, v9, v10, v11, v12, v13, v14, rfl⟩ := slot7 hσ
    clear hσ
    have hp : p ∈ G.zipIdx := by rw [e]; simp
    have hpre : pre.length ≤ 10 ∧ ∀ x ∈ pre, x ∈ G.zipIdx := ⟨by
      have := congrArg List.length e
      simp at this
      omega, fun x hx => by rw [e]; simp [hx]⟩
    have lz : H.zipIdx.length ≤ 10 := by simp; omega
    have c1 : (pre.flatMap fun p => H.zipIdx.flatMap (x1 P p)).length ≤ 10 * (10 * 100) := flatB (fun x hx => flatB (fun q hq => b1 x (hpre.2 x hx) q hq) lz) hpre.1
    have c2 : (pre.flatMap fun p => H.zipIdx.flatMap (x2 P p)).length ≤ 10 * (10 * 100) := flatB (fun x hx => flatB (fun q hq => b2 x (hpre.2 x hx) q hq) lz) hpre.1
    have c3 : (pre.flatMap fun p => H.zipIdx.flatMap (x3 P p)).length ≤ 10 * (10 * 100) := flatB (fun x hx => flatB (fun q hq => b3 x (hpre.2 x hx) q hq) lz) hpre.1
    have lpre := hpre.1
    simp only [List.flatMap_append, List.flatMap_cons, List.flatMap_nil, List.append_nil]
    have gs : ((pre ++ [p]).map fun p => H.zipIdx.map fun q => gpF P p.1 q.1).map tupI = ((pre.map fun p => H.zipIdx.map fun q => gpF P p.1 q.1).map tupI) ++ [tupI (H.zipIdx.map fun q => gpF P p.1 q.1)] := by
      rw [List.map_append, List.map_append]
      rfl
    rw [gs]
    have lgs : ((pre.map fun p => H.zipIdx.map fun q => gpF P p.1 q.1).map tupI).length ≤ 10 := by simpa using hpre.1
    generalize ((pre.map fun p => H.zipIdx.map fun q => gpF P p.1 q.1).map tupI) = Gs at *
    generalize (pre.flatMap fun p => H.zipIdx.flatMap (x1 P p)) = A1 at *
    generalize (pre.flatMap fun p => H.zipIdx.flatMap (x2 P p)) = A2 at *
    generalize (pre.flatMap fun p => H.zipIdx.flatMap (x3 P p)) = A3 at *
    simp [-wp_forL_cons, -List.map_append, -Nat.add_zero]
    have hM : Lm S (T ++ [O.lst []]) [Gs, A1.map encE, A2.map encE, A3.map encE] T.length [] := ⟨hL.push _, hL.le, by simp⟩
    refine wp_forM (fun q : Blk => D.py (.tuple [.int (q.2 : Nat), tgl q.1])) (fun pre2 σ T' => wipeD σ [11, 12, 13, 14] = [some (D.py f.py), some (D.py (encP P)), some (D.py (encG G)), some (D.py (encG H)), some (D.obj (S.length + 0)), some (D.obj (S.length + 1)), some (D.obj (S.length + 2)), some (D.obj (S.length + 3)), some (D.py (.int (p.2 : Nat))), some (D.py (tgl p.1)), some (D.obj T.length), none, none, none, none] ∧
      Lm S T' [Gs, (A1 ++ pre2.flatMap (x1 P p)).map encE, (A2 ++ pre2.flatMap (x2 P p)).map encE, (A3 ++ pre2.flatMap (x3 P p)).map encE] T.length ((pre2.map fun q => gpF P p.1 q.1).map .int)) ⟨rfl, by simpa using hM⟩ ?_ ?_
    · rintro pre2 q post2 σ T' e2 ⟨hσ, hM⟩
      obtain ⟨v11, v12, v13, v14, rfl⟩ := slot4 hσ
      clear hσ
      have hq : q ∈ H.zipIdx := by rw [e2]; simp
      have hpre2 : pre2.length ≤ 10 ∧ ∀ x ∈ pre2, x ∈ H.zipIdx := ⟨by
        have := congrArg List.length e2
        simp at this
        omega, fun x hx => by rw [e2]; simp [hx]⟩
      have d1 : (pre2.flatMap (x1 P p)).length ≤ 10 * 100 := flatB (fun x hx => b1 p hp x (hpre2.2 x hx)) hpre2.1
      have d2 : (pre2.flatMap (x2 P p)).length ≤ 10 * 100 := flatB (fun x hx => b2 p hp x (hpre2.2 x hx)) hpre2.1
      have d3 : (pre2.flatMap (x3 P p)).length ≤ 10 * 100 := flatB (fun x hx => b3 p hp x (hpre2.2 x hx)) hpre2.1
      have lpre2 := hpre2.1
      simp only [List.flatMap_append, List.flatMap_cons, List.flatMap_nil, List.append_nil]
      have ls : ((pre2 ++ [q]).map fun q => gpF P p.1 q.1).map PyData.int = ((pre2.map fun q => gpF P p.1 q.1).map PyData.int) ++ [.int (gpF P p.1 q.1)] := by
        rw [List.map_append, List.map_append]
        rfl
      rw [ls]
      have lls : ((pre2.map fun q => gpF P p.1 q.1).map PyData.int).length ≤ 10 := by simpa using hpre2.1
      generalize ((pre2.map fun q => gpF P p.1 q.1).map PyData.int) = W at *
      have g6 := h6 _ (blk_in hp)
      have ok := blk_ok hP (g := p.1) (h := q.1) ⟨(xg p hp).2, g6⟩ ⟨(xh q hq).2, (xh q hq).1⟩
      have bo := fun T => block_of_eq P p.1 q.1 T
      have bb := fun T => best_block_eq ok ⟨(xh q hq).2, by have := (xh q hq).1; omega⟩ T
      obtain ⟨bf, _⟩ := best_form (in_nodup nG hp) ok (xh q hq).2
      rw [bf] at bb
      have bb' : ∀ T, F_best_block [.py (encB2 (blkM P p.1 q.1))] T = .ok (.py (toldZ (roF P p.1 q.1) (coF P p.1 q.1) (totZ (zOf P p.1 q.1 (ownF P p.1 q.1)) q.1.length (gpF P p.1 q.1)) (gpF P p.1 q.1) p.1 q.1)) T := fun T => by
        rw [bb T]
        simp only [encZ]
        rw [set_told]
      have to := fun T => told_ones_eq (P := P) (R := roF P p.1 q.1) (C := coF P p.1 q.1) (tot := totZ (zOf P p.1 q.1 (ownF P p.1 q.1)) q.1.length (gpF P p.1 q.1)) (g0 := gpF P p.1 q.1) (g := p.1) (h := q.1) (i := p.2) (j := q.2) (by have := (xg p hp).1; omega) (by have := (xh q hq).1; omega) T
      have it1 : ∀ (a : Int) (b : Int) (c d : PyData) T, itemD (.py (.tuple [.int a, .int b, c, d])) (.py (.int 1)) T = .ok (.py (.int b)) T := fun a b c d T => itemD_tuple 1 rfl
      have j0 : ∀ (a b c : PyData) T, itemD (.py (.tuple [a, b, c])) (.py (.int 0)) T = .ok (.py a) T := fun a b c T => itemD_tuple 0 rfl
      have j1 : ∀ (a b c : PyData) T, itemD (.py (.tuple [a, b, c])) (.py (.int 1)) T = .ok (.py b) T := fun a b c T => itemD_tuple 1 rfl
      have j2 : ∀ (a b c : PyData) T, itemD (.py (.tuple [a, b, c])) (.py (.int 2)) T = .ok (.py c) T := fun a b c T => itemD_tuple 2 rfl
      have y1 := b1 p hp q hq
      have y2 := b2 p hp q hq
      have y3 := b3 p hp q hq
      have z1 : singO P (roF P p.1 q.1) (coF P p.1 q.1) (gpF P p.1 q.1) p.1 q.1 = x1 P p q := rfl
      have z2 : rowO (roF P p.1 q.1) p.1 q.2 = x2 P p q := rfl
      have z3 : colO (coF P p.1 q.1) q.1 p.2 = x3 P p q := rfl
      rw [z1, z2, z3] at to
      generalize x1 P p q = B1 at *
      generalize x2 P p q = B2 at *
      generalize x3 P p q = B3 at *
      generalize pre2.flatMap (x1 P p) = D1 at *
      generalize pre2.flatMap (x2 P p) = D2 at *
      generalize pre2.flatMap (x3 P p) = D3 at *
      have lk := hM.lk
      obtain ⟨ap, hM1⟩ := hM.app (sz_ok (by omega)) (.int (gpF P p.1 q.1))
      have k1 := hM1.ls.lk 1 rfl
      have E1 := hM1.ls.ext 1 rfl (B1.map encE) (by rw [show sizeLine = 16777216 from rfl]; simp; omega)
      have hM2 := hM1.put 1 (by simp) ((A1 ++ D1).map encE ++ B1.map encE)
      have k2 := hM2.ls.lk 2 rfl
      have E2 := hM2.ls.ext 2 rfl (B2.map encE) (by rw [show sizeLine = 16777216 from rfl]; simp; omega)
      have hM3 := hM2.put 2 (by simp) ((A2 ++ D2).map encE ++ B2.map encE)
      have k3 := hM3.ls.lk 3 rfl
      have E3 := hM3.ls.ext 3 rfl (B3.map encE) (by rw [show sizeLine = 16777216 from rfl]; simp; omega)
      have hM4 := hM3.put 3 (by simp) ((A3 ++ D3).map encE ++ B3.map encE)
      simp [bo, bb', to, it1, j0, j1, j2, lk, ap, k1, E1, k2, E2, k3, E3, pysOf, -List.map_append, -Nat.add_zero]
      have m1 : ∀ X Y Z : List Exc, (X ++ Y).map encE ++ Z.map encE = (X ++ (Y ++ Z)).map encE := fun X Y Z => by rw [← List.append_assoc, List.map_append (l₁ := X ++ Y)]
      rw [← m1, ← m1, ← m1]
      exact hM4
    · rintro σ T' ⟨hσ, hM⟩
      obtain ⟨v11, v12, v13, v14, rfl⟩ := slot4 hσ
      clear hσ
      have at_m := hM.at_
      have tu : tupleD [.obj T.length] T' = .ok (.py (tupI (H.zipIdx.map fun q => gpF P p.1 q.1))) T' := tupleD_obj at_m
      have lk := hM.ls.lk 0 rfl
      have ap := hM.ls.app 0 rfl (sz_ok (by omega)) (tupI (H.zipIdx.map fun q => gpF P p.1 q.1))
      have pt := hM.ls.put 0 (by simp) (Gs ++ [tupI (H.zipIdx.map fun q => gpF P p.1 q.1)])
      simp [tu, lk, ap, -List.map_append, -Nat.add_zero]
      exact pt
  · rintro σ T ⟨hσ, hL⟩
    obtain ⟨v8, v9, v10, v11, v12, v13, v14, rfl⟩ := slot7 hσ
    clear hσ
    have lz : H.zipIdx.length ≤ 10 := by simp; omega
    have lzG : G.zipIdx.length ≤ 10 := by simp; omega
    have c1 : (G.zipIdx.flatMap fun p => H.zipIdx.flatMap (x1 P p)).length ≤ 10 * (10 * 100) := flatB (fun x hx => flatB (fun q hq => b1 x hx q hq) lz) lzG
    have c2 : (G.zipIdx.flatMap fun p => H.zipIdx.flatMap (x2 P p)).length ≤ 10 * (10 * 100) := flatB (fun x hx => flatB (fun q hq => b2 x hx q hq) lz) lzG
    have c3 : (G.zipIdx.flatMap fun p => H.zipIdx.flatMap (x3 P p)).length ≤ 10 * (10 * 100) := flatB (fun x hx => flatB (fun q hq => b3 x hx q hq) lz) lzG
    have w1 : (G.zipIdx.flatMap fun p => H.zipIdx.flatMap (x1 P p)) = F1 P (Rb P) (Cb P) (gb0 P) G H := rfl
    have w2 : (G.zipIdx.flatMap fun p => H.zipIdx.flatMap (x2 P p)) = F2 (Rb P) G H := rfl
    have w3 : (G.zipIdx.flatMap fun p => H.zipIdx.flatMap (x3 P p)) = F3 (Cb P) G H := rfl
    have w0 : (G.zipIdx.map fun p => H.zipIdx.map fun q => gpF P p.1 q.1) = gapsZ (gb0 P) G H := rfl
    rw [w0, w1, w2, w3] at hL
    rw [w1] at c1
    rw [w2] at c2
    rw [w3] at c3
    have pl := fun (c : Nat) (hc : c ∈ f.lets) => place_mem hc
    have k0 : ∀ (e : Exc) T, itemD (.py (encE e)) (.py (.int 0)) T = .ok (.py (encK e.1)) T := fun e T => itemD_tuple 0 rfl
    have k1 : ∀ (e : Exc) T, itemD (.py (encE e)) (.py (.int 1)) T = .ok (.py (encK e.2.1)) T := fun e T => itemD_tuple 1 rfl
    have nS : (F1 P (Rb P) (Cb P) (gb0 P) G H).length ≤ 300 := F_few (L := f.lets) (nl := G.length) (nr := H.length) (F1_nodup nG nH) (fun e he => by
      obtain ⟨p, hp, q, hq, a, ha, b, hb, n, rfl⟩ := mem_F1.mp he
      exact .ll (pG.mem _ (blk_in hp) a ha) (pH.mem _ (blk_in hq) b hb)) (by omega) (by omega) (by omega)
    have nR : (F2 (Rb P) G H).length ≤ 300 := F_few (L := f.lets) (nl := G.length) (nr := H.length) (F2_nodup nG nH) (fun e he => by
      obtain ⟨p, hp, q, hq, a, ha, v, hv, rfl⟩ := mem_F2.mp he
      exact .ln (pG.mem _ (blk_in hp) a ha) (idx_lt hq)) (by omega) (by omega) (by omega)
    have nD : (F3 (Cb P) G H).length ≤ 300 := F_few (L := f.lets) (nl := G.length) (nr := H.length) (F3_nodup nG nH) (fun e he => by
      obtain ⟨p, hp, q, hq, a, ha, v, hv, rfl⟩ := mem_F3.mp he
      exact .nl (idx_lt hp) (pH.mem _ (blk_in hq) a ha)) (by omega) (by omega) (by omega)
    refine wp_of (sortE_ok (L := f.lets) (F := F1 P (Rb P) (Cb P) (gb0 P) G H) (m := S.length + 1) rfl (hL.at_ 1 _ rfl) (by omega) (hL.tab ht) fun e he => ?_) ?_
    · obtain ⟨p, hp, q, hq, a, ha, b, hb, n, rfl⟩ := mem_F1.mp he
      have p1 := pl a (pG.mem _ (blk_in hp) a ha)
      have p2 := pl b (pH.mem _ (blk_in hq) b hb)
      refine wp_eq ?_
      simp [k0, k1, p1, p2, pysOf, encK]
      rfl
    have hL1 := hL.push (.lst (((srtE f.lets (F1 P (Rb P) (Cb P) (gb0 P) G H)).map encE).map D.py))
    refine wp_of (sortE_ok (L := f.lets) (F := F2 (Rb P) G H) (m := S.length + 2) rfl (hL1.at_ 2 _ rfl) (by omega) (hL1.tab ht) fun e he => ?_) ?_
    · obtain ⟨p, hp, q, hq, a, ha, v, n, rfl⟩ := mem_F2.mp he
      have p1 := pl a (pG.mem _ (blk_in hp) a ha)
      refine wp_eq ?_
      simp [k0, k1, p1, pysOf, encK]
      rfl
    have hL2 := hL1.push (.lst (((srtE f.lets (F2 (Rb P) G H)).map encE).map D.py))
    refine wp_of (sortE_ok (L := f.lets) (F := F3 (Cb P) G H) (m := S.length + 3) rfl (hL2.at_ 3 _ rfl) (by omega) (hL2.tab ht) fun e he => ?_) ?_
    · obtain ⟨p, hp, q, hq, a, ha, v, n, rfl⟩ := mem_F3.mp he
      have p1 := pl a (pH.mem _ (blk_in hq) a ha)
      refine wp_eq ?_
      simp [k0, k1, p1, pysOf, encK]
      rfl
    have hL3 := hL2.push (.lst (((srtE f.lets (F3 (Cb P) G H)).map encE).map D.py))
    have e1 := (srtE_perm f.lets (F1 P (Rb P) (Cb P) (gb0 P) G H)).length_eq
    have e2 := (srtE_perm f.lets (F2 (Rb P) G H)).length_eq
    have e3 := (srtE_perm f.lets (F3 (Cb P) G H)).length_eq
    have eT : (bestT f.lets P G H).py = .tuple [encG G, encG H, encU (gapsZ (gb0 P) G H), .tuple ((srtE f.lets (F1 P (Rb P) (Cb P) (gb0 P) G H) ++ srtE f.lets (F2 (Rb P) G H) ++ srtE f.lets (F3 (Cb P) G H)).map encE)] := rfl
    have ad : ∀ (X Y : List Exc) T, X.length + Y.length ≤ 2000 → addD (.py (.list (X.map encE))) (.py (.list (Y.map encE))) T = .ok (.py (.list ((X ++ Y).map encE))) T := fun X Y T h => by
      simp only [addD]
      rw [if_pos (by simp; rw [show sizeLine = 16777216 from rfl]; omega), List.map_append]
    have hT := hL.le
    refine fix_own (m := T.length) (ds := (srtE f.lets (F1 P (Rb P) (Cb P) (gb0 P) G H)).map encE) rfl (by simp) ?_
    refine fix_own (m := T.length + 1) (ds := (srtE f.lets (F2 (Rb P) G H)).map encE) (by simp) (by rw [List.getElem?_set_ne (by omega)]; simp) ?_
    refine fix_own (m := T.length + 2) (ds := (srtE f.lets (F3 (Cb P) G H)).map encE) (by simp) (by rw [List.getElem?_set_ne (by omega), List.getElem?_set_ne (by omega)]; simp) ?_
    have hL6 := ((hL3.over (m := T.length) hT .gone).over (m := T.length + 1) (by omega) .gone).over (m := T.length + 2) (by omega) .gone
    have tu := tupleD_obj (hL6.at_ 0 _ rfl)
    have a1 := fun T => ad (srtE f.lets (F1 P (Rb P) (Cb P) (gb0 P) G H)) (srtE f.lets (F2 (Rb P) G H)) T (by omega)
    have a2 := fun T => ad ((srtE f.lets (F1 P (Rb P) (Cb P) (gb0 P) G H)) ++ (srtE f.lets (F2 (Rb P) G H))) (srtE f.lets (F3 (Cb P) G H)) T (by rw [List.length_append]; omega)
    simp [tu, a1, a2, pysOf, -List.map_append, -Nat.add_zero, -List.append_assoc, -List.map_map]
    exact ⟨S, hL6.cut, rfl, ⟨rfl, rfl, rfl, rfl⟩, rfl⟩
end DV

set_option maxHeartbeats 4000000
namespace DV
open PySem
/-! The law's own block; bounds; classes of five. -/
theorem sum_pos0 {l : List Int} (h : ∀ x ∈ l, 0 ≤ x) : 0 ≤ l.sum := by
  induction l with
  | nil => simp
  | cons a l ih =>
    have h1 := h a (by simp)
    have h2 := ih fun x hx => h x (List.mem_cons_of_mem _ hx)
    rw [List.sum_cons]
    omega
theorem need_pos (vs : List Int) : 0 ≤ needV vs := by
  by_cases h : vs = []
  · subst h
    decide
  · rw [need_most h]
    have : vs.count (mostV vs) ≤ vs.length := List.count_le_length
    omega
theorem tot_pos (Z : Zb) (c : Nat) (g : Int) : 0 ≤ totZ Z c g := by
  have h1 : 0 ≤ ownZ Z := sum_pos0 fun x hx => by
    obtain ⟨z, _, rfl⟩ := List.mem_map.mp hx
    have h0 := need_pos z.1
    have : (0 : Int) ≤ 1 + needV z.1 := by omega
    split
    · exact this
    · exact Int.le_refl _
  have h2 : 0 ≤ ((List.range c).map fun k => (colC (colZ Z k) g).1).sum := sum_pos0 fun x hx => by
    obtain ⟨k, _, rfl⟩ := List.mem_map.mp hx
    have := need_pos (colZ Z k)
    have : (colZ Z k).count g ≤ (colZ Z k).length := List.count_le_length
    unfold colC
    split
    · simp
    · split <;> simp only <;> omega
  unfold totZ
  omega
theorem minZ_bnd {B : List (List Int)} {c : Nat} (h : OkB B c) (hc : 0 < c) : 0 ≤ minZ B c ∧ minZ B c ≤ (B.length : Int) * c := by
  have e := minL_minZ h hc
  obtain ⟨_, h2, _⟩ := minL_is (c := c) (allZ B) ((B.length : Int) * c)
  refine ⟨?_, by rw [← e]; exact h2⟩
  obtain ⟨p, ep, _⟩ := bestZ_some (c := c) (allZ_ne h hc)
  unfold minZ
  rw [ep]
  exact tot_pos _ _ _
theorem minS_bnd {f : Face} {P : List Pair} {G H : List (List Nat)} (hP : PG P) (hG : IsPart f.lets G) (hH : IsPart f.lets H) (h10 : f.ls.length ≤ 10) (h6 : ∀ g ∈ G, g.length ≤ 6) : -99999 ≤ minS P G H ∧ minS P G H ≤ 99999 := by
  have llen : f.lets.length = f.ls.length := by simp
  have lG := hG.len2
  have lH := hH.len2
  have one : ∀ g ∈ G, ∀ h ∈ H, 0 ≤ minZ (blkM P g h) h.length ∧ minZ (blkM P g h) h.length ≤ 60 := fun g hg h hh => by
    have g0 := List.length_pos_iff.mpr (hG.ne g hg)
    have g6 := h6 g hg
    have hh0 := List.length_pos_iff.mpr (hH.ne h hh)
    have hh1 := hH.len1 hh
    have ok := blk_ok hP (g := g) (h := h) ⟨g0, g6⟩ ⟨hh0, by omega⟩
    obtain ⟨b1, b2⟩ := minZ_bnd ok hh0
    have e : (blkM P g h).length = g.length := by simp [blkM]
    rw [e] at b2
    have : g.length * h.length ≤ 6 * 10 := Nat.mul_le_mul g6 (by omega)
    have : ((g.length : Int) * h.length) = ((g.length * h.length : Nat) : Int) := by simp
    omega
  have row : ∀ g ∈ G, 0 ≤ minR P H g ∧ minR P H g ≤ 600 := fun g hg => by
    have a := sum_pos0 (l := H.map fun h => minZ (blkM P g h) h.length) fun x hx => by
      obtain ⟨h, hh, rfl⟩ := List.mem_map.mp hx
      exact (one g hg h hh).1
    have b := sumI_le (l := H.map fun h => minZ (blkM P g h) h.length) (b := 60) fun x hx => by
      obtain ⟨h, hh, rfl⟩ := List.mem_map.mp hx
      exact (one g hg h hh).2
    rw [List.length_map] at b
    unfold minR
    omega
  have a := sum_pos0 (l := G.map (minR P H)) fun x hx => by
    obtain ⟨g, hg, rfl⟩ := List.mem_map.mp hx
    exact (row g hg).1
  have b := sumI_le (l := G.map (minR P H)) (b := 600) fun x hx => by
    obtain ⟨g, hg, rfl⟩ := List.mem_map.mp hx
    exact (row g hg).2
  rw [List.length_map] at b
  unfold minS
  omega
end DV

set_option maxHeartbeats 4000000
namespace DV
open PySem
/-! Texts that are moved where one list stands for another one. -/
/-! ### the law's own -/
/-! ### rows from the end -/
end DV

set_option maxHeartbeats 4000000
namespace DV
open PySem
/-! How many have which value. -/
def encC (p : Int × Int) : PyData := tupI [p.1, p.2]
def cntF (vs : List Int) (v : Int) : Int × Int := (v, (vs.count v : Nat))
def cts (vs : List Int) : List (Int × Int) := (dedI (sortI vs)).map (cntF vs)
/-! ### sums and greatest ones -/
/-! ### the gaps of two classes -/
end DV

set_option maxHeartbeats 4000000
namespace DV
open PySem
/-! Single exceptions: papers of counts. -/
def blk (P : List Pair) (g h : List Nat) : PyData := .tuple ((cts (valsP P g h)).map encC)
end DV

set_option maxHeartbeats 4000000
namespace DV
open PySem
/-! The fewest letters that part all left classes. -/
def mkR (L : List Nat) (P : List Pair) (r : List Nat) (l : Nat) : List Int := r.map fun i => gapIn P l (L.getD i 0)
def sepB (f : Face) (P : List Pair) (r : List Nat) : Bool := decide ((dedT (f.lets.map (mkR f.lets P r))).length = (firsts (leftM f P)).length)
end DV

set_option maxHeartbeats 4000000
namespace DV
open PySem
/-! Which letters part all; the fewest. -/
theorem len_sub {α : Type} [DecidableEq α] {A B : List α} (h : A.Nodup) (hs : ∀ a ∈ A, a ∈ B) : A.length ≤ B.length := h.length_le_of_subset hs
theorem getD_at {L : List Nat} {i : Nat} (hi : i < L.length) : L.getD i 0 = L[i] := by
  rw [List.getD_eq_getElem?_getD, List.getElem?_eq_getElem hi]
  rfl
theorem sep_iff {M0 : List (List Int)} {proj : List Int → List Int} : (dedT (M0.map proj)).length = (firsts M0).length ↔ ∀ a ∈ M0, ∀ b ∈ M0, proj a = proj b → a = b := by
  have nd := firsts_nodup M0
  constructor
  · intro h a ha b hb hab
    by_cases e : a = b
    · exact e
    · exfalso
      have hb' : b ∈ firsts M0 := mem_firsts.mpr hb
      have h1 : (dedT (M0.map proj)).length ≤ (((firsts M0).erase b).map proj).length := by
        refine (nodup_dedT _).length_le_of_subset fun v hv => ?_
        obtain ⟨x, hx, rfl⟩ := List.mem_map.mp ((mem_dedT _ _).mp hv)
        by_cases q : x = b
        · rw [q, ← hab]
          exact List.mem_map.mpr ⟨a, (List.mem_erase_of_ne e).mpr (mem_firsts.mpr ha), rfl⟩
        · exact List.mem_map.mpr ⟨x, (List.mem_erase_of_ne q).mpr (mem_firsts.mpr hx), rfl⟩
      rw [List.length_map, List.length_erase_of_mem hb'] at h1
      have := List.length_pos_of_mem hb'
      omega
  · intro h
    have h2 : ((firsts M0).map proj).length = (dedT (M0.map proj)).length := len_dedT
      (List.pairwise_map.mpr (List.Pairwise.imp_of_mem (fun {a b} ha hb hab q => hab (h a (mem_firsts.mp ha) b (mem_firsts.mp hb) q)) nd))
      (fun v hv => by
        obtain ⟨x, hx, rfl⟩ := List.mem_map.mp hv
        exact List.mem_map.mpr ⟨x, mem_firsts.mp hx, rfl⟩)
      (fun v hv => by
        obtain ⟨x, hx, rfl⟩ := List.mem_map.mp hv
        exact List.mem_map.mpr ⟨x, mem_firsts.mpr hx, rfl⟩)
    rw [← h2, List.length_map]
def fullR (L : List Nat) (P : List Pair) (l : Nat) : List Int := L.map fun c => gapIn P l c
theorem full_getD {L : List Nat} {P : List Pair} {l i : Nat} (hi : i < L.length) : (fullR L P l).getD i 0 = gapIn P l (L.getD i 0) := by
  simp [fullR, List.getD_eq_getElem?_getD, hi]
theorem full_eq {L : List Nat} {P : List Pair} {a b : Nat} : fullR L P a = fullR L P b ↔ ∀ c ∈ L, gapIn P a c = gapIn P b c := List.map_inj_left
theorem sepB_iff {f : Face} {P : List Pair} {r : List Nat} (hr : ∀ i ∈ r, i < f.lets.length) : sepB f P r = true ↔ ∀ a ∈ f.lets, ∀ b ∈ f.lets, (∀ i ∈ r, gapIn P a (f.lets.getD i 0) = gapIn P b (f.lets.getD i 0)) → ∀ c ∈ f.lets, gapIn P a c = gapIn P b c := by
  have e1 : f.lets.map (mkR f.lets P r) = (f.lets.map (fullR f.lets P)).map fun row => r.map fun i => row.getD i 0 := by
    rw [List.map_map]
    refine List.map_congr_left fun l _ => List.map_congr_left fun i hi => (full_getD (hr i hi)).symm
  have e2 : leftM f P = f.lets.map (fullR f.lets P) := rfl
  have pj : ∀ a b, (r.map fun i => (fullR f.lets P a).getD i 0) = (r.map fun i => (fullR f.lets P b).getD i 0) ↔ ∀ i ∈ r, gapIn P a (f.lets.getD i 0) = gapIn P b (f.lets.getD i 0) := fun a b => by
    rw [List.map_inj_left]
    constructor
    · intro h i hi
      have := h i hi
      rwa [full_getD (hr i hi), full_getD (hr i hi)] at this
    · intro h i hi
      rw [full_getD (hr i hi), full_getD (hr i hi)]
      exact h i hi
  unfold sepB
  rw [decide_eq_true_iff, e1, e2, sep_iff]
  constructor
  · intro h a ha b hb hab
    exact full_eq.mp (h _ (List.mem_map.mpr ⟨a, ha, rfl⟩) _ (List.mem_map.mpr ⟨b, hb, rfl⟩) ((pj a b).mpr hab))
  · intro h x hx y hy hxy
    obtain ⟨a, ha, rfl⟩ := List.mem_map.mp hx
    obtain ⟨b, hb, rfl⟩ := List.mem_map.mp hy
    exact full_eq.mpr (h a ha b hb ((pj a b).mp hxy))
/-- the letters that part all -/
structure Prt (f : Face) (P : List Pair) (r : List Nat) : Prop where
  rise : r.Pairwise (· < ·)
  lt : ∀ x ∈ r, x < f.lets.length
  sep : sepB f P r = true
  min : ∀ q, q.Pairwise (· < ·) → (∀ x ∈ q, x < f.lets.length) → sepB f P q = true → r.length ≤ q.length
/-- so many columns part so many rows -/
theorem exists_sep (n : Nat) : ∀ D : List (List Int), D.Nodup → (∀ d ∈ D, d.length = n) → ∃ R : List Nat, R.length + 1 ≤ max 1 D.length ∧ (∀ i ∈ R, i < n) ∧ ∀ a ∈ D, ∀ b ∈ D, (∀ i ∈ R, a.getD i 0 = b.getD i 0) → a = b
  | [], _, _ => ⟨[], by simp, by simp, by simp⟩
  | d :: D, hn, hl => by
    obtain ⟨n1, n2⟩ := List.nodup_cons.mp hn
    obtain ⟨R, r1, r2, r3⟩ := exists_sep n D n2 fun x hx => hl x (List.mem_cons_of_mem _ hx)
    by_cases h : ∃ e ∈ D, ∀ i ∈ R, d.getD i 0 = e.getD i 0
    · obtain ⟨e, he, hR⟩ := h
      have hde : d ≠ e := fun q => n1 (q ▸ he)
      have l1 := hl d (by simp)
      have l2 := hl e (by simp [he])
      obtain ⟨i, hi, hne⟩ : ∃ i, i < n ∧ d.getD i 0 ≠ e.getD i 0 := by
        refine Classical.byContradiction fun hc => hde (List.ext_getElem (by omega) fun i h1 h2 => ?_)
        have : d.getD i 0 = e.getD i 0 := Classical.byContradiction fun q => hc ⟨i, by omega, q⟩
        simpa [List.getD_eq_getElem?_getD, h1, h2] using this
      have hp := List.length_pos_of_mem he
      refine ⟨i :: R, ?_, fun x hx => ?_, fun a ha b hb hab => ?_⟩
      · simp only [List.length_cons]
        omega
      · rcases List.mem_cons.mp hx with rfl | hx
        · exact hi
        · exact r2 x hx
      · have hi' := hab i (by simp)
        have hR' : ∀ x ∈ R, a.getD x 0 = b.getD x 0 := fun x hx => hab x (by simp [hx])
        rcases List.mem_cons.mp ha with rfl | ha' <;> rcases List.mem_cons.mp hb with rfl | hb'
        · rfl
        · have : e = b := r3 e he b hb' fun x hx => by rw [← hR x hx, hR' x hx]
          rw [← this] at hi'
          exact absurd hi' hne
        · have : e = a := r3 e he a ha' fun x hx => by rw [← hR x hx, hR' x hx]
          rw [← this] at hi'
          exact absurd hi'.symm hne
        · exact r3 a ha' b hb' hR'
    · refine ⟨R, ?_, r2, fun a ha b hb hab => ?_⟩
      · simp only [List.length_cons]
        omega
      · rcases List.mem_cons.mp ha with rfl | ha' <;> rcases List.mem_cons.mp hb with rfl | hb'
        · rfl
        · exact absurd ⟨b, hb', hab⟩ h
        · exact absurd ⟨a, ha', fun i hi => (hab i hi).symm⟩ h
        · exact r3 a ha' b hb' hab
def riseOf (n : Nat) (R : List Nat) : List Nat := (List.range n).filter fun i => decide (i ∈ R)
theorem mem_rise {n : Nat} {R : List Nat} {i : Nat} : i ∈ riseOf n R ↔ i < n ∧ i ∈ R := by
  unfold riseOf
  rw [List.mem_filter, List.mem_range, decide_eq_true_iff]
theorem rise_pw (n : Nat) (R : List Nat) : (riseOf n R).Pairwise (· < ·) := List.Pairwise.sublist List.filter_sublist List.pairwise_lt_range
theorem rise_le (n : Nat) (R : List Nat) : (riseOf n R).length ≤ R.length := len_sub ((rise_pw n R).imp fun h => Nat.ne_of_lt h) fun i hi => (mem_rise.mp hi).2
/-- fewer than the left classes -/
theorem Prt.left {f : Face} {P : List Pair} {r : List Nat} (h : Prt f P r) : r.length + 1 ≤ max 1 (firsts (leftM f P)).length := by
  obtain ⟨R, r1, r2, r3⟩ := exists_sep f.lets.length (firsts (leftM f P)) (firsts_nodup _) fun d hd => by
    obtain ⟨a, ha, rfl⟩ := List.mem_map.mp (mem_firsts.mp hd)
    simp
  have s : sepB f P (riseOf f.lets.length R) = true := (sepB_iff fun i hi => (mem_rise.mp hi).1).mpr fun a ha b hb hab => by
    have q : ∀ c ∈ f.lets, fullR f.lets P c ∈ firsts (leftM f P) := fun c hc => mem_firsts.mpr (List.mem_map.mpr ⟨c, hc, rfl⟩)
    refine full_eq.mp (r3 _ (q a ha) _ (q b hb) fun i hi => ?_)
    rw [full_getD (r2 i hi), full_getD (r2 i hi)]
    exact hab i (mem_rise.mpr ⟨r2 i hi, hi⟩)
  have := h.min _ (rise_pw _ _) (fun x hx => (mem_rise.mp hx).1) s
  have := rise_le f.lets.length R
  omega
/-- no more than the right classes -/
theorem Prt.right {f : Face} {P : List Pair} {r : List Nat} (h : Prt f P r) : r.length ≤ (firsts (rightM f P)).length := by
  have ex : ∀ d : List Int, ∃ i : Nat, d ∈ firsts (rightM f P) → i < f.lets.length ∧ (f.lets.map fun l => gapIn P l (f.lets.getD i 0)) = d := fun d => by
    by_cases hd : d ∈ firsts (rightM f P)
    · obtain ⟨c, hc, rfl⟩ := List.mem_map.mp (mem_firsts.mp hd)
      obtain ⟨i, hi, rfl⟩ := List.getElem_of_mem hc
      exact ⟨i, fun _ => ⟨hi, by rw [getD_at hi]⟩⟩
    · exact ⟨0, fun q => absurd q hd⟩
  obtain ⟨u, hu⟩ := Classical.axiomOfChoice ex
  have s : sepB f P (riseOf f.lets.length ((firsts (rightM f P)).map u)) = true := (sepB_iff fun i hi => (mem_rise.mp hi).1).mpr fun a ha b hb hab c hc => by
    have hd : (f.lets.map fun l => gapIn P l c) ∈ firsts (rightM f P) := mem_firsts.mpr (List.mem_map.mpr ⟨c, hc, rfl⟩)
    obtain ⟨h1, h2⟩ := hu _ hd
    have h3 := hab _ (mem_rise.mpr ⟨h1, List.mem_map.mpr ⟨_, hd, rfl⟩⟩)
    have h4 := List.map_inj_left.mp h2
    rw [← h4 a ha, ← h4 b hb]
    exact h3
  have := h.min _ (rise_pw _ _) (fun x hx => (mem_rise.mp hx).1) s
  have h5 := rise_le f.lets.length ((firsts (rightM f P)).map u)
  rw [List.length_map] at h5
  omega
end DV

set_option maxHeartbeats 4000000
namespace DV
open PySem
/-! All sets of places, the fewest ahead, in order. -/
def ltR (p q : List Nat) : Prop := p.length < q.length ∨ (p.length = q.length ∧ iN p < iN q)
instance (p q : List Nat) : Decidable (ltR p q) := by unfold ltR; infer_instance
def leR (p q : List Nat) : Prop := p.length < q.length ∨ (p.length = q.length ∧ iN p ≤ iN q)
instance (p q : List Nat) : Decidable (leR p q) := by unfold leR; infer_instance
end DV

set_option maxHeartbeats 4000000
namespace DV
open PySem
/-! The even lines. -/
/-- the price of the last k words -/
def price (f : Face) (P : List Pair) (n : Int) (ws : List (List Nat)) (k : Nat) : Int := (prices f P n ws k).getD 0 0
end DV

set_option maxHeartbeats 4000000
namespace DV
open PySem
/-! The search for the least row of class numbers in which nothing clashes. -/
section
variable (C : Nat → Nat → Bool) (most : Nat)
/-- nothing of class x clashes with the letter that comes next -/
def okAt (r : List Nat) (x : Nat) : Bool := r.zipIdx.all fun p => !(decide (p.1 = x) && C p.2 r.length)
def kids (r : List Nat) : List (List Nat) := ((List.range (min (top r + 1) most)).filter (okAt C r)).map fun x => r ++ [x]
/-- all whole rows, from one on -/
def ends : Nat → List Nat → List (List Nat)
  | 0, r => [r]
  | d + 1, r => (kids C most r).flatMap (ends d)
def nodes : Nat → List Nat → Nat
  | 0, _ => 1
  | d + 1, r => 1 + ((kids C most r).map (nodes d)).sum
/-! ### what the search finds -/
def valid (r : List Nat) : Bool := (List.range r.length).all fun j => okAt C (r.take j) (r.getD j 0)
theorem valid_snoc (r : List Nat) (x : Nat) : valid C (r ++ [x]) = (valid C r && okAt C r x) := by
  unfold valid
  rw [List.length_append, List.length_singleton, List.range_succ, List.all_append]
  congr 1
  · rw [Bool.eq_iff_iff, List.all_eq_true, List.all_eq_true]
    have : ∀ j, j < r.length → (okAt C ((r ++ [x]).take j) ((r ++ [x]).getD j 0) = okAt C (r.take j) (r.getD j 0)) := fun j hj => by
      rw [List.take_append_of_le_length (by omega), List.getD_eq_getElem?_getD, List.getElem?_append_left hj, ← List.getD_eq_getElem?_getD]
    exact ⟨fun h j hj => by rw [← this j (List.mem_range.mp hj)]; exact h j hj, fun h j hj => by rw [this j (List.mem_range.mp hj)]; exact h j hj⟩
  · simp [List.getD_eq_getElem?_getD]
end
end DV

set_option maxHeartbeats 4000000
namespace DV
open PySem
/-! The least row without a clash, as the program searches it. -/
def dinR (dx : D) (ks : List D) (S : Sto) : R D := match dx, pysOf ks with
  | .obj n, some ps => (match keysOf ps, S[n]? with
    | some key, some (.dt es) => .ok (.py (.bool (es.any fun kv => decide (kv.1 = key)))) S
    | _, _ => .no)
  | _, _ => .no
def dputR (dv dx : D) (ks : List D) (σ : En) (S : Sto) : F := match dv, dx, pysOf ks with
  | .py p, .obj n, some ps => (match keysOf ps, S[n]? with
    | some key, some (.dt es) => if es.length < 100000 then .nx σ (S.set n (.dt (putP es key p))) else .no
    | _, _ => .no)
  | _, _, _ => .no
@[simp ↓] theorem wp_dnew {σ : En} {S : Sto} {P : D → Sto → Prop} {E : Str → Sto → Prop} : (dnewT σ S).wp P E = P (.obj S.length) (S ++ [.dt []]) := id rfl
@[simp ↓] theorem wp_din (k : Ax) (x : Ex) {σ : En} {S : Sto} {P : D → Sto → Prop} {E : Str → Sto → Prop} : (dinE k x σ S).wp P E = (k σ S).wp (fun ks S1 => (x σ S1).wp (fun dx S2 => (dinR dx ks S2).wp P E) E) E := by
  unfold dinE
  rw [wp_bind]
  congr 1
  funext ks S1
  rw [wp_bind]
  rfl
@[simp ↓] theorem wp_dput (v x : Ex) (k : Ax) {σ : En} {S : Sto} {N : K} : (dputS v x k σ S).wp N = (v σ S).wp (fun dv S1 => (x σ S1).wp (fun dx S2 => (k σ S2).wp (fun ks S3 => (dputR dv dx ks σ S3).wp N) N.ex) N.ex) N.ex := by
  unfold dputS
  rw [wp_run]
  congr 1
  funext dv S1
  rw [wp_run]
  congr 1
  funext dx S2
  rw [wp_run]
  rfl
abbrev EsT := List (List (Sum Int Str) × PyData)
/-- whether two places clash by the dict -/
def CE (es : EsT) (i j : Nat) : Bool := es.any fun kv => decide (kv.1 = [.inl (i : Int), .inl (j : Int)])
structure Stk (C : Nat → Nat → Bool) (most n : Nat) (st : List (List Nat)) : Prop where
  all : (st.reverse.flatMap fun r => ends C most (n - r.length) r) = ends C most n []
  pos : ∀ i r, st[i]? = some r → i ≤ 10 * r.length
  row : ∀ r ∈ st, r.length ≤ n ∧ (∀ x ∈ r, x < r.length) ∧ top r ≤ r.length
def meas (C : Nat → Nat → Bool) (most n : Nat) (st : List (List Nat)) : Nat := (st.map fun r => nodes C most (n - r.length) r).sum
theorem Stk.len {C : Nat → Nat → Bool} {most n : Nat} {st : List (List Nat)} (h : Stk C most n st) (hn : n ≤ 10) : st.length ≤ 101 := by
  rcases Nat.eq_zero_or_pos st.length with z | z
  · omega
  · have hi : st.length - 1 < st.length := by omega
    have h1 := h.pos (st.length - 1) _ (List.getElem?_eq_getElem hi)
    have h2 := (h.row _ (List.getElem_mem hi)).1
    omega
theorem Stk.start (C : Nat → Nat → Bool) (most n : Nat) : Stk C most n [[]] := by
  refine ⟨by simp, fun i r h => ?_, fun r h => ?_⟩
  · cases i with
    | zero => omega
    | succ i => simp at h
  · rw [List.mem_singleton.mp h]
    simp [top]
theorem kids_len {C : Nat → Nat → Bool} {most : Nat} {r : List Nat} : (kids C most r).length ≤ top r + 1 := by
  unfold kids
  rw [List.length_map]
  refine Nat.le_trans (List.length_filter_le _ _) ?_
  rw [List.length_range]
  omega
/-- one row's children in its stead -/
theorem Stk.step {C : Nat → Nat → Bool} {most n : Nat} {A : List (List Nat)} {r : List Nat} (h : Stk C most n (A ++ [r])) (hr : r.length < n) (hn : n ≤ 10) : Stk C most n (A ++ (kids C most r).reverse) ∧ meas C most n (A ++ (kids C most r).reverse) < meas C most n (A ++ [r]) := by
  have kr := h.row r (by simp)
  have kl : ∀ q ∈ kids C most r, q.length = r.length + 1 := fun q hq => by
    obtain ⟨x, _, rfl⟩ := List.mem_map.mp hq
    simp
  have e1 : n - r.length = (n - (r.length + 1)) + 1 := by omega
  have hk := kids_len (C := C) (most := most) (r := r)
  refine ⟨⟨?_, fun i q hi => ?_, fun q hq => ?_⟩, ?_⟩
  · have ha := h.all
    rw [List.reverse_append, List.flatMap_append] at ha ⊢
    rw [← ha, List.reverse_reverse]
    congr 1
    simp only [List.reverse_singleton, List.flatMap_cons, List.flatMap_nil, List.append_nil]
    rw [e1]
    show _ = (kids C most r).flatMap (ends C most (n - (r.length + 1)))
    unfold List.flatMap
    congr 1
    refine List.map_congr_left fun q hq => ?_
    rw [kl q hq]
  · by_cases hlt : i < A.length
    · rw [List.getElem?_append_left hlt] at hi
      exact h.pos i q (by rw [List.getElem?_append_left hlt]; exact hi)
    · rw [List.getElem?_append_right (by omega)] at hi
      have hq : q ∈ kids C most r := List.mem_reverse.mp (List.mem_of_getElem? hi)
      have hb := (List.getElem?_eq_some_iff.mp hi).1
      rw [List.length_reverse] at hb
      have hp := h.pos A.length r (by simp)
      rw [kl q hq]
      have := kr.2.2
      omega
  · rcases List.mem_append.mp hq with hq | hq
    · exact h.row q (List.mem_append_left _ hq)
    · have hq := List.mem_reverse.mp hq
      have hl := kl q hq
      obtain ⟨x, hx, rfl⟩ := List.mem_map.mp hq
      have hx := List.mem_range.mp (List.mem_filter.mp hx).1
      refine ⟨by omega, fun y hy => ?_, ?_⟩
      · rw [hl]
        rcases List.mem_append.mp hy with hy | hy
        · have := kr.2.1 y hy
          omega
        · rw [List.mem_singleton.mp hy]
          have := kr.2.2
          omega
      · rw [hl, top_snoc]
        have := kr.2.2
        omega
  · unfold meas
    rw [List.map_append, List.map_append, List.sum_append, List.sum_append, List.map_reverse, List.sum_reverse]
    have e2 : ((kids C most r).map fun q => nodes C most (n - q.length) q).sum = ((kids C most r).map (nodes C most (n - (r.length + 1)))).sum := by
      congr 1
      refine List.map_congr_left fun q hq => ?_
      rw [kl q hq]
    rw [e2]
    simp only [List.map_cons, List.map_nil, List.sum_cons, List.sum_nil]
    rw [e1]
    simp only [nodes]
    omega

end DV

set_option maxHeartbeats 4000000
namespace DV
open PySem
/-! Lists with open pairs. -/
end DV

set_option maxHeartbeats 4000000
namespace DV
open PySem
/-! Open lists closed by a parting. -/
/-- a list of the store that is filled while others come and go above it -/
def Fil (S : Sto) (ds : List PyData) (T : Sto) : Prop := ∃ G, T = S ++ O.lst (ds.map D.py) :: G
theorem Fil.get {S T : Sto} {ds : List PyData} (h : Fil S ds T) : T[S.length]? = some (.lst (ds.map D.py)) := by
  obtain ⟨G, rfl⟩ := h
  simp
theorem Fil.app {S T : Sto} {ds : List PyData} (h : Fil S ds T) (hl : ds.length ≤ 100000) (d : PyData) : ∃ U, appendD (.obj S.length) [.py d] T = .ok (.py .none) U ∧ Fil S (ds ++ [d]) U := by
  have hg := h.get
  obtain ⟨G, rfl⟩ := h
  refine ⟨_, appendD_obj hg (by rw [List.length_map, sl_tr]; omega), G, ?_⟩
  rw [List.set_append_right _ _ (by omega)]
  simp
theorem Fil.more {S T : Sto} {ds : List PyData} (h : Fil S ds T) (U : Sto) : Fil S ds (T ++ U) := by
  obtain ⟨G, rfl⟩ := h
  exact ⟨G ++ U, by simp⟩
end DV

set_option maxHeartbeats 4000000
namespace DV
open PySem
/-! Open lists drawn. -/
end DV

set_option maxHeartbeats 4000000
namespace DV
open PySem
/-! Open lists in order are open lists. -/
end DV

set_option maxHeartbeats 4000000
namespace DV
open PySem
/-! Which letters clash; the parting into fewest classes. -/
end DV

set_option maxHeartbeats 4000000
namespace DV
open PySem
/-! The least row of fewest classes. -/
theorem top_range : ∀ k, top (List.range k) = k
  | 0 => rfl
  | k + 1 => by rw [List.range_succ, top_snoc, top_range k]; omega
theorem range_parts {n : Nat} : ∀ {k : Nat}, k ≤ n → List.range k ∈ parts n k
  | 0, _ => by simp [parts]
  | k + 1, h => by
    rw [List.range_succ]
    exact List.mem_flatMap.mpr ⟨List.range k, range_parts (by omega), List.mem_map.mpr ⟨k, List.mem_range.mpr (by rw [top_range]; omega), rfl⟩⟩
theorem range_valid (C : Nat → Nat → Bool) : ∀ k, valid C (List.range k) = true
  | 0 => rfl
  | k + 1 => by
    rw [List.range_succ, valid_snoc, range_valid C k, Bool.true_and]
    unfold okAt
    rw [List.all_eq_true]
    intro p hp
    obtain ⟨i, hi⟩ := List.getElem?_of_mem hp
    rw [List.getElem?_zipIdx] at hi
    obtain ⟨x, hx, rfl⟩ := Option.map_eq_some_iff.mp hi
    obtain ⟨h1, h2⟩ := List.getElem?_eq_some_iff.mp hx
    simp at h1 h2
    have : x ≠ k := by omega
    simp [this]
section
variable (C : Nat → Nat → Bool) (n : Nat)
def VR (m : Nat) : List (List Nat) := (parts m n).filter (valid C)
theorem VR_full : List.range n ∈ VR C n n := List.mem_filter.mpr ⟨range_parts (Nat.le_refl n), range_valid C n⟩
def better (q r : List Nat) : Prop := top q < top r ∨ (top q = top r ∧ iN q < iN r)
instance (q r : List Nat) : Decidable (better q r) := by unfold better; infer_instance
structure Best (r : List Nat) : Prop where
  mem : r ∈ VR C n n
  least : ∀ q ∈ VR C n n, ¬ better q r
variable {C n}
end
end DV

set_option maxHeartbeats 4000000
namespace DV
open PySem
/-! law_partings of up to eight letters. -/
end DV

set_option maxHeartbeats 4000000
namespace DV
open PySem
/-! The best row: what the law's loop over all rows keeps. -/
/-- the best so far -/
structure Bst (C : Nat → Nat → Bool) (n : Nat) (pre : List (List Nat)) (b : List Nat) : Prop where
  mem : b ∈ VR C n n
  least : ∀ q ∈ pre, valid C q = true → ¬ better q b
theorem Bst.first {C : Nat → Nat → Bool} {n : Nat} : Bst C n [] (List.range n) := ⟨VR_full C n, fun q hq => by cases hq⟩
theorem better_trans {a b c : List Nat} (h1 : better a b) (h2 : better b c) : better a c := by
  unfold better at *
  rcases h1 with h1 | ⟨h1, l1⟩ <;> rcases h2 with h2 | ⟨h2, l2⟩
  · exact .inl (by omega)
  · exact .inl (by omega)
  · exact .inl (by omega)
  · exact .inr ⟨by omega, List.lt_trans l1 l2⟩
theorem better_irr {a : List Nat} (h : better a a) : False := by
  rcases h with h | ⟨_, h⟩
  · omega
  · exact List.lt_irrefl _ h
section
variable {C : Nat → Nat → Bool} {n : Nat} {pre : List (List Nat)} {b r : List Nat}
theorem Bst.skip (h : Bst C n pre b) (hv : valid C r = false) : Bst C n (pre ++ [r]) b := ⟨h.mem, fun q hq hq2 => by
  rcases List.mem_append.mp hq with z | z
  · exact h.least q z hq2
  · rw [List.mem_singleton.mp z, hv] at hq2
    cases hq2⟩
theorem Bst.keep (h : Bst C n pre b) (hv : ¬ better r b) : Bst C n (pre ++ [r]) b := ⟨h.mem, fun q hq hq2 => by
  rcases List.mem_append.mp hq with z | z
  · exact h.least q z hq2
  · rw [List.mem_singleton.mp z]
    exact hv⟩
theorem Bst.take (h : Bst C n pre b) (hr : r ∈ parts n n) (hv : valid C r = true) (hb : better r b) : Bst C n (pre ++ [r]) r := ⟨List.mem_filter.mpr ⟨hr, hv⟩, fun q hq hq2 hb2 => by
  rcases List.mem_append.mp hq with z | z
  · exact h.least q z hq2 (better_trans hb2 hb)
  · rw [List.mem_singleton.mp z] at hb2
    exact better_irr hb2⟩
theorem Bst.done (h : Bst C n (parts n n) b) : Best C n b := ⟨h.mem, fun q hq => h.least q (List.mem_filter.mp hq).1 (List.mem_filter.mp hq).2⟩
end
end DV

set_option maxHeartbeats 4000000
namespace DV
open PySem
/-! Marks as a row of class numbers; the best row for marks. -/
def can (M : List (List Int)) : List Nat := M.map fun m => (firsts M).idxOf m
theorem not_lt_of_le : ∀ {a b : List Nat}, a.length = b.length → (∀ i, i < a.length → a.getD i 0 ≤ b.getD i 0) → ¬ iN b < iN a
  | [], [], _, _, h => List.lt_irrefl _ h
  | x :: a, y :: b, hl, hp, h => by
    have h0 := hp 0 (by simp)
    simp at h0
    have ei : iN (y :: b) = (y : Int) :: iN b := rfl
    have ej : iN (x :: a) = (x : Int) :: iN a := rfl
    rw [ei, ej, List.cons_lt_cons_iff] at h
    rcases h with h | ⟨_, h⟩
    · omega
    · refine not_lt_of_le (by simpa using hl) (fun i hi => ?_) h
      have := hp (i + 1) (by simp; omega)
      simpa using this
section
variable {C : Nat → Nat → Bool} {M : List (List Int)} {r : List Nat}
end
end DV

set_option maxHeartbeats 4000000
namespace DV
/-! Neighbours tell of all where the order is transitive. -/
end DV

set_option maxHeartbeats 4000000
namespace DV
open PySem
/-! Papers of left classes, asked of any thing. -/
theorem two {gs : List PyData} (h : gs.length = 2) : ∃ a b, gs = [a, b] := by
  match gs, h with
  | [a, b], _ => exact ⟨a, b, rfl⟩
end DV

set_option maxHeartbeats 4000000
namespace DV
open PySem
/-! The table of the fewest classes; the paper of the left classes, shown. -/
/-! ### heads -/
end DV

set_option maxHeartbeats 4000000
namespace DV
open PySem
/-! Open lists told by a list: clashes, closing. -/
/-- what is told is what the list has -/
def TO (O P : List Pair) : Prop := ∀ p ∈ O, p.2.2 = gapIn P p.1 p.2.1
section
variable {f : Face} {O P : List Pair}
end
end DV

set_option maxHeartbeats 4000000
namespace DV
open PySem
/-! What the letters that part all tell, by itself. -/
section
variable (f : Face) (P : List Pair) (F : List Nat)
def keptR : List (List Int) := f.lets.map fun a => f.lets.map fun b => if b ∈ F then gapIn P a b else 0
def kept : List Pair := mlist f.lets (keptR f P F)
variable {f P F}
end
end DV

set_option maxHeartbeats 4000000
namespace DV
open PySem
/-! Open lists of any thing: fewest_lefts, clash_of. -/
end DV

set_option maxHeartbeats 4000000
namespace DV
open PySem
/-! What the letters that part all tell: the law's own asking. -/
theorem part_fitS {f : Face} {G : List (List Nat)} (b122 : ∀ c ∈ f.lets, c ≤ 122) (h10 : f.ls.length ≤ 10) (hG : IsPart f.lets G) : Fit (encG G) 2 220 := by
  have llen : f.lets.length = f.ls.length := by simp
  have := hG.len2
  refine (Fit.tupleN (k := 1) (w := 20) (m := 10) (fun d hd => ?_) (by simp; omega)).mono (by decide) (by decide)
  obtain ⟨g, hg, rfl⟩ := List.mem_map.mp hd
  have := hG.len1 hg
  refine (Fit.tupleN (k := 0) (w := 1) (m := 10) (fun d hd => ?_) (by simp; omega)).mono (by decide) (by decide)
  obtain ⟨c, hc, rfl⟩ := List.mem_map.mp hd
  have := b122 c (hG.mem g hg c hc)
  exact Fit.lt (by omega)
end DV

set_option maxHeartbeats 4000000
namespace DV
open PySem
/-! Tables, asked of any thing. -/
def lt3 (a b : Int × Int × Int) : Prop := a.1 < b.1 ∨ (a.1 = b.1 ∧ (a.2.1 < b.2.1 ∨ (a.2.1 = b.2.1 ∧ a.2.2 < b.2.2)))
instance (a b : Int × Int × Int) : Decidable (lt3 a b) := by unfold lt3; infer_instance
end DV

set_option maxHeartbeats 4000000
namespace DV
open PySem
/-! Exceptions and tables, asked of any thing. -/
theorem four {gs : List PyData} (h : gs.length = 4) : ∃ a b c d, gs = [a, b, c, d] := by
  match gs, h with
  | [a, b, c, d], _ => exact ⟨a, b, c, d, rfl⟩
/-! ### as the law asks it -/
/-! a row of a law's table -/
end DV

set_option maxHeartbeats 4000000
namespace DV
open PySem
/-! What is a table, is one of ours. -/
end DV

set_option maxHeartbeats 4000000
namespace DV
open PySem
/-! How much a table weighs. -/
end DV

set_option maxHeartbeats 4000000
namespace DV
open PySem
/-! Tables asked in six ways, of any thing. -/
/-- shown, and not as a word of a refusal -/
structure Plain (p : PyData) : Prop where
  len : p.shown.length ≤ sizeLine
  rep : ∀ S, reprD [.py p] S = .ok (.py (.str p.shown)) S
  head : p.shown.cps.toList.head? ≠ some 33
theorem plain_of {p : PyData} {k w : Nat} (h : Fit p k w) (hk : k ≤ 60) (hw : w ≤ 500000) (hp : (∃ ds, p = .tuple ds) ∨ p = .none ∨ ∃ i, p = .int i) : Plain p := by
  refine ⟨PyData.shown_fits_bulk (by decide) (by decide) h.ls (Nat.le_trans h.bk (Nat.le_trans hw (by decide))), fun S => h.repr hk (Nat.le_trans hw (by decide)) S, ?_⟩
  rcases hp with ⟨ds, rfl⟩ | rfl | ⟨i, rfl⟩
  · have e : (PyData.tuple ds).shown = tupleText (PyData.shownAll ds) := by rw [PyData.shown]
    rw [e]
    unfold tupleText
    rw [Str.append_assoc, Str.cps_append, Array.toList_append]
    have e2 : ((("(" : String) : Str)).cps.toList = [40] := by decide +kernel
    rw [e2]
    simp
  · decide +kernel
  · have h33 : 33 ∉ (PyData.int i).shown.cps.toList := PyProof.Rows.shown_int_free' ⟨by decide, .inl (by decide)⟩ _
    exact fun h => h33 (List.mem_of_mem_head? h)
/-- no word of a refusal -/
theorem Plain.bang {p : PyData} (h : Plain p) (S : Sto) : ∃ z, sliceV (.py (.str p.shown)) none (some 1) S = .ok (.py (.str z)) S ∧ eqD (.py (.str z)) (.py (.str (Str.ofString "!"))) S = .ok (.py (.bool false)) S := by
  refine ⟨L2.cutS p.shown none (some 1), ?_, ?_⟩
  · show (if p.shown.length ≤ sizeLine then _ else _) = _
    rw [if_pos h.len]
  · rw [eqD_str, decide_eq_false]
    intro e
    have e2 : (L2.cutS p.shown none (some 1)).cps.toList = [33] := by
      rw [e]
      decide +kernel
    have hh := h.head
    unfold L2.cutS at e2
    simp only [HT.sIx_none, List.drop_zero] at e2
    cases hc : p.shown.cps.toList with
    | nil =>
      rw [hc] at e2
      simp at e2
    | cons c r =>
      rw [hc] at hh e2
      simp at hh
      have e3 := congrArg List.head? e2
      have : (c :: r).take (HT.sIx p.shown.length p.shown.length (some 1) - 0) ≠ [] := by
        intro z
        rw [z] at e2
        simp at e2
      cases hm : HT.sIx p.shown.length p.shown.length (some 1) - 0 with
      | zero =>
        rw [hm] at this
        simp at this
      | succ m =>
        rw [hm] at e3
        simp at e3
        exact hh e3
section
variable {f : Face} {P : List Pair} {x l r : PyData} {k w : Nat}
end
end DV

set_option maxHeartbeats 4000000
namespace DV
open PySem
/-! Pieces of texts. -/
def pc (f : Face) (P : List Pair) (l : List Nat) : PyData := if l = [] then .none else .tuple [lt (l.headD 0), lt (l.getLastD 0), .int (wd f P l)]
/-! ### cuts -/
/-! ### beginnings and widths -/
@[simp ↓] theorem wp_revL (a : Ex) {σ : En} {S : Sto} {P : List D → Sto → Prop} {E : Str → Sto → Prop} : (revL a σ S).wp P E = (a σ S).wp (fun x S1 => ∃ ds, x = .py (.list ds) ∧ P (ds.reverse.map .py) S1) E := by
  unfold revL
  rw [wp_bind]
  congr 1
  funext x S1
  split
  · rename_i ds
    exact propext ⟨fun p => ⟨ds, rfl, p⟩, fun ⟨_, e, p⟩ => by cases e; exact p⟩
  · rename_i hn
    exact propext ⟨fun h => h.elim, fun ⟨_, e, _⟩ => (hn _ e).elim⟩
end DV

set_option maxHeartbeats 4000000
namespace DV
open PySem
/-! The law's things, where the face stands in another slot; parts of what fits. -/
theorem FitXL.app {a b : List PyData} {k v w : Nat} (ha : FitXL a k v) (hb : FitXL b k w) : FitXL (a ++ b) k (v + w) := by
  have p : Part (a ++ b) k := Part.app.mpr ⟨⟨ha.sh, ha.dp, ha.ls⟩, ⟨hb.sh, hb.dp, hb.ls⟩⟩
  have h1 := ha.bk
  have h2 := hb.bk
  exact ⟨p.sh, p.dp, p.ls, by rw [bulk_app]; omega⟩
theorem FitXL.mono {d : List PyData} {k k' w w' : Nat} (h : FitXL d k w) (hk : k ≤ k') (hw : w ≤ w') : FitXL d k' w' := ⟨h.sh, Nat.le_trans h.dp hk, h.ls, Nat.le_trans h.bk hw⟩
end DV

set_option maxHeartbeats 4000000
namespace DV
open PySem
/-! Whole numbers of odd and of spoilt things are not too great. -/
end DV

set_option maxHeartbeats 4000000
namespace DV
open PySem
/-! Pieces, asked of any thing. -/
end DV

set_option maxHeartbeats 4000000
namespace DV
open PySem
/-! What is due of two things that may be pieces. -/
@[simp ↓] theorem wp_lstG (n : Nat) (r : List D → En → Sto → R En) (ps : List PyData) {σ : En} {S : Sto} {P : En → Sto → Prop} {E : Str → Sto → Prop} : (lstG n r (.py (.list ps)) σ S).wp P E = if ps.length = n then (r (ps.map .py) σ S).wp P E else False := by
  unfold lstG
  rw [wp_iteR]
  rfl
end DV

set_option maxHeartbeats 4000000
namespace DV
open PySem
/-! ### the law's own loop, where two defs make lambdas -/
theorem law_allT2 {n : Nat} {c : Int} {b : Sx} {e : Ex} {ns : List Int} {T U : Nat} {q r : Str} (hc : 1 ≤ c) (hc2 : c ≤ 60)
    (he : ∀ (σ : En) (S : Sto), S[0]? = some (.tab T q) → S[1]? = some (.tab U r) → e σ S = .ok (.py (.bool true)) S)
    (hb : ∀ (k : Nat) (ys : En) (S : Sto) (m : Nat), BoxAt S m → S[0]? = some (.tab T q) → S[1]? = some (.tab U r) → m ≠ 0 → m ≠ 1 → ys.length = n → k < 64 →
      (b (some (.py (.list (ns.map .int))) :: some (.py (.int k)) :: some (.obj m) :: ys) S).wp { nx := fun σ S' => Keep0 (.py (.list (ns.map .int))) (n + 2) σ ∧ Ch m S S', ct := fun σ S' => Keep0 (.py (.list (ns.map .int))) (n + 2) σ ∧ Ch m S S' }) :
    ∃ S', fnF (n + 3) (seqS (forS (rng1I (callE max2D (consA (cE (.int 1)) (consA (callE min2D (consA (callE lenD (consA (varE 0) nilA)) (consA (cE (.int c)) nilA))) nilA)))) (nmG 1)
      (seqS (asgS (callE F_law_box (consA (varE 0) (consA (varE 1) nilA))) (nmG 2)) b)) (retS e)) [.py (.list (ns.map .int))] [.tab T q, .tab U r] = .ok (.py (.bool true)) S' := by
  have key : (fnF (n + 3) (seqS (forS (rng1I (callE max2D (consA (cE (.int 1)) (consA (callE min2D (consA (callE lenD (consA (varE 0) nilA)) (consA (cE (.int c)) nilA))) nilA)))) (nmG 1)
      (seqS (asgS (callE F_law_box (consA (varE 0) (consA (varE 1) nilA))) (nmG 2)) b)) (retS e)) [.py (.list (ns.map .int))] [.tab T q, .tab U r]).wp (fun d _ => d = .py (.bool true)) noE := by
    refine wp_fn ?_
    have hi : init (n + 3) [.py (.list (ns.map .int))] = some (.py (.list (ns.map .int))) :: List.replicate (n + 2) none := rfl
    rw [hi]
    simp
    refine ⟨by split <;> split <;> omega, ?_⟩
    refine wp_forL (fun pre σ S => Keep0 (.py (.list (ns.map .int))) (n + 2) σ ∧ S[0]? = some (.tab T q) ∧ S[1]? = some (.tab U r)) ⟨.mk (by simp), rfl, rfl⟩ ?_ ?_
    · rintro pre x post σ S e ⟨⟨ys, rfl, hy⟩, h0, h1'⟩
      obtain ⟨y1, r1, rfl, h1⟩ := explode hy
      obtain ⟨y2, r2, rfl, h2⟩ := explode h1
      have hx : ∃ k : Nat, x = .py (.int k) ∧ k < 64 := by
        have hm : x ∈ rngV 0 (if (if c < (ns.length : Int) then c else (ns.length : Int)) > 1 then (if c < (ns.length : Int) then c else (ns.length : Int)) else 1).toNat := by
          have e' := e
          simp at e' ⊢
          rw [e']
          simp
        unfold rngV at hm
        rw [List.mem_map] at hm
        obtain ⟨k, hk, rfl⟩ := hm
        rw [List.mem_range] at hk
        refine ⟨k, by simp, ?_⟩
        split at hk <;> split at hk <;> omega
      obtain ⟨k, rfl, hk⟩ := hx
      simp
      refine (box_ok (ns := ns) (k := k) (by omega)).to ?_
      rintro d S1 ⟨rfl, a, b', rfl⟩
      have hbx : BoxAt (S ++ [.lst [.py (.int a), .py (.int b')]]) S.length := ⟨a, b', last_get⟩
      have l1 : 1 < S.length := (List.getElem?_eq_some_iff.mp h1').1
      have h0' : (S ++ [O.lst [.py (.int a), .py (.int b')]])[0]? = some (.tab T q) := by rw [List.getElem?_append_left (by omega)]; exact h0
      have h1'' : (S ++ [O.lst [.py (.int a), .py (.int b')]])[1]? = some (.tab U r) := by rw [List.getElem?_append_left l1]; exact h1'
      have fin : ∀ σ S', Keep0 (.py (.list (ns.map .int))) (n + 2) σ ∧ Ch S.length (S ++ [.lst [.py (.int a), .py (.int b')]]) S' → Keep0 (.py (.list (ns.map .int))) (n + 2) σ ∧ S'[0]? = some (.tab T q) ∧ S'[1]? = some (.tab U r) := fun σ S' ⟨k1, k2⟩ => ⟨k1, k2.at_ h0' (by omega), k2.at_ h1'' (by omega)⟩
      exact (hb k r2 _ _ hbx h0' h1'' (by omega) (by omega) h2 hk).mono (fun σ S' h => fin σ S' h) (fun _ _ h => h.elim) (fun _ _ h => h.elim) (fun σ S' h => fin σ S' h) fun _ _ h => h.elim
    · rintro σ S ⟨_, h0, h1⟩
      have l1 : 1 < S.length := (List.getElem?_eq_some_iff.mp h1).1
      simp [he σ S h0 h1]
      refine ⟨⟨S.take 2, l1, rfl, fun i o hi e => .inl ?_⟩, rfl⟩
      have : i = 0 ∨ i = 1 := by simp at hi; omega
      rcases this with rfl | rfl
      · rw [h0] at e
        cases e
        rfl
      · rw [h1] at e
        cases e
        rfl
  obtain ⟨a, S', e, rfl⟩ := key.out
  exact ⟨S', e⟩
end DV

set_option maxHeartbeats 4000000
namespace DV
open PySem
/-! Defs that are walked. -/
theorem wp_callVL {L : List (Nat × (List D → Sto → R D))} {i : Ex} {fs : Ax} {σ : En} {S : Sto} {a : Nat} {H : List D → Sto → R D} {P : D → Sto → Prop} {E : Str → Sto → Prop} (hi : i σ S = .ok (.raw a) S) (hl : L.lookup a = some H) :
    (callV L i fs σ S).wp P E = (callE H fs σ S).wp P E := by
  unfold callV
  rw [hi]
  show (match L.lookup a with
    | some F => (fs σ S).bind fun ds S2 => F ds S2
    | none => R.no).wp P E = _
  rw [hl]
  rfl
theorem look1 {A B : Nat} {F G : List D → Sto → R D} : List.lookup A [(A, F), (B, G)] = some F := by simp
theorem look2 {A B : Nat} {F G : List D → Sto → R D} (h : A ≠ B) : List.lookup B [(A, F), (B, G)] = some G := by
  have : (B == A) = false := by simpa using fun e => h (Eq.symm e)
  simp [List.lookup, this]
@[simp] theorem fnsI_ok (as : List Nat) (σ : En) (S : Sto) : fnsI as σ S = .ok (as.map D.raw) S := id rfl
end DV

set_option maxHeartbeats 4000000
namespace DV.k53
open PySem DV
section
variable {f : Face} {P : List Pair} {G H : List (List Nat)}
/-- partings are asked: refused -/
theorem need_ex {p q : PyData} (h10 : f.ls.length ≤ 10) (fp : FitX p 8 740) (fq : FitX q 8 740) (h : ¬ (isPart f.lets p = true ∧ isPart f.lets q = true)) (T : Sto) : F_need_partings [.py f.py, .py p, .py q] T = .ex "NoParting" T := by
  have np := need_parting_any (f := f) (by omega) fp (by decide)
  have nq := need_parting_any (f := f) (by omega) fq (by decide)
  unfold F_need_partings b_need_partings
  refine wp_exq (wp_fn ?_)
  by_cases hp : isPart f.lets p = true
  · have hq : ¬ isPart f.lets q = true := fun hq => h ⟨hp, hq⟩
    simp only [hp, hq, if_true, if_false] at np nq
    simp [init, np, nq]
    exact .self
  · simp only [hp, if_false] at np
    simp [init, np]
    exact .self
theorem max_g {G : List (List Nat)} (h0 : G ≠ []) : ∃ m, (∀ T, maxD [.py (.list ((G.map fun g => ((g.length : Nat) : Int)).map PyData.int))] T = .ok (.py (.int m)) T) ∧ ((6 : Int) < m ↔ ∃ g ∈ G, 6 < g.length) := by
  obtain ⟨m, hm1, hm2⟩ := max_ex (l := G.map fun g => ((g.length : Nat) : Int)) (by simpa using h0)
  have em := maxI_eq (List.length_pos_iff.mpr (by simpa using h0)) hm1 hm2
  refine ⟨m, fun T => ?_, fun h => ?_, fun ⟨g, hg, h⟩ => ?_⟩
  · simp only [maxD, intsOf_map]
    rw [if_pos (by simpa using List.length_pos_iff.mpr h0), em]
  · obtain ⟨g, hg, rfl⟩ := List.mem_map.mp hm1
    exact ⟨g, hg, by omega⟩
  · have := hm2 _ (List.mem_map.mpr ⟨g, hg, rfl⟩)
    omega
theorem need_many (pG : IsPart f.lets G) (pH : IsPart f.lets H) (nd : f.lets.Nodup) (b : ∀ c ∈ f.lets, c ≤ 122) (h1 : f.ls.length ≤ 20) (h6 : ∃ g ∈ G, 6 < g.length) (S : Sto) : F_need_partings [.py f.py, .py (encG G), .py (encG H)] S = .ex "TooMany" S := by
  have n1 := need_part pG nd b h1
  have n2 := need_part pH nd b h1
  have cm : ∀ (x y : Int) T, cmpI (fun i j => decide (j < i)) (.py (.int x)) (.py (.int y)) T = .ok (.py (.bool (decide (y < x)))) T := fun x y T => rfl
  have ln : ∀ (g : List Nat) T, lenD [.py (.tuple (g.map lt))] T = .ok (.py (.int (g.length : Nat))) T := fun g T => by simp [lenD, seqOf]
  obtain ⟨m, mx, hm⟩ := max_g (G := G) (fun e => by obtain ⟨g, hg, _⟩ := h6; rw [e] at hg; cases hg)
  have hm := hm.mpr h6
  unfold F_need_partings b_need_partings
  refine wp_exq (wp_fn ?_)
  simp [init, n1, n2, -List.map_map]
  rw [List.map_map]
  refine wp_pureM1 (D.py ∘ fun g : List Nat => .tuple (g.map lt)) (fun g => D.py (.int (g.length : Nat))) (fun g hg => wp_eq (by simp [ln])) ?_
  have e2 : (G.map fun g => D.py (.int (g.length : Nat))) = ((G.map fun g => ((g.length : Nat) : Int)).map PyData.int).map D.py := by rw [List.map_map, List.map_map]; rfl
  rw [e2, pysOf_map]
  simp [mx, cm, hm, -List.map_map]
  exact .self
theorem two_ex {U : Nat} {p q : PyData} {c : Str} (h : ∀ T, F_need_partings [.py f.py, .py p, .py q] T = .ex c T) (T : Sto) :
    F_fewest_told [.py f.py, .py (encP P), .py p, .py q] T = .ex c T ∧ F_best_told U [.py f.py, .py (encP P), .py p, .py q] T = .ex c T := by
  constructor
  · unfold F_fewest_told b_fewest_told
    refine wp_exq (wp_fn ?_)
    simp [init, h]
    exact .self
  · unfold F_best_told b_best_told
    refine wp_exq (wp_fn ?_)
    simp [init, h]
    exact .self
end
/-- the two are asked, refused -/
theorem asks_ex {T U A B : Nat} {T1 : Sto} {f : Face} {P : List Pair} {c due : Str} {x y : PyData} {a0 a1 a2 a4 a6 a7 a8 a9 a10 a11 a12 a16 a17 a18 a19 : Option D} {N : K} (hAB : A ≠ B) (h0 : T1[0]? = some (.tab T "law.<locals>.<lambda>")) (hw : words_.lookup c = some due) (hd : due ≠ Str.ofString "")
    (h : ∀ T', F_fewest_told [.py f.py, .py (encP P), .py x, .py y] T' = .ex c T' ∧ F_best_told U [.py f.py, .py (encP P), .py x, .py y] T' = .ex c T')
    (hN : ∀ v17 v18, N.nx [a0, a1, a2, some (.py f.py), a4, some (.py (encP P)), a6, a7, a8, a9, a10, a11, a12, some (.py x), some (.py y), some (.py (.str due)), a16, v17, v18, a19] T1) :
    (q_law_4 A B T U [a0, a1, a2, some (.py f.py), a4, some (.py (encP P)), a6, a7, a8, a9, a10, a11, a12, some (.py x), some (.py y), some (.py (.str due)), a16, a17, a18, a19] T1).wp N := by
  have es : ∀ (x y : Str) T, eqD (.py (.str x)) (.py (.str y)) T = .ok (.py (.bool (decide (x = y)))) T := fun x y T => rfl
  have nes : ∀ (x y : Str) T, neD (.py (.str x)) (.py (.str y)) T = .ok (.py (.bool (!decide (x = y)))) T := fun x y T => rfl
  unfold q_law_4
  simp [-wp_forL_cons]
  refine wp_forM (ls := [A, B]) D.raw (fun _ σ T' => wipeD σ [17, 18] = [a0, a1, a2, some (.py f.py), a4, some (.py (encP P)), a6, a7, a8, a9, a10, a11, a12, some (.py x), some (.py y), some (.py (.str due)), a16, none, none, a19] ∧ T' = T1) ⟨rfl, rfl⟩ ?_ ?_
  · rintro pre z post σ T' e ⟨hσ, rfl⟩
    obtain ⟨v14, v15, rfl⟩ := slot2 hσ
    clear hσ
    have hz : z = A ∨ z = B := by
      have : z ∈ [A, B] := by rw [e]; simp
      simpa using this
    rcases hz with rfl | rfl
    · simp [wp_said h0]
      rw [wp_callVL (a := z) rfl look1]
      simp [(h _).1, hw, q_law_3, nes, es, hd]
    · simp [wp_said h0]
      rw [wp_callVL (a := z) rfl (look2 hAB)]
      simp [(h _).2, hw, q_law_3, nes, es, hd]
  · rintro σ T' ⟨hσ, rfl⟩
    obtain ⟨v14, v15, rfl⟩ := slot2 hσ
    exact hN _ _
theorem asks_ok {T U A B : Nat} {T1 : Sto} {f : Face} {P : List Pair} {x y : PyData} {a0 a1 a2 a4 a6 a7 a8 a9 a10 a11 a12 a16 a17 a18 a19 : Option D} {N : K} (hAB : A ≠ B) (h0 : T1[0]? = some (.tab T "law.<locals>.<lambda>"))
    (h : ∃ u v, Plain u ∧ Plain v ∧ (∀ T, F_fewest_told [.py f.py, .py (encP P), .py x, .py y] T = .ok (.py u) T) ∧ F_best_told U [.py f.py, .py (encP P), .py x, .py y] T1 = .ok (.py v) T1)
    (hN : ∀ v17 v18, N.nx [a0, a1, a2, some (.py f.py), a4, some (.py (encP P)), a6, a7, a8, a9, a10, a11, a12, some (.py x), some (.py y), some (.py (.str (Str.ofString ""))), a16, v17, v18, a19] T1) :
    (q_law_4 A B T U [a0, a1, a2, some (.py f.py), a4, some (.py (encP P)), a6, a7, a8, a9, a10, a11, a12, some (.py x), some (.py y), some (.py (.str (Str.ofString ""))), a16, a17, a18, a19] T1).wp N := by
  obtain ⟨u, v, pu, pv, f1, f2⟩ := h
  have es : ∀ (x y : Str) T, eqD (.py (.str x)) (.py (.str y)) T = .ok (.py (.bool (decide (x = y)))) T := fun x y T => rfl
  have nes : ∀ (x y : Str) T, neD (.py (.str x)) (.py (.str y)) T = .ok (.py (.bool (!decide (x = y)))) T := fun x y T => rfl
  unfold q_law_4
  simp [-wp_forL_cons]
  refine wp_forM (ls := [A, B]) D.raw (fun _ σ T' => wipeD σ [17, 18] = [a0, a1, a2, some (.py f.py), a4, some (.py (encP P)), a6, a7, a8, a9, a10, a11, a12, some (.py x), some (.py y), some (.py (.str (Str.ofString ""))), a16, none, none, a19] ∧ T' = T1) ⟨rfl, rfl⟩ ?_ ?_
  · rintro pre z post σ T' e ⟨hσ, rfl⟩
    obtain ⟨v14, v15, rfl⟩ := slot2 hσ
    clear hσ
    have hz : z = A ∨ z = B := by
      have : z ∈ [A, B] := by rw [e]; simp
      simpa using this
    rcases hz with rfl | rfl
    · obtain ⟨w, b1, b2⟩ := pu.bang T'
      rw [es] at b2
      simp [wp_said h0]
      rw [wp_callVL (a := z) rfl look1]
      simp [f1, pu.rep, q_law_3, nes, es, b1]
      exact .inl (by simpa using b2)
    · obtain ⟨w, b1, b2⟩ := pv.bang T'
      rw [es] at b2
      simp [wp_said h0]
      rw [wp_callVL (a := z) rfl (look2 hAB)]
      simp [f2, pv.rep, q_law_3, nes, es, b1]
      exact .inl (by simpa using b2)
  · rintro σ T' ⟨hσ, rfl⟩
    obtain ⟨v14, v15, rfl⟩ := slot2 hσ
    exact hN _ _
section
variable {T U A B n : Nat} {S : Sto} {f : Face} {P : List Pair}
theorem sides_ok {T1 : Sto} {m : Nat} {G0 : List (List Nat)} {a0 a1 a4 a5 a6 a8 a10 a11 a12 a13 a14 a15 a16 a17 a18 a19 : Option D} {N : K} (c1 : Ch n S T1) (hn : n < S.length) (hm : S.length ≤ m) (hT : T1[m]? = some (.lst [])) (lo : 0 < f.ls.length) (hi : f.ls.length ≤ 10) (nd : f.lets.Nodup) (b : ∀ c ∈ f.lets, c ≤ 122) (hG0 : IsPart f.lets G0)
    (hN : ∀ p q T2 v10 v11 v12, FitX p 8 740 → FitX q 8 740 → Ch n S T2 → T2[m]? = some (.lst [.py p, .py q]) → N.nx [a0, a1, some (.obj n), some (.py f.py), a4, a5, a6, some (.py (encG G0)), a8, some (.obj m), v10, v11, v12, a13, a14, a15, a16, a17, a18, a19] T2) :
    (q_law_0 A B T U [a0, a1, some (.obj n), some (.py f.py), a4, a5, a6, some (.py (encG G0)), a8, some (.obj m), a10, a11, a12, a13, a14, a15, a16, a17, a18, a19] T1).wp N := by
  unfold q_law_0
  simp [-wp_forL_cons]
  refine wp_forL (fun pre σ T2 => wipeD σ [10, 11, 12] = [a0, a1, some (.obj n), some (.py f.py), a4, a5, a6, some (.py (encG G0)), a8, some (.obj m), none, none, none, a13, a14, a15, a16, a17, a18, a19] ∧ Ch n S T2 ∧ ∃ ds : List PyData, T2[m]? = some (.lst (ds.map D.py)) ∧ ds.length = pre.length ∧ ∀ d ∈ ds, FitX d 8 740) ⟨rfl, c1, [], hT, rfl, by simp⟩ ?_ ?_
  · rintro pre x post σ T2 e ⟨hσ, c2, ds, hds, hl, hf⟩
    obtain ⟨v7, v8, v9, rfl⟩ := slot3 hσ
    clear hσ
    have hpre : pre.length ≤ 2 := by
      have := congrArg List.length e
      simp [rngV] at this
      omega
    try simp
    refine (law_parting_ok (n := n) (most := 4) c2.box nd (by omega) (by omega) (by omega)).to ?_
    rintro _ T3 ⟨G1, rfl, _, hG1, c3, _⟩
    have c3' := c2.trans c3
    simp [pysOf]
    refine (take_ok c3'.box (by decide) (by decide)).to ?_
    rintro _ T3b ⟨r0, rfl, r00, r01, c3b, _⟩
    have c3b' := c3'.trans c3b
    obtain ⟨G, hG, ig⟩ : ∃ G, IsPart f.lets G ∧ ∀ T, itemD (.py (.list [encG G0, encG G1])) (.py (.int r0)) T = .ok (.py (encG G)) T := by
      have : r0 = 0 ∨ r0 = 1 := by omega
      rcases this with rfl | rfl
      · exact ⟨_, hG0, fun T => itemD_list 0 rfl⟩
      · exact ⟨_, hG1, fun T => itemD_list 1 rfl⟩
    have fG := (part_fitS b hi hG).x
    have tG : Tr 6 (encG G) := tr_cls (by have := hG.len2; simp at this; omega) fun g hg => by have := hG.len1 hg; simp at this; omega
    simp only [ig, wp_ok]
    try simp
    refine (law_odd_okL c3b'.box b lo (by omega)).to ?_
    rintro _ T4 ⟨o, rfl, _, _, fo, _, c4⟩
    have c4' := c3b'.trans c4
    try simp
    refine (law_spoil_ok 6 c4'.box tG fG fo).to ?_
    rintro _ T5 ⟨p1, rfl, f1, c5⟩
    have c5' := c4'.trans c5
    try simp
    refine (law_odd_okL c5'.box b lo (by omega)).to ?_
    rintro _ T6 ⟨o2, rfl, _, _, fo2, _, c6⟩
    have c6' := c5'.trans c6
    simp [pysOf]
    have h6 : T6[m]? = some (.lst (ds.map D.py)) := (c3.trans (c3b.trans (c4.trans (c5.trans c6)))).at_ hds (by omega)
    refine ⟨lsOk_obj h6, ?_⟩
    refine (take_ok c6'.box (by decide) (by decide)).to ?_
    rintro _ T7 ⟨r, rfl, r0', r1, c7, _⟩
    have c7' := c6'.trans c7
    obtain ⟨d, fd, id⟩ : ∃ d, FitX d 8 740 ∧ ∀ T, itemD (.py (.list [encG G, encG G, p1, o2])) (.py (.int r)) T = .ok (.py d) T := by
      have : r = 0 ∨ r = 1 ∨ r = 2 ∨ r = 3 := by omega
      rcases this with rfl | rfl | rfl | rfl
      · exact ⟨_, fG.mono (by decide) (by decide), fun T => itemD_list 0 rfl⟩
      · exact ⟨_, fG.mono (by decide) (by decide), fun T => itemD_list 1 rfl⟩
      · exact ⟨_, f1.mono (by decide) (by decide), fun T => itemD_list 2 rfl⟩
      · exact ⟨_, fo2.mono (by decide) (by decide), fun T => itemD_list 3 rfl⟩
    have h7 : T7[m]? = some (.lst (ds.map D.py)) := (c3.trans (c3b.trans (c4.trans (c5.trans (c6.trans c7))))).at_ hds (by omega)
    obtain ⟨V, p1, u1, g1⟩ := app_own c7' hm hn h7 (by omega) d
    simp [id, p1]
    refine ⟨u1, ds ++ [d], by simpa using g1, by simp; omega, fun x hx => ?_⟩
    rcases List.mem_append.mp hx with hx | hx
    · exact hf x hx
    · rw [List.mem_singleton.mp hx]
      exact fd
  · rintro σ T2 ⟨hσ, c2, ds, hds, hl, hf⟩
    obtain ⟨v7, v8, v9, rfl⟩ := slot3 hσ
    clear hσ
    have h2 : ds.length = 2 := by rw [hl]; rfl
    match ds, h2 with
    | [p, q], _ => exact hN p q T2 _ _ _ (hf p (by simp)) (hf q (by simp)) c2 hds
end
theorem great_part {L : List Nat} (nd : L.Nodup) (hL : L ≠ []) (k : Nat) (hk : 0 < k) : IsPart L ([L.take k, L.drop k].filter fun g => !decide (g = [])) := by
  have sub : ∀ g ∈ [L.take k, L.drop k].filter (fun g => !decide (g = [])), g.Sublist L ∧ g ≠ [] := fun g hg => by
    obtain ⟨h1, h2⟩ := List.mem_filter.mp hg
    refine ⟨?_, by simpa using h2⟩
    simp only [List.mem_cons, List.not_mem_nil, or_false] at h1
    rcases h1 with rfl | rfl
    · exact List.take_sublist _ _
    · exact List.drop_sublist _ _
  refine ⟨fun g hg => (sub g hg).2, fun g hg => sub_srt nd (sub g hg).1, fun g hg c hc => (sub g hg).1.subset hc, ?_, ?_⟩
  · have h1 : L.take k ≠ [] := fun e => by
      have h1 := congrArg List.length e
      have h2 := List.length_pos_iff.mpr hL
      rw [List.length_take, List.length_nil] at h1
      omega
    by_cases h2 : L.drop k = []
    · simp [h1, h2, List.filter_cons]
    · have hl : k < L.length := by
        have := List.length_pos_iff.mpr h2
        rw [List.length_drop] at this
        omega
      have e1 : hd0 (L.take k) = L[0]'(by omega) := by
        obtain ⟨x, xs, rfl⟩ := List.exists_cons_of_ne_nil hL
        obtain ⟨j, rfl⟩ : ∃ j, k = j + 1 := ⟨k - 1, by omega⟩
        rfl
      have e2 : hd0 (L.drop k) = L[k] := by
        rw [List.drop_eq_getElem_cons hl]
        rfl
      have p1 : plc L (L[0]'(by omega)) = 0 := plc_at nd (by simp)
      have p2 : plc L L[k] = k := plc_at nd (by simp)
      simp [h1, h2, List.filter_cons, e1, e2, p1, p2, hk]
  · have : ∀ G : List (List Nat), (G.filter fun g => !decide (g = [])).flatten = G.flatten := fun G => by
      induction G with
      | nil => rfl
      | cons g G ih =>
        rw [List.filter_cons]
        by_cases h : g = []
        · subst h
          simpa using ih
        · simp [h, ih]
    rw [this]
    simp
def Inv (n : Nat) (S : Sto) (hd : En) (σ : En) (T : Sto) : Prop := (∃ t, σ = hd ++ t ∧ t.length = 12) ∧ Ch n S T
-- slots: 0 _law_script, 1 _law_k, 2 _law_box_here, 3 face, 4 letters, 5 pairs, 6 at, 7 great, 8 turn, 9 sides, 10 side, 11 parting, 12 some, 13 left, 14 right, 15 due, 16 held, 17 call, 18 found, 19 one
theorem true_law (A B : Nat) (hAB : A ≠ B) (T U : Nat) (ns : List Int) (hTU : T ≠ U) (h : ns.length ≤ 63) : ∃ S', F_law A B T U [.py (.list (ns.map .int))] [.tab T "law.<locals>.<lambda>", .tab U "best_told.<locals>.<lambda>"] = .ok (.py (.bool true)) S' := by
  refine law_allT2 (n := 17) (c := 4) (by decide) (by decide) (fun σ S h0 h1 => rfl) ?_
  intro k ys S n hB h0 h1 n0 n1 hy hk
  obtain ⟨y3, r3, rfl, h3⟩ := explode hy
  obtain ⟨y4, r4, rfl, h4⟩ := explode h3
  obtain ⟨y5, r5, rfl, h5⟩ := explode h4
  obtain ⟨y6, r6, rfl, h6⟩ := explode h5
  obtain ⟨y7, r7, rfl, h7⟩ := explode h6
  obtain ⟨y8, r8, rfl, h8⟩ := explode h7
  obtain ⟨y9, r9, rfl, h9⟩ := explode h8
  obtain ⟨y10, r10, rfl, h10⟩ := explode h9
  obtain ⟨y11, r11, rfl, h11⟩ := explode h10
  obtain ⟨y12, r12, rfl, h12⟩ := explode h11
  obtain ⟨y13, r13, rfl, h13⟩ := explode h12
  obtain ⟨y14, r14, rfl, h14⟩ := explode h13
  obtain ⟨y15, r15, rfl, h15⟩ := explode h14
  obtain ⟨y16, r16, rfl, h16⟩ := explode h15
  obtain ⟨y17, r17, rfl, h17⟩ := explode h16
  obtain ⟨y18, r18, rfl, h18⟩ := explode h17
  obtain ⟨y19, r19, rfl, h19⟩ := explode h18
  obtain rfl := nil_of h19
  have hn := hB.lt
  clear h3 h4 h5 h6 h7 h8 h9 h10 h11 h12 h13 h14 h15 h16 h17 h18 h19 hy
  have tk : ∀ {T : Sto} (m : Int), Ch n S T → 0 < m → m < 1073741824 → (F_law_take [.obj n, .py (.int m)] T).wp (fun d S2 => ∃ r, d = .py (PyData.int r) ∧ (0 ≤ r ∧ r < m) ∧ Ch n T S2) noE := fun m c a b =>
    (take_ok c.box a b).to fun d S2 ⟨r, e, r0, r1, c2, _⟩ => ⟨r, e, ⟨r0, r1⟩, c2⟩
  simp
  refine (tk 3 (Ch.refl hB) (by decide) (by decide)).to ?_
  rintro _ S0 ⟨gr, rfl, hgr, c0⟩
  obtain ⟨lo', it, hlo⟩ : ∃ lo' : Int, (∀ T, itemD (.py (.list [.int 1, .int 6, .int 7])) (.py (.int gr)) T = .ok (.py (.int lo')) T) ∧ 1 ≤ lo' ∧ lo' ≤ 7 := by
    have : gr = 0 ∨ gr = 1 ∨ gr = 2 := by omega
    rcases this with rfl | rfl | rfl
    · exact ⟨1, fun T => itemD_list 0 rfl, by omega, by omega⟩
    · exact ⟨6, fun T => itemD_list 1 rfl, by omega, by omega⟩
    · exact ⟨7, fun T => itemD_list 2 rfl, by omega, by omega⟩
  simp only [it, wp_ok]
  refine (face_ok (n := n) (lo := lo') (hi := 10) c0.box (by omega) (by omega) (by omega)).to ?_
  rintro _ S1 ⟨f, rfl, gf, c1, _⟩
  have c01 := c0.trans c1
  have lo := gf.lo
  have hi := gf.hi
  have b122 : ∀ c ∈ f.lets, c ≤ 122 := fun c hc => (gf.mem hc).2
  have nd : f.lets.Nodup := gf.nd
  have llen : f.lets.length = f.ls.length := by simp
  have ll := law_letters_eq f
  simp [ll, -List.map_map]
  have i30 : ∀ S', F_law_list [.py f.py, .py (.list ((f.lets.map fun a => f.lets.map fun b => if a = b then (0 : Int) else 1).map lstI))] S' = _ := fun S' => law_list_eq f (f.lets.map fun a => f.lets.map fun b => if a = b then (0 : Int) else 1) S' (by omega)
  rw [List.map_map]
  refine wp_pureM1 (D.py ∘ lt) (fun a => D.py (lstI (f.lets.map fun b => if a = b then (0 : Int) else 1))) (fun a ha => wp_eq ?_) ?_
  · simp [-List.map_map]
    rw [List.map_map]
    refine wp_pureM1 (D.py ∘ lt) (fun b => D.py (.int (if a = b then 0 else 1))) (fun b hb => wp_eq ?_) ?_
    · have q := ne_lt a b S1
      by_cases h : a = b
      · subst h
        simp [q, intD]
      · simp [q, intD, h]
    have e2 : (f.lets.map fun b => D.py (.int (if a = b then 0 else 1))) = ((f.lets.map fun b => if a = b then (0 : Int) else 1).map PyData.int).map D.py := by rw [List.map_map, List.map_map]; rfl
    rw [e2, pysOf_map]
    simp
  have e2 : (f.lets.map fun a => D.py (lstI (f.lets.map fun b => if a = b then (0 : Int) else 1))) = ((f.lets.map fun a => f.lets.map fun b => if a = b then (0 : Int) else 1).map lstI).map D.py := by rw [List.map_map, List.map_map]; rfl
  rw [e2, pysOf_map]
  simp only [i30, wp_ok]
  obtain ⟨P0, eP0⟩ : ∃ P0, P0 = mlist f.lets (f.lets.map fun a => f.lets.map fun b => if a = b then (0 : Int) else 1) := ⟨_, rfl⟩
  have hR : ∀ r ∈ (f.lets.map fun a => f.lets.map fun b => if a = b then (0 : Int) else 1), ∀ x ∈ r, -9 ≤ x ∧ x ≤ 9 := fun r hr x hx => by
    obtain ⟨a, _, rfl⟩ := List.mem_map.mp hr
    obtain ⟨b, _, rfl⟩ := List.mem_map.mp hx
    split <;> omega
  have hP0 : PG P0 := by
    rw [eP0]
    exact PG.mlist b122 (fun r hr x hx => by have := hR r hr x hx; omega) (by omega)
  have g0 : ∀ p ∈ P0, gapB p.2.2 := fun p hp => by
    rw [eP0] at hp
    obtain ⟨i, j, row, k1, k2, k3, k4, _⟩ := mem_mlist hp
    exact hR _ (List.mem_of_getElem? k2) _ (List.mem_of_getElem? k4)
  rw [← eP0]
  have sl30 : ∀ S', sliceV (.py (encP P0)) none (some 30) S' = .ok (.py (encP (P0.take 30))) S' := fun S' => by
    have := slice_to (ds := P0.map encT) (n := 30) S'
    rw [← List.map_take] at this
    exact this
  have hP : PG (P0.take 30) := ⟨Nat.le_trans (List.length_take_le _ _) (by decide), fun p hp => hP0.lts p (List.mem_of_mem_take hp), fun p hp => hP0.gap p (List.mem_of_mem_take hp)⟩
  have g9 : ∀ a b, gapB (gapIn (P0.take 30) a b) := fun a b => gapIn_any (Q := gapB) (by unfold gapB; omega) (fun p hp => g0 p (List.mem_of_mem_take hp)) a b
  generalize P0.take 30 = P at *
  simp only [sl30, wp_ok]
  refine (tk 2 c01 (by decide) (by decide)).to ?_
  rintro _ S2 ⟨ra, rfl, hra, c2⟩
  have c12 := c01.trans c2
  obtain ⟨at_, ha, hat⟩ : ∃ at_ : Nat, 6 + ra = (at_ : Int) ∧ 0 < at_ := ⟨(6 + ra).toNat, by omega, by omega⟩
  have ad : ∀ T, addD (.py (.int 6)) (.py (.int ra)) T = .ok (.py (.int (at_ : Nat))) T := fun T => by rw [← ha]; rfl
  have sa : ∀ S', sliceAV (.py (.list (f.lets.map lt))) none (some (at_ : Int)) S' = .ok (.py (.list ((f.lets.take at_).map lt))) S' := fun S' => by
    simp only [sliceAV, cut_to, List.map_take]
  have sb : ∀ S', sliceAV (.py (.list (f.lets.map lt))) (some (at_ : Int)) none S' = .ok (.py (.list ((f.lets.drop at_).map lt))) S' := fun S' => by
    simp only [sliceAV, cut_from, List.map_drop]
  have hL : f.lets ≠ [] := fun e => by rw [e] at llen; simp at llen; omega
  have hG0 := great_part nd hL at_ hat
  have one : ∀ g : List Nat, g.length ≤ 20 → (∀ c ∈ g, c ≤ 122) → ∀ T, neD (.py (.tuple (g.map lt))) (.py (.tuple [])) T = .ok (.py (.bool (!decide (g = [])))) T := fun g hg hc T => neD_of (eq_unit hc (by omega) T)
  simp [ad, sa, sb, pysOf, -List.map_map, -List.map_take, -List.map_drop]
  refine wp_pureM (ls := [f.lets.take at_, f.lets.drop at_]) (fun g => D.py (.tuple (g.map lt))) (fun g => !decide (g = [])) (fun g => D.py (.tuple (g.map lt))) (fun g hg => ?_) ?_
  · have hg' : g.length ≤ 20 ∧ ∀ c ∈ g, c ≤ 122 := by
      simp only [List.mem_cons, List.not_mem_nil, or_false] at hg
      rcases hg with rfl | rfl
      · exact ⟨by rw [List.length_take]; omega, fun c hc => b122 c (List.mem_of_mem_take hc)⟩
      · exact ⟨by rw [List.length_drop]; omega, fun c hc => b122 c (List.mem_of_mem_drop hc)⟩
    simp [one g hg'.1 hg'.2]
    exact Decidable.em _
  have e3 : (([f.lets.take at_, f.lets.drop at_].filter fun g => !decide (g = [])).map fun g => D.py (.tuple (g.map lt))) = (([f.lets.take at_, f.lets.drop at_].filter fun g => !decide (g = [])).map fun g => .tuple (g.map lt)).map D.py := by rw [List.map_map]; rfl
  rw [e3, pysOf_map]
  simp only [wp_ok]
  generalize ([f.lets.take at_, f.lets.drop at_].filter fun g => !decide (g = [])) = G0 at *
  have w1 : words_.lookup (Str.ofString "NoParting") = some (Str.ofString "! parting") := by decide +kernel
  have w3 : words_.lookup (Str.ofString "TooMany") = some (Str.ofString "! many") := by decide +kernel
  have u1 : Str.ofString "! parting" ≠ Str.ofString "" := by decide +kernel
  have u3 : Str.ofString "! many" ≠ Str.ofString "" := by decide +kernel
  have cm : ∀ (x y : Int) T, cmpI (fun i j => decide (j < i)) (.py (.int x)) (.py (.int y)) T = .ok (.py (.bool (decide (y < x)))) T := fun x y T => rfl
  have lng : ∀ (g : List Nat) T, lenD [.py (.tuple (g.map lt))] T = .ok (.py (.int (g.length : Nat))) T := fun g T => by simp [lenD, seqOf]
  have nes : ∀ (x : Str) T, neD (.py (.str x)) (.py (.str x)) T = .ok (.py (.bool false)) T := fun x T => by
    show DV.R.ok (D.py (.bool (!decide (x = x)))) T = _
    simp
  simp [q_law_6, -wp_forL_cons]
  refine wp_forL (fun _ σ T' => Inv n S [some (D.py (PyData.list (List.map PyData.int ns))), some (D.py (PyData.int ↑k)), some (D.obj n), some (D.py f.py), some (D.py (PyData.list (List.map lt f.lets))), some (D.py (encP P)), some (D.py (PyData.int ↑at_)), some (D.py (encG G0))] σ T') ⟨⟨[y8, y9, y10, y11, y12, y13, y14, y15, y16, y17, y18, y19], rfl, rfl⟩, c12⟩ ?_ ?_
  · rintro pre x post σ T1 e ⟨⟨t, rfl, ht⟩, cT⟩
    clear e
    obtain ⟨z8, r8, rfl, q8⟩ := explode ht
    obtain ⟨z9, r9, rfl, q9⟩ := explode q8
    obtain ⟨z10, r10, rfl, q10⟩ := explode q9
    obtain ⟨z11, r11, rfl, q11⟩ := explode q10
    obtain ⟨z12, r12, rfl, q12⟩ := explode q11
    obtain ⟨z13, r13, rfl, q13⟩ := explode q12
    obtain ⟨z14, r14, rfl, q14⟩ := explode q13
    obtain ⟨z15, r15, rfl, q15⟩ := explode q14
    obtain ⟨z16, r16, rfl, q16⟩ := explode q15
    obtain ⟨z17, r17, rfl, q17⟩ := explode q16
    obtain ⟨z18, r18, rfl, q18⟩ := explode q17
    obtain ⟨z19, r19, rfl, q19⟩ := explode q18
    obtain rfl := nil_of q19
    clear ht q8 q9 q10 q11 q12 q13 q14 q15 q16 q17 q18 q19
    simp [-wp_andE, -wp_ifE]
    refine sides_ok (S := S) (m := T1.length) (G0 := G0) (cT.trans (Ch.app cT.box)) hn cT.le (by simp) (by omega) (by omega) nd b122 hG0 ?_
    intro p q T2 v10 v11 v12 fp fq c2' g2
    show (fixS 9 _ _).wp _
    refine fix_own (m := T1.length) (ds := [p, q]) rfl g2 ?_
    have c3 : Ch n S (T2.set T1.length .gone) := c2'.own cT.le hn
    generalize T2.set T1.length .gone = T3 at *
    have fpq : FitX (.list [p, q]) 9 2000 := (FitX.list (.cons fp (.cons fq (FitXL.nil (w := 0))))).mono (by decide) (by decide)
    have rpq := fpq.repr (by decide) (by decide)
    have ip := fun T => law_is_parting_any (f := f) (p := p) b122 (by omega) fp (by decide) T
    have iq := fun T => law_is_parting_any (f := f) (p := q) b122 (by omega) fq (by decide) T
    have hT3 := c3.at_ h0 (Ne.symm n0)
    have hU3 : tabIn U "best_told.<locals>.<lambda>" T3 := ⟨1, c3.at_ h1 (Ne.symm n1)⟩
    simp [rpq, ip, iq, pysOf, -wp_andE, -wp_ifE]
    have fin : ∀ (N : K) (due v17 v18 : Option D), N.nx [some (D.py (PyData.list (List.map PyData.int ns))), some (D.py (PyData.int ↑k)), some (D.obj n), some (D.py f.py), some (D.py (PyData.list (List.map lt f.lets))), some (D.py (encP P)), some (D.py (PyData.int ↑at_)), some (D.py (encG G0)), some x, some (D.py (PyData.list [p, q])), v10, v11, v12, some (D.py p), some (D.py q), due, some (D.py (PyData.str (PyData.list [p, q]).shown)), v17, v18, z19] T3 →
        (q_law_5 A B T U [some (D.py (PyData.list (List.map PyData.int ns))), some (D.py (PyData.int ↑k)), some (D.obj n), some (D.py f.py), some (D.py (PyData.list (List.map lt f.lets))), some (D.py (encP P)), some (D.py (PyData.int ↑at_)), some (D.py (encG G0)), some x, some (D.py (PyData.list [p, q])), v10, v11, v12, some (D.py p), some (D.py q), due, some (D.py (PyData.str (PyData.list [p, q]).shown)), v17, v18, z19] T3).wp N := fun N due v17 v18 h => by
      simp [q_law_5, rpq, nes]
      exact h
    by_cases hd : isPart f.lets p = true ∧ isPart f.lets q = true
    · obtain ⟨hp, hq⟩ := hd
      obtain ⟨G, rfl, hG⟩ := part_is nd hp
      obtain ⟨H, rfl, hH⟩ := part_is nd hq
      simp only [hp] at ip
      simp only [hq] at iq
      have ne0 : G ≠ [] := fun h => by
        have := hG.perm.length_eq
        rw [h] at this
        simp at this
        omega
      obtain ⟨m, mx, hm⟩ := max_g ne0
      simp [q_law_2, ip, iq, q_law_1, -List.map_map]
      rw [List.map_map]
      refine wp_pureM1 (D.py ∘ fun g : List Nat => .tuple (g.map lt)) (fun g => D.py (.int (g.length : Nat))) (fun g hg => wp_eq (by simp [lng])) ?_
      have e2 : (G.map fun g => D.py (.int (g.length : Nat))) = ((G.map fun g => ((g.length : Nat) : Int)).map PyData.int).map D.py := by rw [List.map_map, List.map_map]; rfl
      rw [e2, pysOf_map]
      by_cases h6 : ∃ g ∈ G, 6 < g.length
      · have d6 := hm.mpr h6
        simp only [mx, wp_ok]
        simp [cm, d6]
        exact asks_ex hAB hT3 w3 u3 (two_ex (need_many hG hH nd b122 (by omega) h6)) fun v17 v18 => fin _ _ _ _ ⟨⟨_, rfl, rfl⟩, c3⟩
      · have d6 : ¬ (6 : Int) < m := fun h => h6 (hm.mp h)
        have h6' : ∀ g ∈ G, g.length ≤ 6 := fun g hg => Nat.not_lt.mp fun h => h6 ⟨g, hg, h⟩
        have ok : ∀ g ∈ G, ∀ h ∈ H, OkB (blkM P g h) h.length := fun g hg h hh => blk_ok hP ⟨List.length_pos_iff.mpr (hG.ne g hg), h6' g hg⟩ ⟨List.length_pos_iff.mpr (hH.ne h hh), by have := hH.len1 hh; omega⟩
        have hT := best_in (L := f.lets) hG hH nd ok g9
        have bn := minS_bnd hP hG hH (by omega) h6'
        have pb : Plain (bestT f.lets P G H).py := plain_of (tab_py_fit hT (by omega) b122) (by decide) (by decide) (.inl ⟨_, rfl⟩)
        have pm : Plain (.int (minS P G H)) := plain_of (Fit.int (by omega) (by omega)) (by decide) (by decide) (.inr (.inr ⟨_, rfl⟩))
        simp only [mx, wp_ok]
        simp [cm, d6]
        exact asks_ok hAB hT3 ⟨_, _, pm, pb, fun T => fewest_told_eq hP hG hH nd b122 (by omega) h6' ne0 T, best_told_eq hP hG hH nd b122 (by omega) h6' ne0 hU3⟩ fun v17 v18 => fin _ _ _ _ ⟨⟨_, rfl, rfl⟩, c3⟩
    · have : ∀ (N : K), N.nx [some (D.py (PyData.list (List.map PyData.int ns))), some (D.py (PyData.int ↑k)), some (D.obj n), some (D.py f.py), some (D.py (PyData.list (List.map lt f.lets))), some (D.py (encP P)), some (D.py (PyData.int ↑at_)), some (D.py (encG G0)), some x, some (D.py (PyData.list [p, q])), v10, v11, v12, some (D.py p), some (D.py q), some (D.py (PyData.str (Str.ofString "! parting"))), some (D.py (PyData.str (PyData.list [p, q]).shown)), z17, z18, z19] T3 →
          (q_law_2 A B T U [some (D.py (PyData.list (List.map PyData.int ns))), some (D.py (PyData.int ↑k)), some (D.obj n), some (D.py f.py), some (D.py (PyData.list (List.map lt f.lets))), some (D.py (encP P)), some (D.py (PyData.int ↑at_)), some (D.py (encG G0)), some x, some (D.py (PyData.list [p, q])), v10, v11, v12, some (D.py p), some (D.py q), some (D.py (PyData.str (Str.ofString ""))), some (D.py (PyData.str (PyData.list [p, q]).shown)), z17, z18, z19] T3).wp N := fun N h => by
        by_cases hp : isPart f.lets p = true
        · have hq : isPart f.lets q = false := by
            cases z : isPart f.lets q with
            | false => rfl
            | true => exact absurd ⟨hp, z⟩ hd
          simp only [hp] at ip
          simp only [hq] at iq
          simp [q_law_2, ip, iq]
          exact h
        · have hp : isPart f.lets p = false := by simpa using hp
          simp only [hp] at ip
          simp [q_law_2, ip]
          exact h
      refine this _ ?_
      exact asks_ex hAB hT3 w1 u1 (two_ex (need_ex (by omega) fp fq hd)) fun v17 v18 => fin _ _ _ _ ⟨⟨_, rfl, rfl⟩, c3⟩
  · rintro σ T1 ⟨⟨t, rfl, ht⟩, cT⟩
    exact ⟨.mk (by simp [ht]), cT⟩
end DV.k53

open PySem PySem.W PyProof.Rows
set_option maxHeartbeats 0 in
theorem PySem.Challenge.cw_stampgaps_k53_which_refusal_of_kinds_holds : PySem.Challenge.rw_stampgaps_k53_which_refusal_of_kinds.Holds := by
  w_on; o_law; k_head; (case hw => w_witness2)
  k_fill
  refine DV.walk_ofT2 (l := PySem.Challenge.rw_stampgaps_k53_which_refusal_of_kinds) (n := 63) (k := 8) (x := "_law_script") (F := DV.k53.F_law ?adA ?adB) (qn := "law.<locals>.<lambda>") (qu := "best_told.<locals>.<lambda>") (cL := ?cL) (cU := ?cU) rfl (by decide) rfl ⟨rfl, by decide, by decide⟩ (fun w h Y => ⟨PySem.W.km_in_of Y, PySem.W.km_tabs_of Y _ (List.mem_cons_of_mem _ (List.mem_cons_self ..)), PySem.W.km_tabs_of Y _ (List.mem_cons_self ..)⟩) ?ntb ?ntu ?cdh ?cdu ?net ?F (DV.k53.true_law ?adA ?adB ?neab)
  case F =>
    intro w mg fa h KX G hmg
    refine' DV.k53.all_mk KX G hmg ?a0 ?l0 ?c0 ?k0 ?a1 ?l1 ?c1 ?k1 ?a2 ?l2 ?c2 ?k2 ?a3 ?l3 ?c3 ?k3 ?a4 ?l4 ?c4 ?k4 ?a5 ?l5 ?c5 ?k5 ?a6 ?l6 ?c6 ?k6 ?a7 ?l7 ?c7 ?k7 ?a8 ?l8 ?c8 ?k8 ?a9 ?l9 ?c9 ?k9 ?a10 ?l10 ?c10 ?k10 ?a11 ?l11 ?c11 ?k11 ?a12 ?l12 ?c12 ?k12 ?a13 ?l13 ?c13 ?k13 ?a14 ?l14 ?c14 ?k14 ?a15 ?l15 ?c15 ?k15 ?a16 ?l16 ?c16 ?k16 ?a17 ?l17 ?c17 ?k17 ?a18 ?l18 ?c18 ?k18 ?a19 ?l19 ?c19 ?k19 ?a20 ?l20 ?c20 ?k20 ?a21 ?l21 ?c21 ?k21 ?a22 ?l22 ?c22 ?k22 ?a23 ?l23 ?c23 ?k23 ?a24 ?l24 ?c24 ?k24 ?a25 ?l25 ?c25 ?k25 ?a26 ?l26 ?c26 ?k26 ?xa_NoParting ?h1_NoParting ?q1_NoParting ?q2_NoParting ?q3_NoParting ?q4_NoParting ?h2_NoParting ?q5_NoParting ?n1_NoParting ?h3_NoParting ?q6_NoParting ?h4_NoParting ?q7_NoParting ?n2_NoParting ?xk_NoParting ?xb_NoParting ?xt_NoParting ?xa_TooMany ?h1_TooMany ?q1_TooMany ?q2_TooMany ?q3_TooMany ?q4_TooMany ?h2_TooMany ?q5_TooMany ?n1_TooMany ?h3_TooMany ?q6_TooMany ?h4_TooMany ?q7_TooMany ?n2_TooMany ?xk_TooMany ?xb_TooMany ?xt_TooMany ?xa_NoLetter ?xa_NoGap ?xa_NoRows ?xa_NoTable ?xa_NoOpen ?xa_NoLine ?xa_NoPiece ?xa_NoNumber ?xa_NoDeed ?xa_NoText ?xa_NoWord ?xa_Clash ?xa_Kept ?xa_TooWide ?xa_GapError ?e0_NoParting ?e1_NoParting ?e2_NoParting ?e3_NoParting ?e4_NoParting ?e5_NoParting ?e6_NoParting ?e7_NoParting ?kt_NoParting_NoLetter ?kt_NoParting_NoGap ?kt_NoParting_NoRows ?kt_NoParting_NoParting ?kt_NoParting_NoTable ?kt_NoParting_NoOpen ?kt_NoParting_NoLine ?kt_NoParting_NoPiece ?kt_NoParting_NoNumber ?kt_NoParting_NoDeed ?kt_NoParting_NoText ?kt_NoParting_NoWord ?kt_NoParting_Clash ?kt_NoParting_Kept ?kt_NoParting_TooWide ?kt_NoParting_TooMany ?kv_NoParting ?hx_NoParting ?e0_TooMany ?e1_TooMany ?e2_TooMany ?e3_TooMany ?e4_TooMany ?e5_TooMany ?e6_TooMany ?e7_TooMany ?kt_TooMany_NoLetter ?kt_TooMany_NoGap ?kt_TooMany_NoRows ?kt_TooMany_NoParting ?kt_TooMany_NoTable ?kt_TooMany_NoOpen ?kt_TooMany_NoLine ?kt_TooMany_NoPiece ?kt_TooMany_NoNumber ?kt_TooMany_NoDeed ?kt_TooMany_NoText ?kt_TooMany_NoWord ?kt_TooMany_Clash ?kt_TooMany_Kept ?kt_TooMany_TooWide ?kt_TooMany_TooMany ?kv_TooMany ?hx_TooMany ?zc_MOST_ROWS ?z_enumerate ?z_isinstance ?z_tuple ?z_sorted ?z_sum ?z_list ?z_range ?z_len ?z_min ?z_zip ?z_set ?z_max ?z_abs ?z_divmod ?z_int ?z_str ?z_repr ?z_ValueError
    (case a0 => k_is); (case l0 => k_is); (case c0 => k_is); (case k0 => k_is); (case a1 => k_is); (case l1 => k_is); (case c1 => k_is); (case k1 => k_is); (case a2 => k_is); (case l2 => k_is); (case c2 => k_is); (case k2 => k_is); (case a3 => k_is); (case l3 => k_is); (case c3 => k_is); (case k3 => k_is); (case a4 => k_is); (case l4 => k_is); (case c4 => k_is); (case k4 => k_is); (case a5 => k_is); (case l5 => k_is); (case c5 => k_is); (case k5 => k_is); (case a6 => k_is); (case l6 => k_is); (case c6 => k_is); (case k6 => k_is); (case a7 => k_is); (case l7 => k_is); (case c7 => k_is); (case k7 => k_is); (case a8 => k_is); (case l8 => k_is); (case c8 => k_is); (case k8 => k_is); (case a9 => k_is); (case l9 => k_is); (case c9 => k_is); (case k9 => k_is); (case a10 => k_is); (case l10 => k_is); (case c10 => k_is); (case k10 => k_is); (case a11 => k_is); (case l11 => k_is); (case c11 => k_is); (case k11 => k_is); (case a12 => k_is); (case l12 => k_is); (case c12 => k_is); (case k12 => k_is); (case a13 => k_is); (case l13 => k_is); (case c13 => k_is); (case k13 => k_is); (case a14 => k_is); (case l14 => k_is); (case c14 => k_is); (case k14 => k_is); (case a15 => k_is); (case l15 => k_is); (case c15 => k_is); (case k15 => k_is); (case a16 => k_is); (case l16 => k_is); (case c16 => k_is); (case k16 => k_is); (case a17 => k_is); (case l17 => k_is); (case c17 => k_is); (case k17 => k_is); (case a18 => k_is); (case l18 => k_is); (case c18 => k_is); (case k18 => k_is); (case a19 => k_is); (case l19 => k_is); (case c19 => k_is); (case k19 => k_is); (case a20 => k_is); (case l20 => k_is); (case c20 => k_is); (case k20 => k_is); (case a21 => k_is); (case l21 => k_is); (case c21 => k_is); (case k21 => k_is); (case a22 => k_is); (case l22 => k_is); (case c22 => k_is); (case k22 => k_is); (case a23 => k_is); (case l23 => k_is); (case c23 => k_is); (case k23 => k_is); (case a24 => k_is); (case l24 => k_is); (case c24 => k_is); (case k24 => k_is); (case a25 => k_is); (case l25 => k_is); (case c25 => k_is); (case k25 => k_is); (case a26 => k_is); (case l26 => k_is); (case c26 => k_is); (case k26 => k_is); (case xa_NoParting => k_is); (case h1_NoParting => k_is); (case q1_NoParting => exact rfl); (case q2_NoParting => exact rfl); (case q3_NoParting => exact rfl); (case q4_NoParting => exact rfl); (case h2_NoParting => k_is); (case q5_NoParting => exact rfl); (case n1_NoParting => k_is); (case h3_NoParting => k_is); (case q6_NoParting => exact rfl); (case h4_NoParting => k_is); (case q7_NoParting => exact rfl); (case n2_NoParting => k_is); (case xk_NoParting => k_is); (case xb_NoParting => k_is); (case xt_NoParting => k_is); (case xa_TooMany => k_is); (case h1_TooMany => k_is); (case q1_TooMany => exact rfl); (case q2_TooMany => exact rfl); (case q3_TooMany => exact rfl); (case q4_TooMany => exact rfl); (case h2_TooMany => k_is); (case q5_TooMany => exact rfl); (case n1_TooMany => k_is); (case h3_TooMany => k_is); (case q6_TooMany => exact rfl); (case h4_TooMany => k_is); (case q7_TooMany => exact rfl); (case n2_TooMany => k_is); (case xk_TooMany => k_is); (case xb_TooMany => k_is); (case xt_TooMany => k_is); (case xa_NoLetter => k_is); (case xa_NoGap => k_is); (case xa_NoRows => k_is); (case xa_NoTable => k_is); (case xa_NoOpen => k_is); (case xa_NoLine => k_is); (case xa_NoPiece => k_is); (case xa_NoNumber => k_is); (case xa_NoDeed => k_is); (case xa_NoText => k_is); (case xa_NoWord => k_is); (case xa_Clash => k_is); (case xa_Kept => k_is); (case xa_TooWide => k_is); (case xa_GapError => k_is); (case e0_NoParting => k_is); (case e1_NoParting => k_is); (case e2_NoParting => k_is); (case e3_NoParting => k_is); (case e4_NoParting => k_is); (case e5_NoParting => k_is); (case e6_NoParting => k_is); (case e7_NoParting => k_is); (case kt_NoParting_NoLetter => kit_is); (case kt_NoParting_NoGap => kit_is); (case kt_NoParting_NoRows => kit_is); (case kt_NoParting_NoParting => kit_is); (case kt_NoParting_NoTable => kit_is); (case kt_NoParting_NoOpen => kit_is); (case kt_NoParting_NoLine => kit_is); (case kt_NoParting_NoPiece => kit_is); (case kt_NoParting_NoNumber => kit_is); (case kt_NoParting_NoDeed => kit_is); (case kt_NoParting_NoText => kit_is); (case kt_NoParting_NoWord => kit_is); (case kt_NoParting_Clash => kit_is); (case kt_NoParting_Kept => kit_is); (case kt_NoParting_TooWide => kit_is); (case kt_NoParting_TooMany => kit_is); (case kv_NoParting => kit_is); (case hx_NoParting => kts_exm); (case e0_TooMany => k_is); (case e1_TooMany => k_is); (case e2_TooMany => k_is); (case e3_TooMany => k_is); (case e4_TooMany => k_is); (case e5_TooMany => k_is); (case e6_TooMany => k_is); (case e7_TooMany => k_is); (case kt_TooMany_NoLetter => kit_is); (case kt_TooMany_NoGap => kit_is); (case kt_TooMany_NoRows => kit_is); (case kt_TooMany_NoParting => kit_is); (case kt_TooMany_NoTable => kit_is); (case kt_TooMany_NoOpen => kit_is); (case kt_TooMany_NoLine => kit_is); (case kt_TooMany_NoPiece => kit_is); (case kt_TooMany_NoNumber => kit_is); (case kt_TooMany_NoDeed => kit_is); (case kt_TooMany_NoText => kit_is); (case kt_TooMany_NoWord => kit_is); (case kt_TooMany_Clash => kit_is); (case kt_TooMany_Kept => kit_is); (case kt_TooMany_TooWide => kit_is); (case kt_TooMany_TooMany => kit_is); (case kv_TooMany => kit_is); (case hx_TooMany => kts_exm); (case zc_MOST_ROWS => k_is); (case z_enumerate => k_is); (case z_isinstance => k_is); (case z_tuple => k_is); (case z_sorted => k_is); (case z_sum => k_is); (case z_list => k_is); (case z_range => k_is); (case z_len => k_is); (case z_min => k_is); (case z_zip => k_is); (case z_set => k_is); (case z_max => k_is); (case z_abs => k_is); (case z_divmod => k_is); (case z_int => k_is); (case z_str => k_is); (case z_repr => k_is); (case z_ValueError => k_is)
  case ntb => intro w; exact rfl
  case ntu => intro w; exact rfl
  case cdh => intro w; exact rfl
  case cdu => intro w; exact rfl
  case net => decide
  case neab => decide
