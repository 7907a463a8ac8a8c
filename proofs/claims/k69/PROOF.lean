import PyProof.Rows.All
import Wide.All
import OpenK.AllK
import Wide.FinOn
import HandS.ForMost
import HandS.ForExc
import HandS.IsInst
import HandS.Zip
import HandS.Lambda
import HandS.TupAny
import HandS.TupLe
import HandS.Deep
import HandS.RevRange
import HandS.Rev
import HandS.Conv
import HandS.NoneIn
import HandS.CallLocal
import HandS.WideBits
import HandS.Flow
import HandS.More
import KE.GoesNew
import KE.GoesMore
import HandS.Dict
import PyProof.NeKinds
import PyProof.EqKinds
import PyProof.EqAt
import HandS.TupMul
import HandS.SortInts
import HandS.ExcOwn
import HandS.ExcValue
import HandS.Style
import HandS.Sort
import KE.DataCmp
import HandS.ExcIs
import HandS.HotCalls
import PyProof.StrOps2
import PyProof.Rows.StrRev
import PyProof.SetRoads
import HandS.Strs
import HandS.TupSets
import KE.DataMinMax
import KE.KTupSum
import KE.SortKeyed
import KE.SortData
import HandS.SetFor
import KE.KDictPairs
import HandS.Text
import HandS.Call
import HandS.ReplaceLit
import PySem.Challenge.RW_stampgaps_k69_whole_likes_in_lines
set_option Elab.async false
set_option linter.all false
set_option maxRecDepth 100000
set_option maxHeartbeats 4000000
/-! Data-level meaning of the programs: values by data, lists that are changed by their number in a store. -/
namespace DV
open PySem

inductive D where
  | py (d : PyData)
  | obj (n : Nat)
  /-- the thing at an address, of which nothing is told -/
  | raw (a : Nat)
inductive O where
  | lst (ds : List D)
  | gone
  /-- the law's table of code objects stands at P, each of them bears the name q (number 0 alone) -/
  | tab (P : Nat) (q : Str)
  /-- a dict with tuple keys, one with plain keys -/
  | dt (kvs : List (List (Sum Int Str) × PyData))
  | dk (kvs : List (Sum Int Str × PyData))
  /-- an instance of a class of the module; a tuple in which there are things of the store -/
  | ins (c : Str) (fs : List (Str × D))
  | tpl (ds : List D)
abbrev Sto := List O
inductive R (α : Type) where
  | ok (a : α) (S : Sto)
  | ex (c : Str) (S : Sto)
  | no
abbrev En := List (Option D)
abbrev Ex := En → Sto → R D
abbrev Tx := En → Sto → R Bool
abbrev Ax := En → Sto → R (List D)
inductive F where
  | nx (σ : En) (S : Sto)
  | rt (d : D) (S : Sto)
  | bk (σ : En) (S : Sto)
  | ct (σ : En) (S : Sto)
  | ex (c : Str) (S : Sto)
  | no
abbrev Sx := En → Sto → F
/-- a target -/
abbrev Tg := D → En → Sto → R En

def R.bind {α β : Type} (r : R α) (k : α → Sto → R β) : R β :=
  match r with
  | .ok a S => k a S
  | .ex c S => .ex c S
  | .no => .no
def R.run {α : Type} (r : R α) (k : α → Sto → F) : F :=
  match r with
  | .ok a S => k a S
  | .ex c S => .ex c S
  | .no => .no
@[simp] theorem bind_ok {α β : Type} (a : α) (S : Sto) (k : α → Sto → R β) : (R.ok a S).bind k = k a S := rfl
@[simp] theorem bind_ex {α β : Type} (c : Str) (S : Sto) (k : α → Sto → R β) : (R.ex c S : R α).bind k = .ex c S := rfl
@[simp] theorem bind_no {α β : Type} (k : α → Sto → R β) : (R.no : R α).bind k = .no := rfl
@[simp] theorem run_ok {α : Type} (a : α) (S : Sto) (k : α → Sto → F) : (R.ok a S).run k = k a S := rfl
@[simp] theorem run_ex {α : Type} (c : Str) (S : Sto) (k : α → Sto → F) : (R.ex c S : R α).run k = .ex c S := rfl
@[simp] theorem run_no {α : Type} (k : α → Sto → F) : (R.no : R α).run k = .no := rfl

/-! ### sequences -/
def pysOf : List D → Option (List PyData)
  | [] => some []
  | d :: ds => match d, pysOf ds with
    | .py p, some ps => some (p :: ps)
    | _, _ => none
def seqOf (S : Sto) : D → Option (List D)
  | .py (.list ds) => some (ds.map .py)
  | .py (.tuple ds) => some (ds.map .py)
  | .obj n => match S[n]? with
    | some (.lst ds) => some ds
    | _ => none
  | _ => none
@[simp] theorem pysOf_nil : pysOf [] = some [] := rfl
@[simp] theorem pysOf_map (ds : List PyData) : pysOf (ds.map D.py) = some ds := by
  induction ds with
  | nil => rfl
  | cons d ds ih => simp [pysOf, ih]
@[simp] theorem pysOf_cons (p : PyData) (ds : List D) : pysOf (D.py p :: ds) = (pysOf ds).map (p :: ·) := by
  cases h : pysOf ds <;> simp [pysOf, h]

/-! ### expressions -/
def varE (i : Nat) : Ex := fun σ S => match σ[i]? with
  | some (some d) => .ok d S
  | _ => .no
def cE (d : PyData) : Ex := fun _ S => .ok (.py d) S
def nilA : Ax := fun _ S => .ok [] S
def consA (e : Ex) (r : Ax) : Ax := fun σ S => (e σ S).bind fun d S1 => (r σ S1).bind fun ds S2 => .ok (d :: ds) S2
def tupE (a : Ax) : Ex := fun σ S => (a σ S).bind fun ds S1 => match pysOf ds with
  | some ps => .ok (.py (.tuple ps)) S1
  | none => .no
/-- a new list as a value that is not changed -/
def frz (r : R (List D)) : R D := r.bind fun ds S => match pysOf ds with
  | some ps => .ok (.py (.list ps)) S
  | none => .no
/-- a new list that may be changed -/
def thw (r : R (List D)) : R D := r.bind fun ds S => .ok (.obj S.length) (S ++ [.lst ds])
def frzE (a : Ax) : Ex := fun σ S => frz (a σ S)
def thwE (a : Ax) : Ex := fun σ S => thw (a σ S)
def opE (g : D → D → Sto → R D) (a b : Ex) : Ex := fun σ S => (a σ S).bind fun x S1 => (b σ S1).bind fun y S2 => g x y S2
def op1 (g : D → Sto → R D) (a : Ex) : Ex := fun σ S => (a σ S).bind fun x S1 => g x S1
/-- a call of a function upon its arguments' values -/
def callE (g : List D → Sto → R D) (a : Ax) : Ex := fun σ S => (a σ S).bind fun ds S1 => g ds S1
def lsOk (S : Sto) : D → Bool
  | .py (.list _) => true
  | .obj n => match S[n]? with
    | some (.lst _) => true
    | _ => false
  | _ => false
/-- a list's method, a text's -/
def methL (g : D → List D → Sto → R D) (o : Ex) (a : Ax) : Ex := fun σ S => (o σ S).bind fun x S1 => if lsOk S1 x = true then (a σ S1).bind fun ds S2 => g x ds S2 else .no
def methS (g : D → List D → Sto → R D) (o : Ex) (a : Ax) : Ex := fun σ S => (o σ S).bind fun x S1 => match x with
  | .py (.str _) => (a σ S1).bind fun ds S2 => g x ds S2
  | _ => .no
def ifE (c : Tx) (a b : Ex) : Ex := fun σ S => (c σ S).bind fun k S1 => if k = true then a σ S1 else b σ S1
/-- and, or, not of truths -/
def andE (a b : Ex) : Ex := fun σ S => (a σ S).bind fun x S1 => match x with
  | .py (.bool true) => b σ S1
  | .py (.bool false) => .ok (.py (.bool false)) S1
  | _ => .no
def orE (a b : Ex) : Ex := fun σ S => (a σ S).bind fun x S1 => match x with
  | .py (.bool false) => b σ S1
  | .py (.bool true) => .ok (.py (.bool true)) S1
  | _ => .no
def notE (a : Ex) : Ex := fun σ S => (a σ S).bind fun x S1 => match x with
  | .py (.bool k) => .ok (.py (.bool (!k))) S1
  | _ => .no
/-! ### tests -/
def valT (a : Ex) : Tx := fun σ S => (a σ S).bind fun x S1 => match x with
  | .py (.bool k) => .ok k S1
  | _ => .no
def andT (a b : Tx) : Tx := fun σ S => (a σ S).bind fun k S1 => if k = true then b σ S1 else .ok false S1
def orT (a b : Tx) : Tx := fun σ S => (a σ S).bind fun k S1 => if k = true then .ok true S1 else b σ S1
def notT (a : Tx) : Tx := fun σ S => (a σ S).bind fun k S1 => .ok (!k) S1
def yesT : Tx := fun _ S => .ok true S
/-- a chain a < b < c -/
def chainE (g g' : D → D → Sto → R D) (a b c : Ex) : Ex := fun σ S => (a σ S).bind fun x S1 => (b σ S1).bind fun y S2 => (g x y S2).bind fun z S3 => match z with
  | .py (.bool true) => (c σ S3).bind fun w S4 => g' y w S4
  | .py (.bool false) => .ok (.py (.bool false)) S3
  | _ => .no

/-! ### operators by values -/
def addD : D → D → Sto → R D
  | .py (.int i), .py (.int j), S => .ok (.py (.int (i + j))) S
  | .py (.str x), .py (.str y), S => if x.length + y.length ≤ sizeLine then .ok (.py (.str (x ++ y))) S else .no
  | .py (.list xs), .py (.list ys), S => if xs.length + ys.length ≤ sizeLine then .ok (.py (.list (xs ++ ys))) S else .no
  | .py (.tuple xs), .py (.tuple ys), S => if xs.length + ys.length ≤ sizeLine then .ok (.py (.tuple (xs ++ ys))) S else .no
  | _, _, _ => .no
def subD : D → D → Sto → R D
  | .py (.int i), .py (.int j), S => .ok (.py (.int (i - j))) S
  | _, _, _ => .no
def mulD : D → D → Sto → R D
  | .py (.int i), .py (.int j), S => if (-(2 ^ 64) < i ∧ i < 2 ^ 64) ∨ (-(2 ^ 64) < j ∧ j < 2 ^ 64) then .ok (.py (.int (i * j))) S else .no
  | _, _, _ => .no
def fdivD : D → D → Sto → R D
  | .py (.int i), .py (.int j), S => if 0 < j ∧ j < 1073741824 then .ok (.py (.int (i / j))) S else .no
  | _, _, _ => .no
def modD : D → D → Sto → R D
  | .py (.int i), .py (.int j), S => if 0 < j then .ok (.py (.int (i % j))) S else .no
  | _, _, _ => .no
def negD : D → Sto → R D
  | .py (.int i), S => .ok (.py (.int (-i))) S
  | _, _ => .no
/-- == of whole numbers, truths, texts and None, without any look at their texts -/
def flatD : PyData → PyData → Option Bool
  | .none, .none => some true
  | .none, .int _ => some false
  | .int _, .none => some false
  | .none, .bool _ => some false
  | .bool _, .none => some false
  | .none, .str _ => some false
  | .str _, .none => some false
  | .int i, .int j => some (decide (i = j))
  | .str x, .str y => some (decide (x = y))
  | .bool a, .bool b => some (decide (a = b))
  | .int _, .str _ => some false
  | .str _, .int _ => some false
  | .bool _, .str _ => some false
  | .str _, .bool _ => some false
  | _, _ => none
/-- a text and a dict -/
def dkTx : PyData → PyData → Bool
  | .str _, .dict _ => true
  | .dict _, .str _ => true
  | _, _ => false
/-- surely unlike, whatever stands within -/
def offB : PyData → PyData → Bool
  | .str _, .list _ => true
  | .list _, .str _ => true
  | .str _, .tuple _ => true
  | .tuple _, .str _ => true
  | .tuple ds, .tuple es => ds.isEmpty != es.isEmpty
  | .list ds, .list es => ds.length != es.length
  | d, e => dkTx d e
def eqB (d e : PyData) : Option Bool := match flatD d e with
  | some k => some k
  | none => if SeqAt.shaped d = true ∧ SeqAt.shaped e = true then some (PyData.eqv d e) else if offB d e = true then some false else none
def eqD : D → D → Sto → R D
  | .py d, .py e, S => (match eqB d e with
    | some k => .ok (.py (.bool k)) S
    | none => .no)
  | _, _, _ => .no
def neD : D → D → Sto → R D
  | .py d, .py e, S => (match eqB d e with
    | some k => .ok (.py (.bool (!k))) S
    | none => .no)
  | _, _, _ => .no
def cmpI (p : Int → Int → Bool) : D → D → Sto → R D
  | .py (.int i), .py (.int j), S => .ok (.py (.bool (p i j))) S
  | _, _, _ => .no
def isNon : PyData → Bool
  | .none => true
  | _ => false
def isND : D → D → Sto → R D
  | .py d, .py .none, S => .ok (.py (.bool (isNon d))) S
  | _, _, _ => .no
def notND : D → D → Sto → R D
  | .py d, .py .none, S => .ok (.py (.bool (!isNon d))) S
  | _, _, _ => .no
def itemD : D → D → Sto → R D
  | .py (.str x), .py (.int i), S => if x.length ≤ sizeLine then (match L2.atI x.cps.toList i with
    | some c => .ok (.py (.str ⟨#[c]⟩)) S
    | none => .no) else .no
  | x, .py (.int i), S => match seqOf S x with
    | some ds => (match L2.atI ds i with
      | some d => .ok d S
      | none => .no)
    | none => .no
  | _, _, _ => .no

/-! ### built-ins by values -/
def lenD : List D → Sto → R D
  | [.py (.str x)], S => if x.length ≤ sizeLine then .ok (.py (.int (x.length : Nat))) S else .no
  | [d], S => (match seqOf S d with
    | some ds => .ok (.py (.int (ds.length : Nat))) S
    | none => .no)
  | _, _ => .no
def max2D : List D → Sto → R D
  | [.py (.int i), .py (.int j)], S => .ok (.py (.int (if j > i then j else i))) S
  | _, _ => .no
def min2D : List D → Sto → R D
  | [.py (.int i), .py (.int j)], S => .ok (.py (.int (if j < i then j else i))) S
  | _, _ => .no
def absD : List D → Sto → R D
  | [.py (.int i)], S => .ok (.py (.int (if i < 0 then -i else i))) S
  | _, _ => .no
def divmodD : List D → Sto → R D
  | [.py (.int i), .py (.int j)], S => if 0 < j ∧ j < 1073741824 then .ok (.py (.tuple [.int (i / j), .int (i % j)])) S else .no
  | _, _ => .no
def tupleD : List D → Sto → R D
  | [d], S => (match seqOf S d with
    | some ds => (match pysOf ds with
      | some ps => .ok (.py (.tuple ps)) S
      | none => .no)
    | none => .no)
  | _, _ => .no
/-- a new list of the items -/
def listD : List D → Sto → R (List D)
  | [.py (.str x)], S => if x.length ≤ sizeLine then .ok (x.cps.toList.map fun c => D.py (.str ⟨#[c]⟩)) S else .no
  | [d], S => (match seqOf S d with
    | some ds => .ok ds S
    | none => .no)
  | _, _ => .no
/-- the data of a value, the lists of the store within it as they stand -/
def deep (S : Sto) : Nat → D → Option PyData
  | 0, _ => none
  | _ + 1, .py d => some d
  | n + 1, .obj m => match S[m]? with
    | some (.lst ds) => (ds.mapM (deep S n)).map PyData.list
    | _ => none
  | _ + 1, .raw _ => none
def reprD : List D → Sto → R D
  | [d], S => (match deep S 8 d with
    | some p => if p.showable = true ∧ p.hasDict = false ∧ p.depth ≤ 60 ∧ p.shown.length ≤ sizeLine then .ok (.py (.str p.shown)) S else .no
    | none => .no)
  | _, _ => .no
/-- a call that makes a new list -/
def callL (g : List D → Sto → R (List D)) (a : Ax) : Ax := fun σ S => (a σ S).bind fun ds S1 => g ds S1
/-! ### methods by values -/
def appendD : D → List D → Sto → R D
  | .obj n, [d], S => (match S[n]? with
    | some (.lst ds) => if ds.length < sizeLine then .ok (.py .none) (S.set n (.lst (ds ++ [d]))) else .no
    | _ => .no)
  | _, _, _ => .no
def popD : D → List D → Sto → R D
  | .obj n, [], S => (match S[n]? with
    | some (.lst ds) => (match ds[ds.length - 1]? with
      | some d => .ok d (S.set n (.lst ds.dropLast))
      | none => .no)
    | _ => .no)
  | .obj n, [.py (.int i)], S => (match S[n]? with
    | some (.lst ds) => if 0 ≤ i ∧ i < 2 ^ 62 then (match ds[i.toNat]? with
      | some d => .ok d (S.set n (.lst (ds.eraseIdx i.toNat)))
      | none => .no) else .no
    | _ => .no)
  | _, _, _ => .no
/-- xs.extend(a new list) -/
def extE (o : Ex) (a : Ax) : Ex := fun σ S => (o σ S).bind fun x S1 => match x with
  | .obj n => (match S1[n]? with
    | some (.lst _) => (a σ S1).bind fun ds S2 => (match S2[n]? with
      | some (.lst es) => if es.length + ds.length ≤ sizeLine then .ok (.py .none) (S2.set n (.lst (es ++ ds))) else .no
      | _ => .no)
    | _ => .no)
  | _ => .no

/-! ### targets -/
def nmG (i : Nat) : Tg := fun d σ S => .ok (σ.set i (some d)) S
def nilG : List D → En → Sto → R En := fun ds σ S => match ds with
  | [] => .ok σ S
  | _ => .no
def consG (g : Tg) (r : List D → En → Sto → R En) : List D → En → Sto → R En := fun ds σ S => match ds with
  | d :: ds => (g d σ S).bind fun σ1 S1 => r ds σ1 S1
  | [] => .no
/-- a tuple to several targets -/
def tupG (n : Nat) (r : List D → En → Sto → R En) : Tg := fun d σ S => match d with
  | .py (.tuple ps) => if ps.length = n then r (ps.map .py) σ S else .no
  | _ => .no
/-- o[i] = d, of a list that may be changed -/
def ixG (o i : Ex) : Tg := fun d σ S => (o σ S).bind fun x S1 => (i σ S1).bind fun k S2 => match x, k with
  | .obj n, .py (.int k) => (match S2[n]? with
    | some (.lst ds) => (match L2.ixN ds.length k with
      | some j => .ok σ (S2.set n (.lst (ds.set j d)))
      | none => .no)
    | _ => .no)
  | _, _ => .no

/-! ### what is walked -/
abbrev It := En → Sto → R (List D)
def seqI (e : Ex) : It := fun σ S => (e σ S).bind fun d S1 => match d with
  | .py (.list ds) => .ok (ds.map .py) S1
  | .py (.tuple ds) => .ok (ds.map .py) S1
  | _ => .no
def txtI (e : Ex) : It := fun σ S => (e σ S).bind fun d S1 => match d with
  | .py (.str x) => if x.length ≤ 16777216 then .ok (x.cps.toList.map fun c => D.py (.str ⟨#[c]⟩)) S1 else .no
  | _ => .no
def rngV (lo : Int) (n : Nat) : List D := (List.range n).map fun (k : Nat) => D.py (.int (lo + (k : Int)))
def rng1I (e : Ex) : It := fun σ S => (e σ S).bind fun d S1 => match d with
  | .py (.int j) => if -(2 ^ 62) ≤ j ∧ j ≤ 16777216 then .ok (rngV 0 j.toNat) S1 else .no
  | _ => .no
def rng2I (a b : Ex) : It := fun σ S => (a σ S).bind fun x S1 => (b σ S1).bind fun y S2 => match x, y with
  | .py (.int i), .py (.int j) => if -(2 ^ 62) ≤ i ∧ j - i ≤ 16777216 ∧ i < 2 ^ 62 ∧ -(2 ^ 62) ≤ j ∧ j < 2 ^ 62 then .ok (rngV i (j - i).toNat) S2 else .no
  | _, _ => .no
def pyWalk (S : Sto) : D → Option (List PyData)
  | .py (.str x) => if x.length ≤ 16777216 then some (x.cps.toList.map fun c => PyData.str ⟨#[c]⟩) else none
  | .py (.list ds) => some ds
  | .py (.tuple ds) => some ds
  | _ => none
def zipI (a b : Ex) : It := fun σ S => (a σ S).bind fun x S1 => (b σ S1).bind fun y S2 => match pyWalk S2 x, pyWalk S2 y with
  | some xs, some ys => .ok ((xs.zip ys).map fun p => D.py (.tuple [p.1, p.2])) S2
  | _, _ => .no
def zip3I (a b c : Ex) : It := fun σ S => (a σ S).bind fun x S1 => (b σ S1).bind fun y S2 => (c σ S2).bind fun z S3 => match pyWalk S3 x, pyWalk S3 y, pyWalk S3 z with
  | some xs, some ys, some zs => .ok ((xs.zip (ys.zip zs)).map fun p => D.py (.tuple [p.1, p.2.1, p.2.2])) S3
  | _, _, _ => .no
def enumI (a : Ex) : It := fun σ S => (a σ S).bind fun x S1 => match pyWalk S1 x with
  | some xs => .ok (xs.zipIdx.map fun p => D.py (.tuple [.int (p.2 : Nat), p.1])) S1
  | none => .no
def rrngI (a b : Ex) : It := fun σ S => (a σ S).bind fun x S1 => (b σ S1).bind fun y S2 => match x, y with
  | .py (.int i), .py (.int j) => if -(2 ^ 62) ≤ i ∧ j - i ≤ 16777216 ∧ i < 2 ^ 62 ∧ -(2 ^ 62) ≤ j ∧ j < 2 ^ 62 then .ok (rngV i (j - i).toNat).reverse S2 else .no
  | _, _ => .no

def rrng1I (b : Ex) : It := fun σ S => (b σ S).bind fun y S2 => match y with
  | .py (.int j) => if -(2 ^ 62) ≤ j ∧ j ≤ 16777216 then .ok (rngV 0 j.toNat).reverse S2 else .no
  | _ => .no

/-! ### comprehensions -/
def wipeD (σ : En) : List Nat → En
  | [] => σ
  | v :: vs => (wipeD σ vs).set v none
def lcL (g : Tg) (c : Tx) (e : Ex) (σ : En) : List D → Sto → R (List D)
  | [], S => .ok [] S
  | x :: xs, S => match g x σ S with
    | .ok σ1 S1 => (match c σ1 S1 with
      | .ok k S2 => if k = true then (match e σ1 S2 with
        | .ok d S3 => (lcL g c e σ xs S3).bind fun ds S4 => .ok (d :: ds) S4
        | _ => .no) else lcL g c e σ xs S2
      | _ => .no)
    | _ => .no
def lcX (it : It) (vs : List Nat) (g : Tg) (c : Tx) (e : Ex) : Ax := fun σ S => (it σ S).bind fun xs S1 => lcL g c e (wipeD σ vs) xs S1
abbrev lcF (it : It) (vs : List Nat) (g : Tg) (c : Tx) (e : Ex) : Ex := frzE (lcX it vs g c e)
abbrev lcM (it : It) (vs : List Nat) (g : Tg) (c : Tx) (e : Ex) : Ex := thwE (lcX it vs g c e)

/-! ### statements -/
def passS : Sx := fun σ S => .nx σ S
def brkS : Sx := fun σ S => .bk σ S
def cntS : Sx := fun σ S => .ct σ S
def seqS (a b : Sx) : Sx := fun σ S => match a σ S with
  | .nx σ1 S1 => b σ1 S1
  | r => r
def asgS (e : Ex) (g : Tg) : Sx := fun σ S => (e σ S).run fun d S1 => (g d σ S1).run fun σ2 S2 => .nx σ2 S2
/-- a, b = x, y -/
def setAll : List Nat → List D → En → En
  | i :: is, d :: ds, σ => setAll is ds (σ.set i (some d))
  | _, _, σ => σ
def parS (is : List Nat) (a : Ax) : Sx := fun σ S => (a σ S).run fun ds S1 => .nx (setAll is ds σ) S1
def exprS (e : Ex) : Sx := fun σ S => (e σ S).run fun _ S1 => .nx σ S1
def retS (e : Ex) : Sx := fun σ S => (e σ S).run fun d S1 => .rt d S1
def ifS (c : Tx) (a b : Sx) : Sx := fun σ S => (c σ S).run fun k S1 => if k = true then a σ S1 else b σ S1
def raiseS (c : Str) : Sx := fun _ S => .ex c S
def forL (g : Tg) (b : Sx) : List D → En → Sto → F
  | [], σ, S => .nx σ S
  | x :: xs, σ, S => match g x σ S with
    | .ok σ1 S1 => (match b σ1 S1 with
      | .nx σ2 S2 => forL g b xs σ2 S2
      | .ct σ2 S2 => forL g b xs σ2 S2
      | .bk σ2 S2 => .nx σ2 S2
      | .rt d S2 => .rt d S2
      | .ex c S2 => .ex c S2
      | .no => .no)
    | .ex c S1 => .ex c S1
    | .no => .no
def forS (it : It) (g : Tg) (b : Sx) : Sx := fun σ S => (it σ S).run fun xs S1 => forL g b xs σ S1
def whileL (c : Tx) (b : Sx) : Nat → En → Sto → F
  | 0, _, _ => .no
  | n + 1, σ, S => (c σ S).run fun k S1 => if k = true then (match b σ S1 with
      | .nx σ2 S2 => whileL c b n σ2 S2
      | .ct σ2 S2 => whileL c b n σ2 S2
      | .bk σ2 S2 => .nx σ2 S2
      | .rt d S2 => .rt d S2
      | .ex c S2 => .ex c S2
      | .no => .no) else .nx σ S1
def whileS (n : Nat) (c : Tx) (b : Sx) : Sx := whileL c b n
/-- the list of a slot is not changed from here on -/
def fixS (i : Nat) : Sx := fun σ S => match σ[i]? with
  | some (some (.obj n)) => (match S[n]? with
    | some (.lst ds) => (match pysOf ds with
      | some ps => .nx (σ.set i (some (.py (.list ps)))) (S.set n .gone)
      | none => .no)
    | _ => .no)
  | _ => .no

/-- .. and its items, which are lists of the store -/
def fixL (S : Sto) : List D → Option (List PyData × Sto)
  | [] => some ([], S)
  | .py p :: ds => (fixL S ds).map fun r => (p :: r.1, r.2)
  | .obj n :: ds => match S[n]? with
    | some (.lst es) => (match pysOf es with
      | some ps => (fixL (S.set n .gone) ds).map fun r => (.list ps :: r.1, r.2)
      | none => none)
    | _ => none
  | .raw _ :: _ => none
def fix2S (i : Nat) : Sx := fun σ S => match σ[i]? with
  | some (some (.obj n)) => (match S[n]? with
    | some (.lst ds) => (match fixL (S.set n .gone) ds with
      | some (ps, S1) => .nx (σ.set i (some (.py (.list ps)))) S1
      | none => .no)
    | _ => .no)
  | _ => .no

/-! ### defs -/
def D.pure : D → Bool
  | .py _ => true
  | _ => false
def O.pure : O → Bool
  | .lst ds => ds.all D.pure
  | .gone => true
  | .tab _ _ => true
  | .dt _ => true
  | .dk _ => true
  | .ins _ fs => fs.all fun p => p.2.pure
  | .tpl ds => ds.all D.pure
open Classical in
/-- what a def has made for itself is forgotten where nothing leads to it -/
noncomputable def gc {α : Type} (p : Prop) (S S' : Sto) (k : Sto → α) : α :=
  if p ∧ S.length ≤ S'.length ∧ ∀ (i : Nat) (o : O), i < S.length → S'[i]? = some o → S[i]? = some o ∨ o.pure = true then k (S'.take S.length) else k S'
def init (n : Nat) (ds : List D) : En := ds.map some ++ List.replicate (n - ds.length) none
noncomputable def fnR (S : Sto) : F → R D
  | .nx _ S' => gc True S S' fun T => .ok (.py .none) T
  | .rt d S' => gc (d.pure = true) S S' fun T => .ok d T
  | .ex c S' => gc True S S' fun T => .ex c T
  | _ => .no
noncomputable def fnF (n : Nat) (b : Sx) : List D → Sto → R D := fun ds S => fnR S (b (init n ds) S)
end DV

set_option maxHeartbeats 4000000
/-! The data-level meaning holds of the model: relations. -/
namespace DV
open PySem PySem.Spec PyProof.Rows L2

/-! ### what is the same in a later heap -/
structure Keep (H H' : Hp) : Prop where
  tups : ∀ b xs, H b = some (.tup xs) → H' b = some (.tup xs)
  frzs : ∀ b o u, H b = some (.frz o u) → H' b = some (.frz o u)
theorem Keep.refl (H : Hp) : Keep H H := ⟨fun _ _ h => h, fun _ _ _ h => h⟩
theorem Keep.trans {H H1 H2 : Hp} (a : Keep H H1) (b : Keep H1 H2) : Keep H H2 :=
  ⟨fun c xs h => b.tups c xs (a.tups c xs h), fun c o u h => b.frzs c o u (a.frzs c o u h)⟩
/-- all but lists stays -/
theorem Keep.of {H H' : Hp} (h : ∀ b o, H b = some o → (∀ xs, o ≠ .lst xs) → H' b = some o) : Keep H H' where
  tups := fun b xs e => h b _ e (fun _ z => by cases z)
  frzs := fun b o u e => h b _ e (fun _ z => by cases z)
theorem Keep.new {H : Hp} {p : Addr} {o : HO} (h : H p = none) : Keep H (upd H p o) := .of fun b u e _ => by rw [upd_ne (ne_of_none e h)]; exact e
theorem Keep.list {H : Hp} {p : Addr} {xs : List V} {o : HO} (h : H p = some (.lst xs)) : Keep H (upd H p o) := .of fun b u e n => by
  rw [upd_ne (fun z => by subst z; rw [h] at e; cases e; exact n xs rfl)]
  exact e
/-- .. and the tables of code objects, too -/
structure KeepA (H H' : Hp) : Prop extends Keep H H' where
  tabs : ∀ P q, LamX.TabS H P q → LamX.TabS H' P q
instance {H H' : Hp} : Coe (KeepA H H') (Keep H H') := ⟨KeepA.toKeep⟩
theorem KeepA.refl (H : Hp) : KeepA H H := ⟨.refl H, fun _ _ h => h⟩
theorem KeepA.of {H H' : Hp} (h : ∀ b o, H b = some o → (∀ xs, o ≠ .lst xs) → H' b = some o) : KeepA H H' := ⟨.of h, fun P q ⟨ps, h1, h2, h3⟩ => ⟨ps, h _ _ h1 (fun _ z => by cases z), h2, fun pos cv hc => by
    obtain ⟨c, e1, e2⟩ := h3 pos cv hc
    exact ⟨c, e1, h _ _ e2 (fun _ z => by unfold LamX.CodeO at z; cases z)⟩⟩⟩
theorem KeepA.new {H : Hp} {p : Addr} {o : HO} (h : H p = none) : KeepA H (upd H p o) := .of fun b u e _ => by rw [upd_ne (ne_of_none e h)]; exact e
theorem KeepA.list {H : Hp} {p : Addr} {xs : List V} {o : HO} (h : H p = some (.lst xs)) : KeepA H (upd H p o) := .of fun b u e n => by
  rw [upd_ne (fun z => by subst z; rw [h] at e; cases e; exact n xs rfl)]
  exact e

/-- what may be changed in the heap: lists, dicts -/
inductive MO where
  | lst (vs : List V)
  | dt (kvs : List (List Key × V))
  | dk (kvs : List (Key × V))
  | ins (C dx : Addr) (fs : List (Str × V))
def MO.ho : MO → HO
  | .lst vs => .lst vs
  | .dt kvs => .dT kvs
  | .dk kvs => .dK kvs
  | .ins C dx fs => .ins C dx fs

/-! ### values -/
section
variable (K : PySem.W.Frag)
/-- a list that is never changed -/
def FL (H : Hp) (a : Addr) (xs : List V) : Prop := (∃ o, H a = some (.frz o (.lst xs))) ∨
  ∃ (o : Obj) (its : Array Value) (n : Nat), K.lookup a = some o ∧ o.cls = .type "list" ∧ o.dict = none ∧ o.data = .seq its n ∧ o.slots = #[] ∧ its.size ≤ sizeLine ∧ Vals xs its.toList
/-- a tuple whose object is known to have no dict -/
def FT (H : Hp) (a : Addr) (xs : List V) : Prop := (∃ o, H a = some (.frz o (.tup xs)) ∧ o.dict = none) ∨
  ∃ (o : Obj) (its : Array Value) (n : Nat), K.lookup a = some o ∧ o.cls = .type "tuple" ∧ o.dict = none ∧ o.data = .seq its n ∧ its.size ≤ sizeLine ∧ Vals xs its.toList
/-- a key as a datum -/
def keyP : Key → PyData
  | .inl i => .int i
  | .inr x => .str x
mutual
inductive Pp (H : Hp) : V → PyData → Prop
  | non : Pp H .non .none
  | bl (b : Bool) : Pp H (.bl b) (.bool b)
  | int (i : Int) : Pp H (.int i) (.int i)
  | str (x : Str) : Pp H (.str x) (.str x)
  | lst {a : Addr} {xs : List V} {ds : List PyData} : FL K H a xs → ds.length ≤ sizeLine → PpAll H xs ds → Pp H (.ref a) (.list ds)
  | tup {a : Addr} {xs : List V} {ds : List PyData} : FT K H a xs → ds.length ≤ sizeLine → PpAll H xs ds → Pp H (.ref a) (.tuple ds)
  | dic {a : Addr} {o : Obj} {kvs : List (Key × V)} {ds : List PyData} : H a = some (.frz o (.dK kvs)) → kvs.length ≤ sizeLine → PpAll H (kvs.map Prod.snd) ds → Pp H (.ref a) (.dict ((kvs.map fun kv => keyP kv.1).zip ds))
inductive PpAll (H : Hp) : List V → List PyData → Prop
  | nil : PpAll H [] []
  | cons {v : V} {vs : List V} {d : PyData} {ds : List PyData} : Pp H v d → PpAll H vs ds → PpAll H (v :: vs) (d :: ds)
end
end
section
variable {K : PySem.W.Frag} {H H' : Hp}
theorem FL.keep {a : Addr} {xs : List V} (k : Keep H H') (h : FL K H a xs) : FL K H' a xs := by
  rcases h with ⟨o, h⟩ | h
  · exact .inl ⟨o, k.frzs _ _ _ h⟩
  · exact .inr h
theorem FL.sq {a : Addr} {xs : List V} (h : FL K H a xs) : SqL K H a xs := by
  rcases h with ⟨o, h⟩ | ⟨o, its, n, h1, h2, h3, h4, _, h5⟩
  · exact .inl (.inr ⟨o, h⟩)
  · exact .inr ⟨o, its, n, h1, h2, h3, h4, h5⟩
theorem FT.keep {a : Addr} {xs : List V} (k : Keep H H') (h : FT K H a xs) : FT K H' a xs := by
  rcases h with ⟨o, h, d⟩ | h
  · exact .inl ⟨o, k.frzs _ _ _ h, d⟩
  · exact .inr h
theorem FT.sq {a : Addr} {xs : List V} (h : FT K H a xs) : SqT K H a xs := by
  rcases h with ⟨o, h, _⟩ | ⟨o, its, n, h1, h2, _, h3⟩
  · exact .inl (.inr ⟨o, h⟩)
  · exact .inr ⟨o, its, n, h1, h2, h3⟩
theorem FT.new {p : Addr} {xs : List V} {o : Obj} (d : o.dict = none) : FT K (upd H p (.frz o (.tup xs))) p xs := .inl ⟨o, upd_same, d⟩
theorem sqT_keep {a : Addr} {xs : List V} (k : Keep H H') (h : SqT K H a xs) : SqT K H' a xs := by
  rcases h with (h | ⟨o, h⟩) | h
  · exact .inl (.inl (k.tups _ _ h))
  · exact .inl (.inr ⟨o, k.frzs _ _ _ h⟩)
  · exact .inr h
mutual
theorem Pp.keep (k : Keep H H') : ∀ {v : V} {d : PyData}, Pp K H v d → Pp K H' v d
  | _, _, .non => .non
  | _, _, .bl b => .bl b
  | _, _, .int i => .int i
  | _, _, .str x => .str x
  | _, _, .lst h z hs => .lst (h.keep k) z (PpAll.keep k hs)
  | _, _, .tup h z hs => .tup (h.keep k) z (PpAll.keep k hs)
  | _, _, .dic h z hs => .dic (k.frzs _ _ _ h) z (PpAll.keep k hs)
theorem PpAll.keep (k : Keep H H') : ∀ {vs : List V} {ds : List PyData}, PpAll K H vs ds → PpAll K H' vs ds
  | _, _, .nil => .nil
  | _, _, .cons h hs => .cons (h.keep k) (hs.keep k)
end
mutual
theorem Pp.dp : ∀ {v : V} {d : PyData}, Pp K H v d → d.hasDict = false → Dp K H v d
  | _, _, .non, _ => .non
  | _, _, .bl b, _ => .bl b
  | _, _, .int i, _ => .int i
  | _, _, .str x, _ => .str x
  | _, _, .lst h _ hs, q => .lst h.sq (PpAll.dp hs (by rw [PyData.hasDict.eq_5] at q; exact q))
  | _, _, .tup h _ hs, q => .tup h.sq (PpAll.dp hs (by rw [PyData.hasDict.eq_6] at q; exact q))
  | _, _, .dic _ _ _, q => by rw [PyData.hasDict.eq_7] at q; cases q
theorem PpAll.dp : ∀ {vs : List V} {ds : List PyData}, PpAll K H vs ds → PyData.hasDictAll ds = false → DpAll K H vs ds
  | _, _, .nil, _ => .nil
  | _, _, .cons h hs, q => by
    rw [PyData.hasDictAll.eq_2, Bool.or_eq_false_iff] at q
    exact .cons (h.dp q.1) (hs.dp q.2)
end
theorem noDict_of {d : PyData} (h : SeqAt.shaped d = true) : d.hasDict = false := PyData.hasDict_of_canLay d (SeqAt.canLay_of_shaped h)
theorem PpAll.length : ∀ {vs : List V} {ds : List PyData}, PpAll K H vs ds → vs.length = ds.length
  | _, _, .nil => rfl
  | _, _, .cons _ hs => by rw [List.length_cons, List.length_cons, hs.length]
theorem PpAll.append : ∀ {vs ws : List V} {ds es : List PyData}, PpAll K H vs ds → PpAll K H ws es → PpAll K H (vs ++ ws) (ds ++ es)
  | _, _, _, _, .nil, q => q
  | _, _, _, _, .cons h hs, q => .cons h (hs.append q)
end

/-- a datum under the numbers of the store -/
inductive Rd (K : PySem.W.Frag) (ι : List Addr) (H : Hp) : V → D → Prop
  | py {v : V} {d : PyData} : Pp K H v d → Rd K ι H v (.py d)
  | obj {n : Nat} {a : Addr} : ι[n]? = some a → Rd K ι H (.ref a) (.obj n)
  | raw (a : Addr) : Rd K ι H (.ref a) (.raw a)
abbrev RdAll (K : PySem.W.Frag) (ι : List Addr) (H : Hp) : List V → List D → Prop := Paired (Rd K ι H)
inductive ObR (K : PySem.W.Frag) (ι : List Addr) (H : Hp) (a : Addr) : O → Prop
  | lst {vs : List V} {ds : List D} : H a = some (.lst vs) → RdAll K ι H vs ds → ObR K ι H a (.lst ds)
  | gone : ObR K ι H a .gone
  | tab {q : Str} : ObR K ι H a (.tab a q)
  | dt {kvs : List (List Key × V)} {es : List (List Key × PyData)} : H a = some (.dT kvs) → kvs.map Prod.fst = es.map Prod.fst → PpAll K H (kvs.map Prod.snd) (es.map Prod.snd) → ObR K ι H a (.dt es)
  | dk {kvs : List (Key × V)} {es : List (Key × PyData)} : H a = some (.dK kvs) → kvs.map Prod.fst = es.map Prod.fst → PpAll K H (kvs.map Prod.snd) (es.map Prod.snd) → ObR K ι H a (.dk es)
  | ins {c : Str} {C dx : Addr} {vs : List (Str × V)} {fs : List (Str × D)} : PySem.W.nsIn K mainGlobals c = some (some (.ref C)) → H a = some (.ins C dx vs) → vs.map Prod.fst = fs.map Prod.fst → RdAll K ι H (vs.map Prod.snd) (fs.map Prod.snd) → ObR K ι H a (.ins c fs)
  | tpl {o : Obj} {vs : List V} {ds : List D} : H a = some (.frz o (.tup vs)) → RdAll K ι H vs ds → ObR K ι H a (.tpl ds)
structure StR (K : PySem.W.Frag) (ι : List Addr) (H : Hp) (S : Sto) : Prop where
  len : ι.length = S.length
  nd : ι.Nodup
  there : ∀ (n : Nat) (a : Addr), ι[n]? = some a → H a ≠ none
  at_ : ∀ (n : Nat) (o : O) (a : Addr), S[n]? = some o → ι[n]? = some a → ObR K ι H a o
  tb : ∀ (n P : Nat) (q : Str), S[n]? = some (.tab P q) → LamX.TabS H P q
structure EnR (K : PySem.W.Frag) (ι : List Addr) (H : Hp) (σ : L2.St) (σd : En) : Prop where
  len : σ.length = σd.length
  at_ : ∀ (i : Nat) (d : D), σd[i]? = some (some d) → ∃ v, σ[i]? = some (some v) ∧ Rd K ι H v d
section
variable {K : PySem.W.Frag} {H H' H1 H2 : Hp} {ι ι' ι1 ι2 : List Addr} {v : V} {d : D} {S S' : Sto} {σ : L2.St} {σd : En}
theorem pre_get {α : Type} {l l' : List α} {n : Nat} {a : α} (p : l <+: l') (h : l[n]? = some a) : l'[n]? = some a := by
  obtain ⟨t, rfl⟩ := p
  obtain ⟨hn, e⟩ := List.getElem?_eq_some_iff.mp h
  rw [List.getElem?_append_left hn]
  exact h
theorem Rd.mono (p : ι <+: ι') (k : Keep H H') (h : Rd K ι H v d) : Rd K ι' H' v d := by
  cases h with
  | py h => exact .py (h.keep k)
  | obj h => exact .obj (pre_get p h)
  | raw a => exact .raw a
theorem RdAll.mono (p : ι <+: ι') (k : Keep H H') : ∀ {vs : List V} {ds : List D}, RdAll K ι H vs ds → RdAll K ι' H' vs ds
  | _, _, .nil => .nil
  | _, _, .cons h hs => .cons (h.mono p k) (RdAll.mono p k hs)
theorem EnR.mono (p : ι <+: ι') (k : Keep H H') (h : EnR K ι H σ σd) : EnR K ι' H' σ σd :=
  ⟨h.len, fun i d e => let ⟨v, e1, r⟩ := h.at_ i d e; ⟨v, e1, r.mono p k⟩⟩
theorem RdAll.pys : ∀ {vs : List V} {ds : List D} {ps : List PyData}, RdAll K ι H vs ds → pysOf ds = some ps → PpAll K H vs ps
  | _, _, _, .nil, e => by cases e; exact .nil
  | _, _, _, .cons (b := d) h hs, e => by
    cases h with
    | py h =>
      rw [pysOf_cons] at e
      rw [Option.map_eq_some_iff] at e
      obtain ⟨ps, e1, e2⟩ := e
      subst e2
      exact .cons h (RdAll.pys hs e1)
    | obj h => simp [pysOf] at e
    | raw a => simp [pysOf] at e
theorem RdAll.of_pys : ∀ {vs : List V} {ps : List PyData}, PpAll K H vs ps → RdAll K ι H vs (ps.map D.py)
  | _, _, .nil => .nil
  | _, _, .cons h hs => .cons (.py h) (RdAll.of_pys hs)
theorem RdAll.length : ∀ {vs : List V} {ds : List D}, RdAll K ι H vs ds → vs.length = ds.length := fun h => Paired.length h
theorem pysOf_length : ∀ {ds : List D} {ps : List PyData}, pysOf ds = some ps → ps.length = ds.length
  | [], _, e => by cases e; rfl
  | .py d :: ds, _, e => by
    rw [pysOf_cons, Option.map_eq_some_iff] at e
    obtain ⟨ps, e1, e2⟩ := e
    subst e2
    rw [List.length_cons, List.length_cons, pysOf_length e1]
  | .obj n :: ds, _, e => by simp [pysOf] at e
  | .raw n :: ds, _, e => by simp [pysOf] at e
theorem Paired.getR {α β : Type} {G : α → β → Prop} : ∀ {l₁ : List α} {l₂ : List β} {i : Nat} {y : β}, Paired G l₁ l₂ → l₂[i]? = some y → ∃ x, l₁[i]? = some x ∧ G x y
  | _, _, _, _, .nil, e => by simp at e
  | _, _, 0, _, .cons r _, e => by simp at e; subst e; exact ⟨_, rfl, r⟩
  | _, _, i + 1, y, .cons r t, e => by
    obtain ⟨x, h1, h2⟩ := Paired.getR (i := i) t (by simpa using e)
    exact ⟨x, by simpa using h1, h2⟩
theorem Paired.setB {α β : Type} {G : α → β → Prop} {x : α} {y : β} (r : G x y) : ∀ {l₁ : List α} {l₂ : List β} (i : Nat), Paired G l₁ l₂ → Paired G (l₁.set i x) (l₂.set i y)
  | _, _, _, .nil => .nil
  | _, _, 0, .cons _ t => .cons r t
  | _, _, i + 1, .cons q t => .cons q (Paired.setB r i t)
theorem Paired.app {α β : Type} {G : α → β → Prop} : ∀ {l₁ m₁ : List α} {l₂ m₂ : List β}, Paired G l₁ l₂ → Paired G m₁ m₂ → Paired G (l₁ ++ m₁) (l₂ ++ m₂)
  | _, _, _, _, .nil, q => q
  | _, _, _, _, .cons h hs, q => .cons h (Paired.app hs q)

theorem tab_set {S : Sto} {n m : Nat} {o : O} {P : Nat} {q : Str} (e : (S.set n o)[m]? = some (.tab P q)) (h : o ≠ .tab P q) : S[m]? = some (.tab P q) := by
  by_cases z : n = m
  · subst z
    have hl : n < S.length := by simpa using (List.getElem?_eq_some_iff.mp e).1
    rw [List.getElem?_set_self hl] at e
    exact absurd (Option.some.inj e) h
  · rwa [List.getElem?_set_ne z] at e
theorem tab_app {S : Sto} {m : Nat} {o : O} {P : Nat} {q : Str} (e : (S ++ [o])[m]? = some (.tab P q)) (h : o ≠ .tab P q) : S[m]? = some (.tab P q) := by
  by_cases z : m < S.length
  · rwa [List.getElem?_append_left z] at e
  · rw [List.getElem?_append_right (by omega)] at e
    have hz : m - S.length = 0 := by
      have := (List.getElem?_eq_some_iff.mp e).1
      simp at this
      omega
    rw [hz] at e
    exact absurd (Option.some.inj e) h
theorem ObR.mono {a : Addr} {o : O} (p : ι <+: ι') (k : Keep H H') (hl : ∀ vs : MO, H a = some vs.ho → H' a = some vs.ho) (h : ObR K ι H a o) : ObR K ι' H' a o := by
  cases h with
  | lst e r => exact .lst (hl (.lst _) e) (r.mono p k)
  | gone => exact .gone
  | tab => exact .tab
  | dt e f r => exact .dt (hl (.dt _) e) f (r.keep k)
  | dk e f r => exact .dk (hl (.dk _) e) f (r.keep k)
  | ins hc e f r => exact .ins hc (hl (.ins _ _ _) e) f (r.mono p k)
  | tpl e r => exact .tpl (k.frzs _ _ _ e) (r.mono p k)
/-- a heap in which the lists are as they were -/
theorem StR.keep (h : StR K ι H S) (k : KeepA H H') (hl : ∀ (b : Addr) (vs : MO), H b = some vs.ho → H' b = some vs.ho) (hn : ∀ b, H b ≠ none → H' b ≠ none) : StR K ι H' S :=
  ⟨h.len, h.nd, fun n a e => hn a (h.there n a e), fun n o a e1 e2 => (h.at_ n o a e1 e2).mono (List.prefix_refl _) k (hl a), fun n P q e => k.tabs P q (h.tb n P q e)⟩
theorem StR.new (h : StR K ι H S) {p : Addr} {o : HO} (hp : H p = none) : StR K ι (upd H p o) S :=
  h.keep (.new hp) (fun b vs e => by rw [upd_ne (ne_of_none e hp)]; exact e) fun b e => by
    unfold upd
    split
    · simp
    · exact e
/-- a list that is at no number is written -/
theorem StR.other (h : StR K ι H S) {p : Addr} {xs : List V} {o : HO} (hp : H p = some (.lst xs)) (hn : p ∉ ι) : StR K ι (upd H p o) S := by
  have ne : ∀ (n : Nat) (a : Addr), ι[n]? = some a → a ≠ p := fun n a e z => by
    subst z
    exact hn (List.mem_of_getElem? e)
  refine ⟨h.len, h.nd, fun n a e => ?_, fun n u a e1 e2 => ?_, fun n P q e => (KeepA.list hp).tabs P q (h.tb n P q e)⟩
  · rw [upd_ne (ne n a e)]
    exact h.there n a e
  · refine (h.at_ n u a e1 e2).mono (List.prefix_refl _) (.list hp) fun vs e => ?_
    rw [upd_ne (ne n a e2)]
    exact e
theorem StR.notin (h : StR K ι H S) {p : Addr} (hp : H p = none) : p ∉ ι := fun hm => by
  obtain ⟨n, e⟩ := List.mem_iff_getElem?.mp hm
  exact h.there n p e hp
/-- a list that stands at no number gets one -/
theorem StR.push (h : StR K ι H S) {p : Addr} {vs : List V} {ds : List D} (hp : H p = some (.lst vs)) (hn : p ∉ ι) (r : RdAll K ι H vs ds) : StR K (ι ++ [p]) H (S ++ [.lst ds]) := by
  refine ⟨by rw [List.length_append, List.length_append, h.len]; rfl, ?_, fun n a e => ?_, fun n o a e1 e2 => ?_, fun n P q e => ?_⟩
  · rw [List.nodup_append]
    exact ⟨h.nd, by simp, fun a ha b hb z => by
      rw [List.mem_singleton] at hb
      exact hn (hb ▸ z ▸ ha)⟩
  · by_cases hlt : n < ι.length
    · rw [List.getElem?_append_left hlt] at e
      exact h.there n a e
    · rw [List.getElem?_append_right (by omega)] at e
      have hz : n - ι.length = 0 := by
        have := (List.getElem?_eq_some_iff.mp e).1
        simp at this
        omega
      rw [hz] at e
      simp at e
      subst e
      rw [hp]
      simp
  · by_cases hlt : n < S.length
    · rw [List.getElem?_append_left hlt] at e1
      rw [List.getElem?_append_left (by rw [h.len]; exact hlt)] at e2
      exact (h.at_ n o a e1 e2).mono (List.prefix_append _ _) (.refl _) fun _ e => e
    · rw [List.getElem?_append_right (by omega)] at e1
      rw [List.getElem?_append_right (by rw [h.len]; omega), h.len] at e2
      have hz : n - S.length = 0 := by
        have := (List.getElem?_eq_some_iff.mp e1).1
        simp at this
        omega
      rw [hz] at e1 e2
      simp at e1 e2
      subst e1 e2
      exact .lst hp (r.mono (List.prefix_append _ _) (.refl _))
  · exact h.tb n P q (tab_app e fun z => by cases z)
theorem nodup_at {l : List Addr} {i j : Nat} {a : Addr} (nd : l.Nodup) (a1 : l[i]? = some a) (a2 : l[j]? = some a) : i = j := by
  obtain ⟨h1, e1⟩ := List.getElem?_eq_some_iff.mp a1
  obtain ⟨h2, e2⟩ := List.getElem?_eq_some_iff.mp a2
  exact (List.getElem_inj nd).mp (e1.trans e2.symm)
/-- a list of the store is written -/
theorem StR.set (h : StR K ι H S) {n : Nat} {p : Addr} {vs ws : List V} {ds : List D} (e : ι[n]? = some p) (hp : H p = some (.lst vs)) (r : RdAll K ι H ws ds) : StR K ι (upd H p (.lst ws)) (S.set n (.lst ds)) := by
  refine ⟨by rw [List.length_set, h.len], h.nd, fun m a e1 => ?_, fun m o a e1 e2 => ?_, fun n P q e1 => (KeepA.list hp).tabs P q (h.tb n P q (tab_set e1 fun z => by cases z))⟩
  · unfold upd
    split
    · simp
    · exact h.there m a e1
  · by_cases hm : m = n
    · subst hm
      rw [e] at e2
      cases e2
      have hlt : m < S.length := by
        have := (List.getElem?_eq_some_iff.mp e1).1
        simpa using this
      rw [List.getElem?_set_self hlt] at e1
      cases e1
      exact .lst upd_same (r.mono (List.prefix_refl _) (.list hp))
    · rw [List.getElem?_set_ne (Ne.symm hm)] at e1
      refine (h.at_ m o a e1 e2).mono (List.prefix_refl _) (.list hp) fun vs' e3 => ?_
      rw [upd_ne (fun z => hm (by subst z; exact nodup_at h.nd e2 e))]
      exact e3
/-- a list of the store is not changed from here on -/
theorem StR.fix (h : StR K ι H S) {n : Nat} {p : Addr} {vs : List V} {o : HO} (e : ι[n]? = some p) (hp : H p = some (.lst vs)) : StR K ι (upd H p o) (S.set n .gone) := by
  refine ⟨by rw [List.length_set, h.len], h.nd, fun m a e1 => ?_, fun m u a e1 e2 => ?_, fun n P q e1 => (KeepA.list hp).tabs P q (h.tb n P q (tab_set e1 fun z => by cases z))⟩
  · unfold upd
    split
    · simp
    · exact h.there m a e1
  · by_cases hm : m = n
    · subst hm
      have hlt : m < S.length := by
        have := (List.getElem?_eq_some_iff.mp e1).1
        simpa using this
      rw [List.getElem?_set_self hlt] at e1
      cases e1
      exact .gone
    · rw [List.getElem?_set_ne (Ne.symm hm)] at e1
      refine (h.at_ m u a e1 e2).mono (List.prefix_refl _) (.list hp) fun vs' e3 => ?_
      rw [upd_ne (fun z => hm (by subst z; exact nodup_at h.nd e2 e))]
      exact e3
end

/-! ### what is wanted behind a part -/
structure Post (K : PySem.W.Frag) (ι : List Addr) (H : Hp) (ι' : List Addr) (H' : Hp) (S' : Sto) : Prop where
  pre : ι <+: ι'
  keep : Keep H H'
  sto : StR K ι' H' S'
  frame : ∀ b vs, b ∉ ι → H b = some (.lst vs) → H' b = some (.lst vs) ∧ b ∉ ι'
  dom : ∀ b, H b ≠ none → H' b ≠ none
section
variable {K : PySem.W.Frag} {ι ι1 ι2 : List Addr} {H H1 H2 : Hp} {S S1 S2 : Sto}
theorem Post.refl (h : StR K ι H S) : Post K ι H ι H S := ⟨List.prefix_refl _, .refl _, h, fun _ _ n e => ⟨e, n⟩, fun _ e => e⟩
theorem Post.trans (a : Post K ι H ι1 H1 S1) (b : Post K ι1 H1 ι2 H2 S2) : Post K ι H ι2 H2 S2 :=
  ⟨a.pre.trans b.pre, a.keep.trans b.keep, b.sto, fun c vs n e => let ⟨e1, n1⟩ := a.frame c vs n e; b.frame c vs n1 e1, fun c e => b.dom c (a.dom c e)⟩
theorem upd_dom {H : Hp} {p : Addr} {o : HO} : ∀ b, H b ≠ none → upd H p o b ≠ none := fun b e => by
  unfold upd
  split
  · simp
  · exact e
theorem Post.new (h : StR K ι H S) {p : Addr} {o : HO} (hp : H p = none) : Post K ι H ι (upd H p o) S :=
  ⟨List.prefix_refl _, .new hp, h.new hp, fun b vs n e => ⟨by rw [upd_ne (ne_of_none e hp)]; exact e, n⟩, upd_dom⟩
/-- a list of the store is written -/
theorem Post.wr {n : Nat} {p : Addr} {vs : List V} {o : HO} (e : ι[n]? = some p) (hp : H p = some (.lst vs)) (h : StR K ι (upd H p o) S) : Post K ι H ι (upd H p o) S :=
  ⟨List.prefix_refl _, .list hp, h, fun b ws m q => ⟨by rw [upd_ne (fun z => m (by subst z; exact List.mem_of_getElem? e))]; exact q, m⟩, upd_dom⟩
/-- a list that is new since H is written, fixed -/
theorem Post.fixNew (a : Post K ι H ι1 H1 S1) {p : Addr} {vs : List V} {o : HO} (hp : H1 p = some (.lst vs)) (hn : p ∉ ι1) (h0 : H p = none) : Post K ι H ι1 (upd H1 p o) S1 :=
  ⟨a.pre, a.keep.trans (.list hp), a.sto.other hp hn, fun b ws m q => let ⟨e1, n1⟩ := a.frame b ws m q; ⟨by rw [upd_ne (ne_of_none q h0)]; exact e1, n1⟩, fun b e => upd_dom b (a.dom b e)⟩
end

/-- the class of an error by its name -/
def clsV (mg : Str → Option Value) (c : Str) : Value := (mg c).getD .none
section
variable (K : PySem.W.Frag) (mg : Str → Option Value) (E : XK) (ι : List Addr) (H : Hp)
def Wp {α β : Type} (rel : List Addr → Hp → α → β → Prop) (r : R β) (Q : α → Hp → Prop) : Prop := match r with
  | .ok d S' => ∀ v H' ι', Post K ι H ι' H' S' → rel ι' H' v d → Q v H'
  | .ex c S' => ∀ H' ι', Post K ι H ι' H' S' → E (clsV mg c) none H'
  | .no => False
def WpF (r : F) (N : Ends) : Prop := match r with
  | .nx σd S' => ∀ σ' H' ι', Post K ι H ι' H' S' → EnR K ι' H' σ' σd → N.nx σ' H'
  | .bk σd S' => ∀ σ' H' ι', Post K ι H ι' H' S' → EnR K ι' H' σ' σd → N.bk σ' H'
  | .ct σd S' => ∀ σ' H' ι', Post K ι H ι' H' S' → EnR K ι' H' σ' σd → N.ct σ' H'
  | .rt d S' => ∀ v H' ι', Post K ι H ι' H' S' → Rd K ι' H' v d → N.rt v H'
  | .ex c S' => ∀ H' ι', Post K ι H ι' H' S' → E (clsV mg c) none H'
  | .no => False
end
abbrev relD (K : PySem.W.Frag) : List Addr → Hp → V → D → Prop := fun ι H v d => Rd K ι H v d
abbrev relB : List Addr → Hp → Bool → Bool → Prop := fun _ _ b k => b = k
abbrev relA (K : PySem.W.Frag) : List Addr → Hp → List V → List D → Prop := fun ι H vs ds => RdAll K ι H vs ds
/-- a new list (since H0) that has no number yet -/
abbrev relL (K : PySem.W.Frag) (H0 : Hp) : List Addr → Hp → V → List D → Prop := fun ι H v ds => ∃ p vs, H0 p = none ∧ v = .ref p ∧ H p = some (.lst vs) ∧ p ∉ ι ∧ vs.length ≤ sizeLine ∧ RdAll K ι H vs ds
section
variable {K : PySem.W.Frag} {mg : Str → Option Value} {E : XK} {ι ι' : List Addr} {H H' : Hp} {S S' : Sto} {α β γ δ : Type} {rel : List Addr → Hp → α → β → Prop} {rel' : List Addr → Hp → γ → δ → Prop} {r : R β} {Q Q' : α → Hp → Prop}
theorem Wp.re (p : Post K ι H ι' H' S') (h : Wp K mg E ι H rel r Q) : Wp K mg E ι' H' rel r Q := by
  cases r with
  | ok d S1 => exact fun v H1 ι1 q => h v H1 ι1 (p.trans q)
  | ex c S1 => exact fun H1 ι1 q => h H1 ι1 (p.trans q)
  | no => exact h
theorem WpF.re {r : F} {N : Ends} (p : Post K ι H ι' H' S') (h : WpF K mg E ι H r N) : WpF K mg E ι' H' r N := by
  cases r with
  | nx d S1 => exact fun v H1 ι1 q => h v H1 ι1 (p.trans q)
  | bk d S1 => exact fun v H1 ι1 q => h v H1 ι1 (p.trans q)
  | ct d S1 => exact fun v H1 ι1 q => h v H1 ι1 (p.trans q)
  | rt d S1 => exact fun v H1 ι1 q => h v H1 ι1 (p.trans q)
  | ex c S1 => exact fun H1 ι1 q => h H1 ι1 (p.trans q)
  | no => exact h
theorem Wp.mono (h : Wp K mg E ι H rel r Q) (q : ∀ v H', Q v H' → Q' v H') : Wp K mg E ι H rel r Q' := by
  cases r with
  | ok d S1 => exact fun v H1 ι1 p x => q _ _ (h v H1 ι1 p x)
  | ex c S1 => exact h
  | no => exact h
theorem Wp.sub {rel2 : List Addr → Hp → α → β → Prop} (h : Wp K mg E ι H rel r Q) (s : ∀ ι H v d, rel2 ι H v d → rel ι H v d) : Wp K mg E ι H rel2 r Q := by
  cases r with
  | ok d S1 => exact fun v H1 ι1 p x => h v H1 ι1 p (s _ _ _ _ x)
  | ex c S1 => exact h
  | no => exact h
/-- a part, then the rest -/
theorem Wp.bind {k : β → Sto → R δ} {P : γ → Hp → Prop} (h : Wp K mg E ι H rel' (r.bind k) P) (q : ∀ d S', r = .ok d S' → ∀ v H' ι', Post K ι H ι' H' S' → rel ι' H' v d → Wp K mg E ι' H' rel' (k d S') P → Q v H') : Wp K mg E ι H rel r Q := by
  cases r with
  | ok d S1 => exact fun v H1 ι1 p x => q d S1 rfl v H1 ι1 p x (h.re p)
  | ex c S1 => exact h
  | no => exact h
/-- .. the rest as it was wanted ahead of it -/
theorem Wp.bind0 {k : β → Sto → R δ} {P : γ → Hp → Prop} (h : Wp K mg E ι H rel' (r.bind k) P) (q : ∀ d S', r = .ok d S' → ∀ v H' ι', Post K ι H ι' H' S' → rel ι' H' v d → Wp K mg E ι H rel' (k d S') P → Q v H') : Wp K mg E ι H rel r Q := by
  cases r with
  | ok d S1 => exact fun v H1 ι1 p x => q d S1 rfl v H1 ι1 p x h
  | ex c S1 => exact h
  | no => exact h
theorem Wp.run {k : β → Sto → F} {N : Ends} (h : WpF K mg E ι H (r.run k) N) (q : ∀ d S', r = .ok d S' → ∀ v H' ι', Post K ι H ι' H' S' → rel ι' H' v d → WpF K mg E ι' H' (k d S') N → Q v H') : Wp K mg E ι H rel r Q := by
  cases r with
  | ok d S1 => exact fun v H1 ι1 p x => q d S1 rfl v H1 ι1 p x (WpF.re p h)
  | ex c S1 => exact h
  | no => exact h
end
end DV

set_option maxHeartbeats 4000000
/-! The data-level meaning holds of the model: judgements, expressions, statements. -/
namespace DV
open PySem PySem.Spec PyProof.Rows L2

structure Okx (k : Nat) (X : Cx) (E : XK) : Prop where
  calm : X.calm = true
  nd : X.N.Nodup
  room : Room k X.A
  gd : X.A.guards = some []
  pass : Passes (L2.CX X.prog X.w) X E
  take : Takes X (fun cls d _ H => E cls d H)
  own : PassesOwn (model X.prog X.w) X.A X.env X.xe
theorem Okx.blk {k : Nat} {X : Cx} {E : XK} (o : Okx k X E) (s : Shared) (H : Hp) (scope : Scope) (cenv : Env) (fp : List Addr) : Okx k (X.blk s H scope cenv fp) E0 :=
  ⟨o.calm, o.nd, o.room, o.gd, passL, takes0, .never⟩

def DE (X : Cx) (E : XK) (e : Expr) (f : Ex) : Prop := ∃ t, PE X e t ∧ ∀ σ H σd S ι Q, EnR X.K ι H σ σd → StR X.K ι H S → Wp X.K X.mg E ι H (relD X.K) (f σd S) Q → t σ H Q
def DT (X : Cx) (E : XK) (e : Expr) (f : Tx) : Prop := ∃ t, PT X e t ∧ ∀ σ H σd S ι Q, EnR X.K ι H σ σd → StR X.K ι H S → Wp X.K X.mg E ι H relB (f σd S) Q → t σ H Q
def DW (X : Cx) (E : XK) (e : Expr) (f : Tx) : Prop := ∃ t, PW X e t ∧ ∀ σ H σd S ι Q, EnR X.K ι H σ σd → StR X.K ι H S → Wp X.K X.mg E ι H relB (f σd S) Q → t σ H Q
/-- a new list -/
def DL (X : Cx) (E : XK) (e : Expr) (f : Ax) : Prop := ∃ t, PE X e t ∧ ∀ σ H σd S ι Q, EnR X.K ι H σ σd → StR X.K ι H S → Wp X.K X.mg E ι H (relL X.K H) (f σd S) Q → t σ H Q
def DA (X : Cx) (E : XK) (es : List Expr) (f : Ax) : Prop := (∀ σ S ds S', f σ S = .ok ds S' → ds.length = es.length) ∧
  ∃ t, PA X es t ∧ ∀ σ H σd S ι Q, EnR X.K ι H σ σd → StR X.K ι H S → Wp X.K X.mg E ι H (relA X.K) (f σd S) Q → t σ H Q
def DS (X : Cx) (E : XK) (st : Stmt) (f : Sx) : Prop := ∃ t, PS X st t ∧ ∀ σ H σd S ι N, EnR X.K ι H σ σd → StR X.K ι H S → WpF X.K X.mg E ι H (f σd S) N → t N σ H
def DSs (X : Cx) (E : XK) (st : List Stmt) (f : Sx) : Prop := ∃ t, PSs X st t ∧ ∀ σ H σd S ι N, EnR X.K ι H σ σd → StR X.K ι H S → WpF X.K X.mg E ι H (f σd S) N → t N σ H
/-- a target; it sets the slots vs alone -/
def DG (X : Cx) (E : XK) (vs : List Nat) (tg : Expr) (g : Tg) : Prop := ∃ t, PG X tg t ∧ ∀ v d σ H σd S ι Q, EnR X.K ι H σ σd → StR X.K ι H S → Rd X.K ι H v d →
  Wp X.K X.mg E ι H (fun ι' H' σ' σd' => EnR X.K ι' H' σ' σd' ∧ wipe σ' vs = wipe σ vs) (g d σd S) Q → t v σ H Q
def DGs (X : Cx) (E : XK) (vs : List Nat) (tgs : List Expr) (g : List D → En → Sto → R En) : Prop := ∃ t, PGs X tgs t ∧ ∀ ws ds σ H σd S ι Q, EnR X.K ι H σ σd → StR X.K ι H S → RdAll X.K ι H ws ds →
  Wp X.K X.mg E ι H (fun ι' H' σ' σd' => EnR X.K ι' H' σ' σd' ∧ wipe σ' vs = wipe σ vs) (g ds σd S) Q → t ws σ H Q


/-! ### kinds of values -/
section
variable {K : PySem.W.Frag} {ι : List Addr} {H : Hp} {S : Sto} {v : V} {d : D}
theorem int_of {i : Int} (r : Rd K ι H v (.py (.int i))) : v = .int i := by
  cases r with
  | py r => cases r; rfl
theorem str_of {i : Str} (r : Rd K ι H v (.py (.str i))) : v = .str i := by
  cases r with
  | py r => cases r; rfl
/-- a sequence is read -/
theorem seq_of (hS : StR K ι H S) (r : Rd K ι H v d) {ds : List D} (h : seqOf S d = some ds) : ∃ a vs, v = .ref a ∧ (SqL K H a vs ∨ (FT K H a vs ∧ ∃ ps, d = .py (.tuple ps) ∧ ps.length ≤ sizeLine)) ∧ RdAll K ι H vs ds := by
  cases r with
  | py r =>
    cases r with
    | lst hf hz hs =>
      cases h
      exact ⟨_, _, rfl, .inl hf.sq, .of_pys hs⟩
    | tup hf hz hs =>
      cases h
      exact ⟨_, _, rfl, .inr ⟨hf, _, rfl, hz⟩, .of_pys hs⟩
    | _ => cases h
  | obj e =>
    rename_i n a
    simp only [seqOf] at h
    split at h
    · rename_i ds' he
      cases h
      cases hS.at_ _ _ _ he e with
      | lst ha rr => exact ⟨a, _, rfl, .inl (.of ha), rr⟩
    · cases h
  | raw a => cases h
theorem tyL (hS : StR K ι H S) (r : Rd K ι H v d) (h : lsOk S d = true) : tyV K "list" v H := by
  cases r with
  | py r =>
    cases r with
    | lst hf hz hs => exact .inl ⟨rfl, _, hf.sq⟩
    | _ => cases h
  | obj e =>
    rename_i n a
    simp only [lsOk] at h
    split at h
    · rename_i ds' he
      cases hS.at_ _ _ _ he e with
      | lst ha rr => exact .inl ⟨rfl, _, .of ha⟩
    · cases h
  | raw a => cases h
theorem atI_read {vs : List V} {ds : List D} {i : Int} {d : D} (r : RdAll K ι H vs ds) (h : atI ds i = some d) : ∃ v, atI vs i = some v ∧ Rd K ι H v d := by
  unfold atI at h ⊢
  rw [r.length]
  cases e : ixN ds.length i with
  | none => rw [e] at h; cases h
  | some j =>
    rw [e] at h
    obtain ⟨v, e1, e2⟩ := Paired.getR r h
    exact ⟨v, e1, e2⟩
theorem item_read {mg : Str → Option Value} {E : XK} {x y : V} {d e : D} {Q : VK} (hS : StR K ι H S) (rx : Rd K ι H x d) (ry : Rd K ι H y e) (h : Wp K mg E ι H (relD K) (itemD d e S) Q) : rIx K x y H Q := by
  unfold itemD at h
  split at h
  · rename_i z i
    split at h
    · rename_i hz
      split at h
      · rename_i c hc
        exact .inr (.inr ⟨z, i, c, str_of rx, int_of ry, hz, hc, h _ _ _ (.refl hS) (.py (.str _))⟩)
      · exact h.elim
    · exact h.elim
  · rename_i i hne
    split at h
    · rename_i ds hds
      split at h
      · rename_i d' hd'
        obtain ⟨a, vs, rfl, hq, rr⟩ := seq_of hS rx hds
        obtain ⟨v, hv, rv⟩ := atI_read rr hd'
        have q := h v H ι (.refl hS) rv
        rcases hq with hq | hq
        · exact .inl ⟨a, vs, i, v, rfl, int_of ry, hq, hv, q⟩
        · exact .inr (.inl ⟨a, vs, i, v, rfl, int_of ry, hq.1.sq, hv, q⟩)
      · exact h.elim
    · exact h.elim
  · exact h.elim
end
section
variable {X : Cx} {E : XK} {k : Nat} {e a b c : Expr} {f g h : Ex} {es : List Expr} {fs : Ax} {pos : Pos}
theorem De.mk {t : TE} (p : PE X e t) (q : ∀ σ H σd S ι Q, EnR X.K ι H σ σd → StR X.K ι H S → Wp X.K X.mg E ι H (relD X.K) (f σd S) Q → t σ H Q) : DE X E e f := ⟨t, p, q⟩

/-! ### names, constants -/
theorem de_var (i : Nat) {x : Str} (hN : X.N[i]? = some x := by rfl) (hv : Vis X.env.scope x := by first | exact Or.inl rfl | exact Or.inr (Or.inl rfl) | exact Or.inr (Or.inr rfl)) (hd : (x == ("__debug__" : Str)) = false := by decide)
    (hcd : (x == ("__classdict__" : Str)) = false := by decide) : DE X E (.Name x pos) (varE i) := by
  refine ⟨_, pe_var hN hv hd hcd, fun σ H σd S ι Q hE hS h => ?_⟩
  unfold varE at h
  split at h
  · rename_i d hd'
    obtain ⟨v, e1, r⟩ := hE.at_ i d hd'
    exact ⟨v, e1, h v H ι (.refl hS) r⟩
  · exact h.elim
theorem de_int {i : Int} {j : Nat} : DE X E (.Constant (.int i) j pos) (cE (.int i)) := ⟨_, pe_int, fun σ H σd S ι Q hE hS h => h _ _ _ (.refl hS) (.py (.int i))⟩
theorem de_bl {i : Bool} {j : Nat} : DE X E (.Constant (.bool i) j pos) (cE (.bool i)) := ⟨_, pe_bl, fun σ H σd S ι Q hE hS h => h _ _ _ (.refl hS) (.py (.bl i))⟩
theorem de_non {j : Nat} : DE X E (.Constant .none j pos) (cE .none) := ⟨_, pe_non, fun σ H σd S ι Q hE hS h => h _ _ _ (.refl hS) (.py .non)⟩
theorem de_str {x : Str} {j : Nat} : DE X E (.Constant (.str x) j pos) (cE (.str x)) := ⟨_, pe_str, fun σ H σd S ι Q hE hS h => h _ _ _ (.refl hS) (.py (.str x))⟩

/-! ### argument lists, displays -/
theorem da_nil : DA X E [] nilA := ⟨fun _ _ ds _ e => by cases e; rfl, _, pa_nil, fun σ H σd S ι Q hE hS h => h _ _ _ (.refl hS) .nil⟩
theorem da_cons (ha : DE X E e f) (hr : DA X E es fs) (hs : starEach (e :: es) X.env = (false, eval e X.env) :: starEach es X.env := by rfl) : DA X E (e :: es) (consA f fs) := by
  obtain ⟨t, p, q⟩ := ha
  obtain ⟨l, u, pu, qu⟩ := hr
  refine ⟨fun σ S ds S' h => ?_, _, pa_cons p pu hs, fun σ H σd S ι Q hE hS h => ?_⟩
  · unfold consA at h
    cases h1 : f σ S with
    | ok d S1 =>
      rw [h1, bind_ok] at h
      cases h2 : fs σ S1 with
      | ok dr S2 =>
        rw [h2, bind_ok] at h
        cases h
        rw [List.length_cons, List.length_cons, l _ _ _ _ h2]
      | ex c S2 => rw [h2] at h; cases h
      | no => rw [h2] at h; cases h
    | ex c S2 => rw [h1] at h; cases h
    | no => rw [h1] at h; cases h
  · refine q σ H σd S ι _ hE hS (Wp.bind h fun d S1 _ v H1 ι1 p1 r1 h1 => ?_)
    refine qu σ H1 σd S1 ι1 _ (hE.mono p1.pre p1.keep) p1.sto (Wp.bind h1 fun ds S2 _ vs H2 ι2 p2 r2 h2 => ?_)
    exact h2 _ _ _ (.refl p2.sto) (.cons (r1.mono p2.pre p2.keep) r2)
theorem small_line {n : Nat} (h : n ≤ 1000) : n ≤ sizeLine := Nat.le_trans h (by decide)
/-- a tuple that was made just now: its object is known -/
theorem tupF_ok {P : Program} {w : World} {H : Hp} {h : Heap} {a : Addr} {xs : List V} {us : List Value} {o : Obj} (hz : xs.length ≤ sizeLine) (r : Vals xs us) (e : h.get? a = some o) (hc : o.cls = .type "tuple") {n : Nat} (hd : o.data = .seq us.toArray n) : ObjOk P w H h a (.frz o (.tup xs)) :=
  ⟨e, hz, us, r, ⟨o, e, hc, n, hd⟩⟩
def tTupF (t : TA) : TE := fun σ H Q => t σ H fun xs H1 => xs.length ≤ sizeLine ∧ ∀ p (o : Obj), o.dict = none → H1 p = none → Q (.ref p) (upd H1 p (.frz o (.tup xs)))
theorem pe_tupF {x1 : Nat} {t : TA} (h : PA X es t) : PE X (.Tuple es x1 pos) (tTupF t) := by
  refine ⟨fun pins s σ H Q I hq => ?_⟩
  refine wpAny_Tuple_spliced (thn (h.run pos pins s σ H _ I hq) fun us s1 ⟨xs, H1, I1, r, z, q⟩ => ⟨by rw [← r.length]; exact z, ?_⟩)
  have hf : H1 s1.heap.objs.size = none := I1.hok.fresh (Nat.le_refl _)
  refine ⟨.ref s1.heap.objs.size, _, I1.laid (t' := s1.toks) (fun b u e => Heap.get?_push_of_some _ e) (Nat.le_refl _) ?_, rfl, q _ { cls := .type "tuple", data := .seq us.toArray } rfl hf⟩
  exact tupF_ok z r (Heap.get?_push_size _ rfl) rfl rfl
theorem de_tup {x1 : Nat} (ha : DA X E es fs) (hl : es.length ≤ 1000 := by decide) : DE X E (.Tuple es x1 pos) (tupE fs) := by
  obtain ⟨l, t, p, q⟩ := ha
  refine ⟨_, pe_tupF p, fun σ H σd S ι Q hE hS h => ?_⟩
  refine q σ H σd S ι _ hE hS (Wp.bind h fun ds S1 e1 vs H1 ι1 p1 r1 h1 => ?_)
  have hlen : ds.length ≤ sizeLine := by rw [l _ _ _ _ e1]; exact small_line hl
  cases hp : pysOf ds with
  | none => rw [hp] at h1; exact h1.elim
  | some ps =>
    rw [hp] at h1
    refine ⟨by rw [r1.length]; exact hlen, fun a o ho na => ?_⟩
    refine h1 _ _ _ (.new p1.sto na) (.py (.tup (.new ho) (by rw [pysOf_length hp]; exact hlen) ?_))
    exact (RdAll.pys r1 hp).keep (.new na)
theorem dl_lst (ha : DA X E es fs) (hl : es.length ≤ 1000 := by decide) : DL X E (.List es pos) fs := by
  obtain ⟨l, t, p, q⟩ := ha
  refine ⟨_, pe_lst p, fun σ H σd S ι Q hE hS h => ?_⟩
  refine q σ H σd S ι _ hE hS ?_
  cases hf : fs σd S with
  | no => rw [hf] at h; exact h.elim
  | ex c S1 => rw [hf] at h; exact h
  | ok ds S1 =>
    rw [hf] at h
    intro vs H1 ι1 p1 r1
    have hz : vs.length ≤ sizeLine := by rw [r1.length, l _ _ _ _ hf]; exact small_line hl
    refine ⟨hz, fun a na => ?_⟩
    refine h _ _ _ (p1.trans (.new p1.sto na)) ⟨a, vs, ?_, rfl, upd_same, p1.sto.notin na, hz, r1.mono (List.prefix_refl _) (.new na)⟩
    cases q0 : H a with
    | none => rfl
    | some u => exact absurd na (p1.dom a (by rw [q0]; simp))

/-! ### a list that is not changed from here on -/
def tFz (t : TE) : TE := fun σ H Q => t σ H fun v H1 => ∃ a xs, v = .ref a ∧ H1 a = some (.lst xs) ∧ ∀ o, Q v (upd H1 a (.frz o (.lst xs)))
theorem pe_frz {t : TE} (p : PE X e t) : PE X e (tFz t) := by
  refine ⟨fun pins s σ H Q I h => thn (p.run pins s σ H _ I h) fun u s1 ⟨v, H1, I1, r, a, xs, ev, ha, q⟩ => ?_⟩
  obtain ⟨o, I2⟩ := I1.lock ha trivial
  exact ⟨v, _, I2, r, q o⟩
/-- a new list, then fixed -/
theorem frz_post {ι ι1 : List Addr} {H H1 : Hp} {S1 : Sto} {v : V} {ds : List D} {ps : List PyData} (p1 : Post X.K ι H ι1 H1 S1) (r : relL X.K H ι1 H1 v ds) (hp : pysOf ds = some ps) :
    ∃ a xs, v = .ref a ∧ H1 a = some (.lst xs) ∧ ∀ o, Post X.K ι H ι1 (upd H1 a (.frz o (.lst xs))) S1 ∧ Pp X.K (upd H1 a (.frz o (.lst xs))) (.ref a) (.list ps) := by
  obtain ⟨a, vs, h0, rfl, ha, hn, hz, r⟩ := r
  refine ⟨a, vs, rfl, ha, fun o => ⟨p1.fixNew ha hn h0, .lst (.inl ⟨o, upd_same⟩) ?_ ?_⟩⟩
  · rw [pysOf_length hp, ← r.length]
    exact hz
  · exact (RdAll.pys r hp).keep (.list ha)
theorem de_frz {fl : Ax} (hl : DL X E e fl) : DE X E e (frzE fl) := by
  obtain ⟨t, p, q⟩ := hl
  refine ⟨_, pe_frz p, fun σ H σd S ι Q hE hS h => ?_⟩
  refine q σ H σd S ι _ hE hS (Wp.bind0 h fun ds S1 e1 v H1 ι1 p1 r1 h1 => ?_)
  cases hp : pysOf ds with
  | none => rw [hp] at h1; exact h1.elim
  | some ps =>
    rw [hp] at h1
    obtain ⟨a, xs, rfl, ha, z⟩ := frz_post p1 r1 hp
    exact ⟨a, xs, rfl, ha, fun o => h1 _ _ _ (z o).1 (.py (z o).2)⟩
theorem thw_post {ι ι1 : List Addr} {H H1 : Hp} {S1 : Sto} {v : V} {ds : List D} (p1 : Post X.K ι H ι1 H1 S1) (r : relL X.K H ι1 H1 v ds) : ∃ ι2, Post X.K ι H ι2 H1 (S1 ++ [.lst ds]) ∧ Rd X.K ι2 H1 v (.obj S1.length) := by
  obtain ⟨a, vs, h0, rfl, ha, hn, hz, r⟩ := r
  refine ⟨ι1 ++ [a], ⟨p1.pre.trans (List.prefix_append _ _), p1.keep, p1.sto.push ha hn r, fun b ws m q => ?_, p1.dom⟩, .obj ?_⟩
  · obtain ⟨e1, n1⟩ := p1.frame b ws m q
    refine ⟨e1, fun hm => ?_⟩
    rcases List.mem_append.mp hm with hm | hm
    · exact n1 hm
    · rw [List.mem_singleton] at hm
      exact ne_of_none q h0 hm
  · rw [← p1.sto.len]
    simp
theorem de_thw {fl : Ax} (hl : DL X E e fl) : DE X E e (thwE fl) := by
  obtain ⟨t, p, q⟩ := hl
  refine ⟨_, p, fun σ H σd S ι Q hE hS h => ?_⟩
  refine q σ H σd S ι _ hE hS (Wp.bind0 h fun ds S1 e1 v H1 ι1 p1 r1 h1 => ?_)
  obtain ⟨ι2, p2, r2⟩ := thw_post p1 r1
  exact h1 _ _ _ p2 r2
/-! ### operators by values -/
/-- an operator of the model does what g says -/
def DOp (X : Cx) (o : Value → Value → Sem Value) (g : D → D → Sto → R D) : Prop := ∃ r, OpR X o r ∧ ∀ x y d e H S ι E Q, StR X.K ι H S → Rd X.K ι H x d → Rd X.K ι H y e → Wp X.K X.mg E ι H (relD X.K) (g d e S) Q → r x y H Q
def DUn (X : Cx) (o : Value → Sem Value) (g : D → Sto → R D) : Prop := ∃ r, UnR X o r ∧ ∀ x d H S ι E Q, StR X.K ι H S → Rd X.K ι H x d → Wp X.K X.mg E ι H (relD X.K) (g d S) Q → r x H Q
/-- a built-in upon its arguments -/
def DC (X : Cx) (o : Value) (g : List D → Sto → R D) : Prop := ∃ r, CallR X o r ∧ ∀ xs ds H S ι E Q, StR X.K ι H S → RdAll X.K ι H xs ds → Wp X.K X.mg E ι H (relD X.K) (g ds S) Q → r xs H Q
/-- a built-in type's method -/
def DM (X : Cx) (T : String) (id : String) (g : D → List D → Sto → R D) : Prop := ∃ r, MtR X id r ∧ ∀ x xs d ds H S ι E Q, StR X.K ι H S → Rd X.K ι H x d → RdAll X.K ι H xs ds → Wp X.K X.mg E ι H (relD X.K) (g d ds S) Q → r x xs H Q
theorem op_read {o : Value → Value → Sem Value} {gg : D → D → Sto → R D} {r : R2} {ta tb : TE} (q : ∀ σ H σd S ι Q, EnR X.K ι H σ σd → StR X.K ι H S → Wp X.K X.mg E ι H (relD X.K) (f σd S) Q → ta σ H Q)
    (qu : ∀ σ H σd S ι Q, EnR X.K ι H σ σd → StR X.K ι H S → Wp X.K X.mg E ι H (relD X.K) (g σd S) Q → tb σ H Q)
    (qr : ∀ x y d e H S ι E Q, StR X.K ι H S → Rd X.K ι H x d → Rd X.K ι H y e → Wp X.K X.mg E ι H (relD X.K) (gg d e S) Q → r x y H Q)
    {σ : L2.St} {H : Hp} {σd : En} {S : Sto} {ι : List Addr} {Q : VK} (hE : EnR X.K ι H σ σd) (hS : StR X.K ι H S) (h : Wp X.K X.mg E ι H (relD X.K) (opE gg f g σd S) Q) : tOp r ta tb σ H Q := by
  refine q σ H σd S ι _ hE hS (Wp.bind h fun d S1 _ v H1 ι1 p1 r1 h1 => ?_)
  refine qu σ H1 σd S1 ι1 _ (hE.mono p1.pre p1.keep) p1.sto (Wp.bind h1 fun d2 S2 _ v2 H2 ι2 p2 r2 h2 => ?_)
  exact qr _ _ _ _ _ _ _ E _ p2.sto (r1.mono p2.pre p2.keep) r2 h2
/-- a truth, as a test of its own -/
theorem bool_of {K : PySem.W.Frag} {ι : List Addr} {H : Hp} {v : V} {c : Bool} (r : Rd K ι H v (.py (.bool c))) : v = .bl c := by
  cases r with
  | py r => cases r; rfl
theorem Wp.val {K : PySem.W.Frag} {mg : Str → Option Value} {ι : List Addr} {H : Hp} {r : R D} {Q : Bool → Hp → Prop} (h : Wp K mg E ι H relB (r.bind fun x S1 => match x with
    | .py (.bool k) => .ok k S1
    | _ => .no) Q) : Wp K mg E ι H (relD K) r (fun v H' => ∃ k, v = .bl k ∧ Q k H') := by
  refine Wp.bind h fun d3 S3 _ v3 H3 ι3 p3 r3 h3 => ?_
  split at h3
  · exact ⟨_, bool_of r3, h3 _ _ _ (.refl p3.sto) rfl⟩
  · exact h3.elim
theorem de_bin {op : Operator} {gg : D → D → Sto → R D} (ho : DOp X (binaryOp op) gg) (ha : DE X E a f) (hb : DE X E b g) : DE X E (.BinOp a op b pos) (opE gg f g) := by
  obtain ⟨t, p, q⟩ := ha
  obtain ⟨u, pu, qu⟩ := hb
  obtain ⟨r, hr, qr⟩ := ho
  exact ⟨_, pe_op hr p pu, fun σ H σd S ι Q hE hS h => op_read (o := binaryOp op) q qu qr hE hS h⟩
theorem de_cmp {op : CmpOp} {gg : D → D → Sto → R D} (ho : DOp X (compareOp op) gg) (ha : DE X E a f) (hb : DE X E b g) (hm : behindInMarks op b = false := by rfl) : DE X E (.Compare a [op] [b] pos) (opE gg f g) := by
  obtain ⟨t, p, q⟩ := ha
  obtain ⟨u, pu, qu⟩ := hb
  obtain ⟨r, hr, qr⟩ := ho
  exact ⟨_, pe_cmpR hr p pu hm, fun σ H σd S ι Q hE hS h => op_read (o := compareOp op) q qu qr hE hS h⟩
theorem dt_cmp {op : CmpOp} {gg : D → D → Sto → R D} (ho : DOp X (compareOp op) gg) (ha : DE X E a f) (hb : DE X E b g) (hm : behindInMarks op b = false := by rfl) : DT X E (.Compare a [op] [b] pos) (valT (opE gg f g)) := by
  obtain ⟨t, p, q⟩ := ha
  obtain ⟨u, pu, qu⟩ := hb
  obtain ⟨r, hr, qr⟩ := ho
  exact ⟨_, pt_cmpR hr p pu hm, fun σ H σd S ι Q hE hS h => op_read (o := compareOp op) q qu qr hE hS (Wp.val h)⟩
theorem de_un {op : UnaryOp} {gg : D → Sto → R D} (ho : DUn X (unaryOp op) gg) (ha : DE X E a f) : DE X E (.UnaryOp op a pos) (op1 gg f) := by
  obtain ⟨t, p, q⟩ := ha
  obtain ⟨r, hr, qr⟩ := ho
  refine ⟨_, pe_un hr p, fun σ H σd S ι Q hE hS h => ?_⟩
  refine q σ H σd S ι _ hE hS (Wp.bind h fun d S1 _ v H1 ι1 p1 r1 h1 => ?_)
  exact qr _ _ _ _ _ E _ p1.sto r1 h1
theorem dt_val (ha : DE X E a f) (he : ∀ whole, isTrue a X.env whole = (do let v ← whole; standAt a.pos; holding [v] (truthy v)) := by intro _; rfl) : DT X E a (valT f) := by
  obtain ⟨t, p, q⟩ := ha
  exact ⟨_, pt_val p he, fun σ H σd S ι Q hE hS h => q σ H σd S ι _ hE hS (Wp.val h)⟩

/-! ### and, or, not -/
variable {ft gt : Tx} {rest : List Expr}
theorem dw_and1 (ha : DT X E a ft) : DW X E (.BoolOp .And [a] pos) ft := by
  obtain ⟨t, p, q⟩ := ha
  exact ⟨_, pw_and1 p, q⟩
theorem dw_or1 (ha : DT X E a ft) : DW X E (.BoolOp .Or [a] pos) ft := by
  obtain ⟨t, p, q⟩ := ha
  exact ⟨_, pw_or1 p, q⟩
theorem dw_and (ha : DT X E a ft) (hb : DW X E (.BoolOp .And (b :: rest) pos) gt) : DW X E (.BoolOp .And (a :: b :: rest) pos) (andT ft gt) := by
  obtain ⟨t, p, q⟩ := ha
  obtain ⟨u, pu, qu⟩ := hb
  refine ⟨_, pw_and p pu, fun σ H σd S ι Q hE hS h => ?_⟩
  refine q σ H σd S ι _ hE hS (Wp.bind h fun d S1 _ v H1 ι1 p1 r1 h1 => ?_)
  cases r1
  cases d with
  | true => exact qu σ H1 σd S1 ι1 _ (hE.mono p1.pre p1.keep) p1.sto h1
  | false => exact h1 _ _ _ (.refl p1.sto) rfl
theorem dw_or (ha : DT X E a ft) (hb : DW X E (.BoolOp .Or (b :: rest) pos) gt) : DW X E (.BoolOp .Or (a :: b :: rest) pos) (orT ft gt) := by
  obtain ⟨t, p, q⟩ := ha
  obtain ⟨u, pu, qu⟩ := hb
  refine ⟨_, pw_or p pu, fun σ H σd S ι Q hE hS h => ?_⟩
  refine q σ H σd S ι _ hE hS (Wp.bind h fun d S1 _ v H1 ι1 p1 r1 h1 => ?_)
  cases r1
  cases d with
  | false => exact qu σ H1 σd S1 ι1 _ (hE.mono p1.pre p1.keep) p1.sto h1
  | true => exact h1 _ _ _ (.refl p1.sto) rfl
theorem dt_w (h : DW X E e ft) : DT X E e ft := by
  obtain ⟨t, p, q⟩ := h
  exact ⟨_, p.pt, q⟩
theorem dt_not (ha : DT X E a ft) : DT X E (.UnaryOp .Not a pos) (notT ft) := by
  obtain ⟨t, p, q⟩ := ha
  refine ⟨_, pt_not p, fun σ H σd S ι Q hE hS h => ?_⟩
  refine q σ H σd S ι _ hE hS (Wp.bind h fun d S1 _ v H1 ι1 p1 r1 h1 => ?_)
  cases r1
  exact h1 _ _ _ (.refl p1.sto) rfl
theorem de_one {op} (ha : DE X E a f) : DE X E (.BoolOp op [a] pos) f := by
  obtain ⟨t, p, q⟩ := ha
  exact ⟨_, pe_one p, q⟩
theorem de_and (ha : DE X E a f) (hb : DE X E (.BoolOp .And (b :: rest) pos) g) : DE X E (.BoolOp .And (a :: b :: rest) pos) (andE f g) := by
  obtain ⟨t, p, q⟩ := ha
  obtain ⟨u, pu, qu⟩ := hb
  refine ⟨_, pe_and p pu, fun σ H σd S ι Q hE hS h => ?_⟩
  refine q σ H σd S ι _ hE hS (Wp.bind h fun d S1 _ v H1 ι1 p1 r1 h1 => ?_)
  split at h1
  · exact ⟨_, bool_of r1, qu σ H1 σd S1 ι1 _ (hE.mono p1.pre p1.keep) p1.sto h1⟩
  · exact ⟨_, bool_of r1, h1 _ _ _ (.refl p1.sto) (.py (.bl false))⟩
  · exact h1.elim
theorem de_or (ha : DE X E a f) (hb : DE X E (.BoolOp .Or (b :: rest) pos) g) : DE X E (.BoolOp .Or (a :: b :: rest) pos) (orE f g) := by
  obtain ⟨t, p, q⟩ := ha
  obtain ⟨u, pu, qu⟩ := hb
  refine ⟨_, pe_or p pu, fun σ H σd S ι Q hE hS h => ?_⟩
  refine q σ H σd S ι _ hE hS (Wp.bind h fun d S1 _ v H1 ι1 p1 r1 h1 => ?_)
  split at h1
  · exact ⟨_, bool_of r1, qu σ H1 σd S1 ι1 _ (hE.mono p1.pre p1.keep) p1.sto h1⟩
  · exact ⟨_, bool_of r1, h1 _ _ _ (.refl p1.sto) (.py (.bl true))⟩
  · exact h1.elim
theorem de_not (ha : DE X E a f) : DE X E (.UnaryOp .Not a pos) (notE f) := by
  obtain ⟨t, p, q⟩ := ha
  refine ⟨_, pe_not p, fun σ H σd S ι Q hE hS h => ?_⟩
  refine q σ H σd S ι _ hE hS (Wp.bind h fun d S1 _ v H1 ι1 p1 r1 h1 => ?_)
  split at h1
  · exact ⟨_, bool_of r1, h1 _ _ _ (.refl p1.sto) (.py (.bl _))⟩
  · exact h1.elim
theorem de_ife (hc : DT X E c ft) (ha : DE X E a f) (hb : DE X E b g) : DE X E (.IfExp c a b pos) (ifE ft f g) := by
  obtain ⟨t, p, q⟩ := hc
  obtain ⟨ta, pa, qa⟩ := ha
  obtain ⟨tb, pb, qb⟩ := hb
  refine ⟨_, pe_ifExp p pa pb, fun σ H σd S ι Q hE hS h => ?_⟩
  refine q σ H σd S ι _ hE hS (Wp.bind h fun d S1 _ v H1 ι1 p1 r1 h1 => ?_)
  cases r1
  cases d with
  | true => exact qa σ H1 σd S1 ι1 _ (hE.mono p1.pre p1.keep) p1.sto h1
  | false => exact qb σ H1 σd S1 ι1 _ (hE.mono p1.pre p1.keep) p1.sto h1
theorem chain_read {gg gg' : D → D → Sto → R D} {r r' : R2} {ta tb tc : TE} (q : ∀ σ H σd S ι Q, EnR X.K ι H σ σd → StR X.K ι H S → Wp X.K X.mg E ι H (relD X.K) (f σd S) Q → ta σ H Q)
    (qu : ∀ σ H σd S ι Q, EnR X.K ι H σ σd → StR X.K ι H S → Wp X.K X.mg E ι H (relD X.K) (g σd S) Q → tb σ H Q) (qw : ∀ σ H σd S ι Q, EnR X.K ι H σ σd → StR X.K ι H S → Wp X.K X.mg E ι H (relD X.K) (h σd S) Q → tc σ H Q)
    (qr : ∀ x y d e H S ι E Q, StR X.K ι H S → Rd X.K ι H x d → Rd X.K ι H y e → Wp X.K X.mg E ι H (relD X.K) (gg d e S) Q → r x y H Q)
    (qr' : ∀ x y d e H S ι E Q, StR X.K ι H S → Rd X.K ι H x d → Rd X.K ι H y e → Wp X.K X.mg E ι H (relD X.K) (gg' d e S) Q → r' x y H Q)
    {σ : L2.St} {H : Hp} {σd : En} {S : Sto} {ι : List Addr} {Q : VK} (hE : EnR X.K ι H σ σd) (hS : StR X.K ι H S) (h : Wp X.K X.mg E ι H (relD X.K) (chainE gg gg' f g h σd S) Q) : tChain r r' ta tb tc σ H Q := by
  refine q σ H σd S ι _ hE hS (Wp.bind h fun d S1 _ v H1 ι1 p1 r1 h1 => ?_)
  refine qu σ H1 σd S1 ι1 _ (hE.mono p1.pre p1.keep) p1.sto (Wp.bind h1 fun d2 S2 _ v2 H2 ι2 p2 r2 h2 => ?_)
  refine qr _ _ _ _ _ _ _ E _ p2.sto (r1.mono p2.pre p2.keep) r2 (Wp.bind h2 fun d3 S3 _ v3 H3 ι3 p3 r3 h3 => ?_)
  split at h3
  · refine ⟨_, bool_of r3, ?_⟩
    rw [if_pos rfl]
    refine qw σ H3 σd S3 ι3 _ (((hE.mono p1.pre p1.keep).mono p2.pre p2.keep).mono p3.pre p3.keep) p3.sto (Wp.bind h3 fun d4 S4 _ v4 H4 ι4 p4 r4 h4 => ?_)
    exact qr' _ _ _ _ _ _ _ E _ p4.sto ((r2.mono p3.pre p3.keep).mono p4.pre p4.keep) r4 h4
  · refine ⟨_, bool_of r3, ?_⟩
    rw [if_neg Bool.false_ne_true]
    exact h3 _ _ _ (.refl p3.sto) (.py (.bl false))
  · exact h3.elim
theorem de_chain {op op' : CmpOp} {gg gg' : D → D → Sto → R D} (ho : DOp X (compareOp op) gg) (ho' : DOp X (compareOp op') gg') (ha : DE X E a f) (hb : DE X E b g) (hc : DE X E c h) (hm : lastMarks [op, op'] [b, c] = false := by with_unfolding_all rfl) : DE X E (.Compare a [op, op'] [b, c] pos) (chainE gg gg' f g h) := by
  obtain ⟨t, p, q⟩ := ha
  obtain ⟨u, pu, qu⟩ := hb
  obtain ⟨w, pw, qw⟩ := hc
  obtain ⟨r, hr, qr⟩ := ho
  obtain ⟨r', hr', qr'⟩ := ho'
  exact ⟨_, pe_chain hr hr' p pu pw hm, fun σ H σd S ι Q hE hS h => chain_read q qu qw qr qr' hE hS h⟩
theorem dt_chain {op op' : CmpOp} {gg gg' : D → D → Sto → R D} (ho : DOp X (compareOp op) gg) (ho' : DOp X (compareOp op') gg') (ha : DE X E a f) (hb : DE X E b g) (hc : DE X E c h) (hm : lastMarks [op, op'] [b, c] = false := by with_unfolding_all rfl) : DT X E (.Compare a [op, op'] [b, c] pos) (valT (chainE gg gg' f g h)) := by
  obtain ⟨t, p, q⟩ := ha
  obtain ⟨u, pu, qu⟩ := hb
  obtain ⟨w, pw, qw⟩ := hc
  obtain ⟨r, hr, qr⟩ := ho
  obtain ⟨r', hr', qr'⟩ := ho'
  exact ⟨_, pt_chain hr hr' p pu pw hm, fun σ H σd S ι Q hE hS h => chain_read q qu qw qr qr' hE hS (Wp.val h)⟩

/-! ### calls of built-ins, methods, items -/
variable {p : Pos} {x : Str}
theorem de_callB {id : String} {gg : List D → Sto → R D} (hc : DC X (.builtin id) gg) (hm : X.mg x = none) (hv : bootBuiltins x = some (.builtin id)) (ha : DA X E (e :: es) fs) (hg : Gl X x := by rfl) (hn : x ≠ "__name__" := by decide) (hdb : (x == ("__debug__" : Str)) = false := by decide)
    (he : starEach (e :: es) X.env = (false, eval e X.env) :: starEach es X.env := by rfl) (hpl : (backTo pos (starEach es X.env)).any (·.1) = false := by rfl) : DE X E (.Call (.Name x p) (e :: es) [] pos) (callE gg fs) := by
  obtain ⟨l, t, pt, q⟩ := ha
  obtain ⟨r, hr, qr⟩ := hc
  refine ⟨_, pe_callB hr hg hm hv pt hn hdb he hpl, fun σ H σd S ι Q hE hS h => ?_⟩
  refine q σ H σd S ι _ hE hS (Wp.bind h fun ds S1 _ vs H1 ι1 p1 r1 h1 => ?_)
  exact qr _ _ _ _ _ E _ p1.sto r1 h1
theorem de_callTy {T : String} {gg : List D → Sto → R D} (hc : DC X (.type T) gg) (hm : X.mg x = none) (hv : bootBuiltins x = some (.type T)) (ha : DA X E (e :: es) fs) (hg : Gl X x := by rfl) (hn : x ≠ "__name__" := by decide) (hdb : (x == ("__debug__" : Str)) = false := by decide)
    (he : starEach (e :: es) X.env = (false, eval e X.env) :: starEach es X.env := by rfl) (hpl : (backTo pos (starEach es X.env)).any (·.1) = false := by rfl) : DE X E (.Call (.Name x p) (e :: es) [] pos) (callE gg fs) := by
  obtain ⟨l, t, pt, q⟩ := ha
  obtain ⟨r, hr, qr⟩ := hc
  refine ⟨_, pe_callTy hr hg hm hv pt hn hdb he hpl, fun σ H σd S ι Q hE hS h => ?_⟩
  refine q σ H σd S ι _ hE hS (Wp.bind h fun ds S1 _ vs H1 ι1 p1 r1 h1 => ?_)
  exact qr _ _ _ _ _ E _ p1.sto r1 h1

/-! ### methods, items -/
variable {o : Expr} {apos cpos : Pos} {name : Str} {id : String}
theorem de_methL {gg : D → List D → Sto → R D} (slot : Slot "list" name id) (hty : typeOf (.builtin id) = pure (.type "method_descriptor")) (hm : DM X "list" id gg) (ho : DE X E o f) (ha : DA X E (e :: es) fs)
    (hbase : attributeBase o name X.env (eval o X.env) = eval o X.env := by rfl)
    (hfew : ((backTo cpos (starEach (e :: es) X.env)).all (fun x => !x.1) && (backToKw cpos (keywordEach [] X.env)).all (fun x => x.1.isSome)
      && decide ((e :: es).length + ([] : List Keyword).length + (if ([] : List Keyword).isEmpty then 0 else 1) < 30)) = true := by rfl)
    (hline : (apos.endLine == cpos.line) = true := by rfl) (hs : starEach (e :: es) X.env = (false, eval e X.env) :: starEach es X.env := by rfl) (hplain : (backTo cpos (starEach es X.env)).any (·.1) = false := by rfl) :
    DE X E (.Call (.Attribute o name apos) (e :: es) [] cpos) (methL gg f fs) := by
  obtain ⟨t, p, q⟩ := ho
  obtain ⟨l, u, pu, qu⟩ := ha
  obtain ⟨r, hr, qr⟩ := hm
  refine ⟨_, pe_bm PySem.F.plainAttrs_list slot hty hr p pu hbase hfew hline hs hplain, fun σ H σd S ι Q hE hS h => ?_⟩
  refine q σ H σd S ι _ hE hS (Wp.bind h fun d S1 _ v H1 ι1 p1 r1 h1 => ?_)
  split at h1
  · rename_i hl
    refine ⟨tyL p1.sto r1 hl, ?_⟩
    refine qu σ H1 σd S1 ι1 _ (hE.mono p1.pre p1.keep) p1.sto (Wp.bind h1 fun d2 S2 _ v2 H2 ι2 p2 r2 h2 => ?_)
    exact qr _ _ _ _ _ _ _ E _ p2.sto (r1.mono p2.pre p2.keep) r2 h2
  · exact h1.elim
theorem de_methS {gg : D → List D → Sto → R D} (slot : Slot "str" name id) (hty : typeOf (.builtin id) = pure (.type "method_descriptor")) (hm : DM X "str" id gg) (ho : DE X E o f) (ha : DA X E (e :: es) fs)
    (hbase : attributeBase o name X.env (eval o X.env) = eval o X.env := by rfl)
    (hfew : ((backTo cpos (starEach (e :: es) X.env)).all (fun x => !x.1) && (backToKw cpos (keywordEach [] X.env)).all (fun x => x.1.isSome)
      && decide ((e :: es).length + ([] : List Keyword).length + (if ([] : List Keyword).isEmpty then 0 else 1) < 30)) = true := by rfl)
    (hline : (apos.endLine == cpos.line) = true := by rfl) (hs : starEach (e :: es) X.env = (false, eval e X.env) :: starEach es X.env := by rfl) (hplain : (backTo cpos (starEach es X.env)).any (·.1) = false := by rfl) :
    DE X E (.Call (.Attribute o name apos) (e :: es) [] cpos) (methS gg f fs) := by
  obtain ⟨t, p, q⟩ := ho
  obtain ⟨l, u, pu, qu⟩ := ha
  obtain ⟨r, hr, qr⟩ := hm
  refine ⟨_, pe_bm PySem.F.plainAttrs_str slot hty hr p pu hbase hfew hline hs hplain, fun σ H σd S ι Q hE hS h => ?_⟩
  refine q σ H σd S ι _ hE hS (Wp.bind h fun d S1 _ v H1 ι1 p1 r1 h1 => ?_)
  split at h1
  · rename_i z
    refine ⟨by cases r1 with | py r1 => cases r1; rfl, ?_⟩
    refine qu σ H1 σd S1 ι1 _ (hE.mono p1.pre p1.keep) p1.sto (Wp.bind h1 fun d2 S2 _ v2 H2 ι2 p2 r2 h2 => ?_)
    exact qr _ _ _ _ _ _ _ E _ p2.sto (r1.mono p2.pre p2.keep) r2 h2
  · exact h1.elim
/-- an item by its index -/
theorem de_item (ha : DE X E a f) (hb : DE X E b g) (hs : PlainIx b := by intro _ _; rfl) : DE X E (.Subscript a b pos) (opE itemD f g) := by
  obtain ⟨t, p, q⟩ := ha
  obtain ⟨u, pu, qu⟩ := hb
  refine ⟨_, pe_ix ix_seq p pu hs, fun σ H σd S ι Q hE hS h => op_read (o := binaryOp .Add) q qu (fun x y d e H S ι E Q hS rx ry h => ?_) hE hS h⟩
  exact item_read hS rx ry h
end
end DV

set_option maxHeartbeats 4000000
/-! Targets, statements, loops, comprehensions. -/
namespace DV
open PySem PySem.Spec PyProof.Rows L2
section
variable {X : Cx} {E : XK} {k : Nat} {e a b c : Expr} {f g h : Ex} {es : List Expr} {fs : Ax} {pos : Pos}

/-! ### targets -/
theorem EnR.set {K : PySem.W.Frag} {ι : List Addr} {H : Hp} {σ : L2.St} {σd : En} {v : V} {d : D} (h : EnR K ι H σ σd) (i : Nat) (r : Rd K ι H v d) : EnR K ι H (σ.set i (some v)) (σd.set i (some d)) := by
  refine ⟨by rw [List.length_set, List.length_set, h.len], fun j d' e => ?_⟩
  by_cases hj : j = i
  · subst hj
    have hlt : j < σd.length := by
      have := (List.getElem?_eq_some_iff.mp e).1
      simpa using this
    rw [List.getElem?_set_self hlt] at e
    cases e
    exact ⟨v, List.getElem?_set_self (by rw [h.len]; exact hlt), r⟩
  · rw [List.getElem?_set_ne (Ne.symm hj)] at e
    obtain ⟨v', e1, r'⟩ := h.at_ j d' e
    exact ⟨v', by rw [List.getElem?_set_ne (Ne.symm hj)]; exact e1, r'⟩
theorem wipe_get {i : Nat} {σ : L2.St} : ∀ {vs : List Nat}, i ∈ vs → i < σ.length → (wipe σ vs)[i]? = some none
  | v :: vs, hm, hl => by
    unfold wipe
    by_cases hi : v = i
    · subst hi
      rw [List.getElem?_set_self (by rw [wipe_length]; exact hl)]
    · rw [List.getElem?_set_ne hi]
      exact wipe_get ((List.mem_cons.mp hm).resolve_left (Ne.symm hi)) hl
theorem wipe_set_in {i : Nat} {x : Option V} {σ : L2.St} {vs : List Nat} (hm : i ∈ vs) : wipe (σ.set i x) vs = wipe σ vs := by
  apply List.ext_getElem?
  intro j
  by_cases hj : j ∈ vs
  · by_cases hl : j < σ.length
    · rw [wipe_get hj (by rw [List.length_set]; exact hl), wipe_get hj hl]
    · rw [List.getElem?_eq_none (by rw [wipe_length, List.length_set]; omega), List.getElem?_eq_none (by rw [wipe_length]; omega)]
  · rw [wipe_out hj, wipe_out hj, List.getElem?_set_ne (fun z => hj (by subst z; exact hm))]
theorem dg_name {vs : List Nat} (i : Nat) {x : Str} (hN : X.N.Nodup) (hi : X.N[i]? = some x := by rfl) (hx : Loc X.env.scope x := by first | exact Or.inl rfl | exact Or.inr rfl) (hf : X.fn x = true ∨ X.env.scope.names.lookup x = some .local := by first | exact .inl rfl | exact .inr rfl) (hm : i ∈ vs := by decide) : DG X E vs (.Name x pos) (nmG i) :=
  ⟨_, pg_name hN hi hx hf, fun v d σ H σd S ι Q hE hS r h => h _ _ _ (.refl hS) ⟨hE.set i r, wipe_set_in hm⟩⟩
theorem dgs_nil {vs : List Nat} : DGs X E vs [] nilG := ⟨_, pgs_nil, fun ws ds σ H σd S ι Q hE hS r h => by
  cases r with
  | nil => exact ⟨rfl, h _ _ _ (.refl hS) ⟨hE, rfl⟩⟩
  | cons _ _ => exact h.elim⟩
theorem dgs_cons {vs : List Nat} {tg : Expr} {tgs : List Expr} {gg : Tg} {gs : List D → En → Sto → R En} (h1 : DG X E vs tg gg) (h2 : DGs X E vs tgs gs) (hs : ∀ env, assignEach (tg :: tgs) env = (false, assign tg env) :: assignEach tgs env := by intro _; rfl) : DGs X E vs (tg :: tgs) (consG gg gs) := by
  obtain ⟨t, p, q⟩ := h1
  obtain ⟨u, pu, qu⟩ := h2
  refine ⟨_, pgs_cons p pu (by rw [hs]; rfl), fun ws ds σ H σd S ι Q hE hS r h => ?_⟩
  cases r with
  | nil => exact h.elim
  | cons r rs =>
    refine ⟨_, _, rfl, q _ _ σ H σd S ι _ hE hS r (Wp.bind h fun σ1 S1 _ v H1 ι1 p1 r1 h1 => ?_)⟩
    refine qu _ _ v H1 σ1 S1 ι1 _ r1.1 p1.sto (RdAll.mono p1.pre p1.keep rs) (Wp.sub h1 fun ι' H' v' σ2 z => ⟨z.1, z.2.trans r1.2⟩)
theorem dg_tup {vs : List Nat} {n kk : Nat} {tgs : List Expr} {gs : List D → En → Sto → R En} (hc : X.calm = true) (h : DGs X E vs tgs gs) (hn : (assignEach tgs X.env).length = n := by rfl) (hst : (assignEach tgs X.env).findIdx? (·.1) = none := by rfl) : DG X E vs (.Tuple tgs kk pos) (tupG n gs) := by
  obtain ⟨t, p, q⟩ := h
  refine ⟨_, pg_tup hc p hn hst, fun v d σ H σd S ι Q hE hS r h => ?_⟩
  unfold tupG at h
  split at h
  · split at h
    · rename_i ps hl
      cases r with
      | py r =>
        cases r with
        | tup hq hz hs => exact ⟨_, _, rfl, hq.sq, by rw [hs.length]; exact hl, q _ _ σ H σd S ι _ hE hS (.of_pys hs) h⟩
    · exact h.elim
  · exact h.elim
/-- o[i] = v of a list of the store -/
theorem dg_ix {vs : List Nat} {o i : Expr} (ho : DE X E o f) (hi : DE X E i g)
    (hz : ∀ v, assign (.Subscript o i pos) X.env v = (do let ov ← holding [v] (eval o X.env); let iv ← holding [v, ov] (eval i X.env); standAt pos; holding [v, ov, iv] (setItem ov iv v); release [v, ov, iv] []) := by intro _; rfl) : DG X E vs (.Subscript o i pos) (ixG f g) := by
  obtain ⟨t, p, q⟩ := ho
  obtain ⟨u, pu, qu⟩ := hi
  refine ⟨_, pg_sub p pu set_list hz, fun v d σ H σd S ι Q hE hS r h => ?_⟩
  refine q σ H σd S ι _ hE hS (Wp.bind h fun d1 S1 _ v1 H1 ι1 p1 r1 h1 => ?_)
  refine qu σ H1 σd S1 ι1 _ (hE.mono p1.pre p1.keep) p1.sto (Wp.bind h1 fun d2 S2 _ v2 H2 ι2 p2 r2 h2 => ?_)
  have r1' := r1.mono p2.pre p2.keep
  have r' := (r.mono p1.pre p1.keep).mono p2.pre p2.keep
  split at h2
  · split at h2
    · rename_i ds hds
      split at h2
      · rename_i j hj
        cases r1' with
        | obj e1 =>
          rename_i a
          cases p2.sto.at_ _ _ _ hds e1 with
          | lst ha rr =>
            rename_i ws
            refine ⟨a, ws, _, j, rfl, int_of r2, ha, by rw [rr.length]; exact hj, ?_⟩
            refine h2 _ _ _ (.wr e1 ha (p2.sto.set e1 ha (Paired.setB r' j rr))) ⟨?_, rfl⟩
            exact ((hE.mono p1.pre p1.keep).mono p2.pre p2.keep).mono (List.prefix_refl _) (.list ha)
      · exact h2.elim
    · exact h2.elim
  · exact h2.elim

/-! ### statements -/
theorem dss_nil : DSs X E [] passS := ⟨_, pss_nil, fun σ H σd S ι N hE hS h => h _ _ _ (.refl hS) hE⟩
theorem dss_cons {st : Stmt} {sts : List Stmt} {u w : Sx} (h1 : DS X E st u) (h2 : DSs X E sts w) : DSs X E (st :: sts) (seqS u w) := by
  obtain ⟨t, p, q⟩ := h1
  obtain ⟨t2, p2, q2⟩ := h2
  refine ⟨_, pss_cons p p2, fun σ H σd S ι N hE hS h => ?_⟩
  refine q σ H σd S ι _ hE hS ?_
  unfold seqS at h
  cases hu : u σd S with
  | nx σ1 S1 =>
    rw [hu] at h
    exact fun σ' H' ι' pp r => q2 σ' H' σ1 S1 ι' N r pp.sto (WpF.re pp h)
  | rt d S1 => rw [hu] at h; exact h
  | bk σ1 S1 => rw [hu] at h; exact h
  | ct σ1 S1 => rw [hu] at h; exact h
  | ex c S1 => rw [hu] at h; exact h
  | no => rw [hu] at h; exact h.elim
theorem dss_one {st : Stmt} {u : Sx} (h1 : DS X E st u) : DSs X E [st] u := by
  obtain ⟨t, p, q⟩ := h1
  exact ⟨_, pss_one p, q⟩
theorem ds_brk : DS X E (.Break pos) brkS := ⟨_, ps_break, fun σ H σd S ι N hE hS h => h _ _ _ (.refl hS) hE⟩
theorem ds_expr (ha : DE X E e f) (hs : swapsWith e none pos.line X.env = pure false := by rfl) : DS X E (.Expr e pos) (exprS f) := by
  obtain ⟨t, p, q⟩ := ha
  refine ⟨_, ps_expr p hs, fun σ H σd S ι N hE hS h => ?_⟩
  exact q σ H σd S ι _ hE hS (Wp.run h fun d S1 _ v H1 ι1 p1 r1 h1 => h1 _ _ _ (.refl p1.sto) (hE.mono p1.pre p1.keep))
theorem ds_ret (ha : DE X E e f) : DS X E (.Return (some e) pos) (retS f) := by
  obtain ⟨t, p, q⟩ := ha
  refine ⟨_, ps_ret p, fun σ H σd S ι N hE hS h => ?_⟩
  exact q σ H σd S ι _ hE hS (Wp.run h fun d S1 _ v H1 ι1 p1 r1 h1 => h1 _ _ _ (.refl p1.sto) r1)
theorem ds_if {ft : Tx} {u w : Sx} {as bs : List Stmt} (hc : DT X E c ft) (ha : DSs X E as u) (hb : DSs X E bs w) : DS X E (.If c as bs pos) (ifS ft u w) := by
  obtain ⟨t, p, q⟩ := hc
  obtain ⟨ta, pa, qa⟩ := ha
  obtain ⟨tb, pb, qb⟩ := hb
  refine ⟨_, ps_if p pa pb, fun σ H σd S ι N hE hS h => ?_⟩
  refine q σ H σd S ι _ hE hS (Wp.run h fun d S1 _ v H1 ι1 p1 r1 h1 => ?_)
  cases r1
  cases d with
  | true => exact qa σ H1 σd S1 ι1 _ (hE.mono p1.pre p1.keep) p1.sto h1
  | false => exact qb σ H1 σd S1 ι1 _ (hE.mono p1.pre p1.keep) p1.sto h1
/-- target = value, whatever the target -/
theorem ds_asg {vs : List Nat} {tg : Expr} {gg : Tg} (he : DE X E e f) (hg : DG X E vs tg gg) (hs : swapsWithSole [tg] e pos.line X.env = pure false := by rfl) (hw : swappedStores [tg] e X.env = pure none := by rfl)
    (h1 : (assignEach [tg] X.env).map (·.2) = [assign tg X.env] := by rfl) : DS X E (.Assign [tg] e pos) (asgS f gg) := by
  obtain ⟨t, p, q⟩ := he
  obtain ⟨u, pu, qu⟩ := hg
  refine ⟨_, ps_asg p pu hs hw h1, fun σ H σd S ι N hE hS h => ?_⟩
  refine q σ H σd S ι _ hE hS (Wp.run h fun d S1 _ v H1 ι1 p1 r1 h1 => ?_)
  exact qu v d σ H1 σd S1 ι1 _ (hE.mono p1.pre p1.keep) p1.sto r1 (Wp.run h1 fun σ2 S2 _ v2 H2 ι2 p2 r2 h2 => h2 _ _ _ (.refl p2.sto) r2.1)
/-- name = value -/
theorem ds_set (i : Nat) {x : Str} {pos' : Pos} (hN : X.N.Nodup) (he : DE X E e f) (hi : X.N[i]? = some x := by rfl) (hx : Loc X.env.scope x := by first | exact Or.inl rfl | exact Or.inr rfl) (hs : swapsWith e (some (.Name x pos')) pos.line X.env = pure false := by rfl)
    (hf : X.fn x = true ∨ X.env.scope.names.lookup x = some .local := by first | exact .inl rfl | exact .inr rfl) : DS X E (.Assign [.Name x pos'] e pos) (asgS f (nmG i)) := by
  obtain ⟨t, p, q⟩ := he
  refine ⟨_, ps_set hN hi hx p hs hf, fun σ H σd S ι N hE hS h => ?_⟩
  refine q σ H σd S ι _ hE hS (Wp.run h fun d S1 _ v H1 ι1 p1 r1 h1 => ?_)
  exact h1 _ _ _ (.refl p1.sto) ((hE.mono p1.pre p1.keep).set i r1)
theorem ds_par {i j : Nat} {x y : Str} {px py pt : Pos} {kt k2 pt2} (hc : X.calm = true) (hN : X.N.Nodup) (ha : DA X E [a, b] fs) (hi : X.N[i]? = some x := by rfl) (hj : X.N[j]? = some y := by rfl) (hij : i ≠ j := by decide)
    (hx : X.env.scope.names.lookup x = some .local := by rfl) (hy : X.env.scope.names.lookup y = some .local := by rfl)
    (hw : swappedStores [.Tuple [.Name x px, .Name y py] kt pt] (.Tuple [a, b] k2 pt2) X.env = pure (some [x, y]) := by rfl)
    (hs : swapsWithSole [.Tuple [.Name x px, .Name y py] kt pt] (.Tuple [a, b] k2 pt2) pos.line X.env = pure false := by rfl) :
    DS X E (.Assign [.Tuple [.Name x px, .Name y py] kt pt] (.Tuple [a, b] k2 pt2) pos) (parS [i, j] fs) := by
  obtain ⟨l, t, p, q⟩ := ha
  refine ⟨_, ps_par hc hN hi hj hij hx hy p hw hs, fun σ H σd S ι N hE hS h => ?_⟩
  refine q σ H σd S ι _ hE hS (Wp.run h fun d S1 e1 v H1 ι1 p1 r1 h1 => ?_)
  have hl := l _ _ _ _ e1
  cases r1 with
  | nil => cases hl
  | cons ra rs =>
    cases rs with
    | nil => cases hl
    | cons rb rt =>
      cases rt with
      | cons _ _ => cases hl
      | nil => exact ⟨_, _, rfl, h1 _ _ _ (.refl p1.sto) (((hE.mono p1.pre p1.keep).set i ra).set j rb)⟩
end
end DV

set_option maxHeartbeats 4000000
/-! Loops, comprehensions, what is walked. -/
namespace DV
open PySem PySem.Spec PyProof.Rows L2

/-- J walks the items xs, from the heap H0 on -/
structure WalkR (K : PySem.W.Frag) (H0 : Hp) (J : L2.It) (xs : List D) : Prop where
  len : xs.length ≤ sizeLine
  go : ∀ i H, Keep H0 H → i < xs.length → J.go i H
  stop : ∀ H, Keep H0 H → J.stop xs.length H
  yld : ∀ i H v H' x, Keep H0 H → xs[i]? = some x → J.yld i H v H' → KeepA H H' ∧ (∀ (b : Addr) (vs : MO), H b = some vs.ho → H' b = some vs.ho) ∧ (∀ b, H b ≠ none → H' b ≠ none) ∧ ∀ ι, Rd K ι H' v x
theorem WalkR.keep {K : PySem.W.Frag} {H0 H1 : Hp} {J : L2.It} {xs : List D} (w : WalkR K H0 J xs) (k : Keep H0 H1) : WalkR K H1 J xs :=
  ⟨w.len, fun i H q => w.go i H (k.trans q), fun H q => w.stop H (k.trans q), fun i H v H' x q => w.yld i H v H' x (k.trans q)⟩
def DI (X : Cx) (E : XK) (tg iter : Expr) (f : DV.It) : Prop := ∃ wi, PI X tg iter wi ∧ ∀ σ H σd S ι R, EnR X.K ι H σ σd → StR X.K ι H S → Wp X.K X.mg E ι H (fun _ H' J xs => WalkR X.K H' J xs) (f σd S) R → wi σ H R

section
variable {X : Cx} {E : XK} {k : Nat} {e a b c : Expr} {f g h : Ex} {es : List Expr} {fs : Ax} {pos : Pos}
theorem wipe_wipe (σ : L2.St) (vs : List Nat) : wipe (wipe σ vs) vs = wipe σ vs := by
  apply List.ext_getElem?
  intro j
  by_cases hj : j ∈ vs
  · by_cases hl : j < σ.length
    · rw [wipe_get hj (by rw [wipe_length]; exact hl), wipe_get hj hl]
    · rw [List.getElem?_eq_none (by rw [wipe_length, wipe_length]; omega), List.getElem?_eq_none (by rw [wipe_length]; omega)]
  · rw [wipe_out hj]
theorem drop_cons {α : Type} {xs : List α} {i : Nat} (hi : i < xs.length) : xs.drop i = xs[i] :: xs.drop (i + 1) := List.drop_eq_getElem_cons hi
/-- for target in iter: body -/
theorem ds_for {vs : List Nat} {tg iter : Expr} {body : List Stmt} {it : DV.It} {gg : Tg} {u : Sx} (o : Okx k X E) (hi : DI X E tg iter it) (hg : DG X E vs tg gg) (hb : DSs X E body u) (hs : ∀ x, foldedSetIterable iter X.env x = pure x := by intro _; rfl) :
    DS X E (.For tg iter body [] pos) (forS it gg u) := by
  obtain ⟨wi, p, q⟩ := hi
  obtain ⟨t, pt, qt⟩ := hg
  obtain ⟨tb, pb, qb⟩ := hb
  refine ⟨_, ps_for o.own o.calm p pt pb hs, fun σ H σd S ι N hE hS h => ?_⟩
  refine q σ H σd S ι _ hE hS (Wp.run h fun xs S1 _ J H1 ι1 p1 w h1 => ?_)
  refine ⟨fun i m σ' H' => m = xs.length - i ∧ i ≤ xs.length ∧ Keep H1 H' ∧ ∃ σd' S' ι', EnR X.K ι' H' σ' σd' ∧ StR X.K ι' H' S' ∧ WpF X.K X.mg E ι' H' (forL gg u (xs.drop i) σd' S') N,
    ⟨_, rfl, Nat.zero_le _, .refl _, σd, S1, ι1, hE.mono p1.pre p1.keep, p1.sto, by rw [List.drop_zero]; exact h1⟩, ?_⟩
  rintro i m σ' H' ⟨rfl, hle, kp, σd', S', ι', hE', hS', hw⟩
  by_cases hlt : i < xs.length
  · refine .inr ⟨w.go i H' kp hlt, fun σ2 H2 => i + 1 ≤ xs.length ∧ Keep H1 H2 ∧ ∃ σd' S' ι', EnR X.K ι' H2 σ2 σd' ∧ StR X.K ι' H2 S' ∧ WpF X.K X.mg E ι' H2 (forL gg u (xs.drop (i + 1)) σd' S') N,
      fun σ2 H2 ⟨z1, z2, z3⟩ => ⟨_, by omega, rfl, z1, z2, z3⟩, fun v H2 y => ?_⟩
    obtain ⟨k2, l2, n2, r2⟩ := w.yld i H' v H2 xs[i] kp (List.getElem?_eq_getElem hlt) y
    have pp : Post X.K ι' H' ι' H2 S' := ⟨List.prefix_refl _, k2, hS'.keep k2 l2 n2, fun b vs m q => ⟨l2 b (.lst vs) q, m⟩, n2⟩
    rw [drop_cons hlt] at hw
    have hw2 := WpF.re pp hw
    unfold forL at hw2
    refine qt v xs[i] σ' H2 σd' S' ι' _ (hE'.mono (List.prefix_refl _) k2) pp.sto (r2 ι') ?_
    cases hgx : gg xs[i] σd' S' with
    | no => rw [hgx] at hw2; exact hw2.elim
    | ex c S3 => rw [hgx] at hw2; exact hw2
    | ok σd3 S3 =>
      rw [hgx] at hw2
      intro σ3 H3 ι3 p3 r3
      refine qb σ3 H3 σd3 S3 ι3 _ r3.1 p3.sto ?_
      have hw3 := WpF.re p3 hw2
      simp only at hw3
      have nxt : ∀ σd4 S4, WpF X.K X.mg E ι3 H3 (forL gg u (xs.drop (i + 1)) σd4 S4) N → ∀ σ4 H4 ι4, Post X.K ι3 H3 ι4 H4 S4 → EnR X.K ι4 H4 σ4 σd4 →
          i + 1 ≤ xs.length ∧ Keep H1 H4 ∧ ∃ σd' S' ι', EnR X.K ι' H4 σ4 σd' ∧ StR X.K ι' H4 S' ∧ WpF X.K X.mg E ι' H4 (forL gg u (xs.drop (i + 1)) σd' S') N := fun σd4 S4 hz σ4 H4 ι4 p4 r4 =>
        ⟨hlt, ((kp.trans k2).trans p3.keep).trans p4.keep, σd4, S4, ι4, r4, p4.sto, WpF.re p4 hz⟩
      cases hu : u σd3 S3 with
      | nx σd4 S4 => rw [hu] at hw3; exact nxt _ _ hw3
      | ct σd4 S4 => rw [hu] at hw3; exact nxt _ _ hw3
      | bk σd4 S4 => rw [hu] at hw3; exact hw3
      | rt d S4 => rw [hu] at hw3; exact hw3
      | ex c S4 => rw [hu] at hw3; exact hw3
      | no => rw [hu] at hw3; exact hw3.elim
  · have hi : i = xs.length := by omega
    subst hi
    refine .inl ⟨w.stop H' kp, ?_⟩
    rw [List.drop_length] at hw
    exact hw _ _ _ (.refl hS') hE'
theorem ds_while {n : Nat} {body : List Stmt} {ft : Tx} {u : Sx} (o : Okx k X E) (hc : DT X E c ft) (hb : DSs X E body u) : DS X E (.While c body [] pos) (whileS n ft u) := by
  obtain ⟨t, p, q⟩ := hc
  obtain ⟨tb, pb, qb⟩ := hb
  refine ⟨_, ps_while o.own p pb, fun σ H σd S ι N hE hS h => ?_⟩
  refine ⟨fun m σ' H' => ∃ σd' S' ι', EnR X.K ι' H' σ' σd' ∧ StR X.K ι' H' S' ∧ WpF X.K X.mg E ι' H' (whileL ft u m σd' S') N, ⟨n, σd, S, ι, hE, hS, h⟩, ?_⟩
  rintro m σ' H' ⟨σd', S', ι', hE', hS', hw⟩
  cases m with
  | zero => exact hw.elim
  | succ m =>
    unfold whileL at hw
    refine q σ' H' σd' S' ι' _ hE' hS' (Wp.run hw fun d S1 _ v H1 ι1 p1 r1 h1 => ?_)
    cases r1
    cases d with
    | true =>
      rw [if_pos rfl] at h1 ⊢
      refine ⟨fun σ2 H2 => ∃ σd' S' ι', EnR X.K ι' H2 σ2 σd' ∧ StR X.K ι' H2 S' ∧ WpF X.K X.mg E ι' H2 (whileL ft u m σd' S') N, fun σ2 H2 z => ⟨m, by omega, z⟩, ?_⟩
      refine qb σ' H1 σd' S1 ι1 _ (hE'.mono p1.pre p1.keep) p1.sto ?_
      cases hu : u σd' S1 with
      | nx σd4 S4 => rw [hu] at h1; exact fun σ4 H4 ι4 p4 r4 => ⟨σd4, S4, ι4, r4, p4.sto, WpF.re p4 h1⟩
      | ct σd4 S4 => rw [hu] at h1; exact fun σ4 H4 ι4 p4 r4 => ⟨σd4, S4, ι4, r4, p4.sto, WpF.re p4 h1⟩
      | bk σd4 S4 => rw [hu] at h1; exact h1
      | rt d S4 => rw [hu] at h1; exact h1
      | ex c S4 => rw [hu] at h1; exact h1
      | no => rw [hu] at h1; exact h1.elim
    | false =>
      rw [if_neg Bool.false_ne_true] at h1 ⊢
      exact h1 _ _ _ (.refl p1.sto) (hE'.mono p1.pre p1.keep)

/-! ### comprehensions -/
/-- the tests of a comprehension -/
def DTs (X : Cx) (E : XK) (es : List Expr) (f : Tx) : Prop := ∃ t, PTs X es t ∧ ∀ σ H σd S ι Q, EnR X.K ι H σ σd → StR X.K ι H S → Wp X.K X.mg E ι H relB (f σd S) Q → t σ H Q
theorem dts_nil : DTs X E [] yesT := ⟨_, pts_nil, fun σ H σd S ι Q hE hS h => h _ _ _ (.refl hS) rfl⟩
theorem dts_one {ft : Tx} (h : DT X E c ft) : DTs X E [c] ft := by
  obtain ⟨t, p, q⟩ := h
  exact ⟨_, pts_one p, q⟩
theorem wipe_rel {K : PySem.W.Frag} {ι : List Addr} {H : Hp} {σ : L2.St} {σd : En} (h : EnR K ι H σ σd) : ∀ vs : List Nat, EnR K ι H (wipe σ vs) (wipeD σd vs)
  | [] => h
  | v :: vs => by
    have ih := wipe_rel h vs
    unfold wipe wipeD
    refine ⟨by rw [List.length_set, List.length_set, ih.len], fun j d e => ?_⟩
    by_cases hj : v = j
    · subst hj
      by_cases hl : v < (wipeD σd vs).length
      · rw [List.getElem?_set_self hl] at e; cases e
      · rw [List.getElem?_eq_none (by rw [List.length_set]; omega)] at e; cases e
    · rw [List.getElem?_set_ne hj] at e ⊢
      exact ih.at_ j d e
/-- one reading for every frame of a block -/
theorem uni_e {e : Expr} {f : Ex} {scope : Scope} (h : ∀ (s : Shared) (H : Hp) (C : Addr) (cl : List (Str × Addr)) (fp : List Addr), DE (X.blk s H scope (compEnvC scope cl C X.env) fp) E0 e f) :
    ∃ t, (∀ (s : Shared) (H : Hp) (C : Addr) (cl : List (Str × Addr)) (fp : List Addr), PE (X.blk s H scope (compEnvC scope cl C X.env) fp) e t) ∧
      ∀ σ H σd S ι Q, EnR X.K ι H σ σd → StR X.K ι H S → Wp X.K X.mg E0 ι H (relD X.K) (f σd S) Q → t σ H Q := by
  refine ⟨fun σ H Q => ∀ (s : Shared) (H1 : Hp) (C : Addr) (cl : List (Str × Addr)) (fp : List Addr), Classical.choose (h s H1 C cl fp) σ H Q, fun s H1 C cl fp => ?_, fun σ H σd S ι Q hE hS hw s H1 C cl fp => ?_⟩
  · exact ⟨fun pins s2 σ H Q I hq => (Classical.choose_spec (h s H1 C cl fp)).1.run pins s2 σ H Q I (hq s H1 C cl fp)⟩
  · exact (Classical.choose_spec (h s H1 C cl fp)).2 σ H σd S ι Q hE hS hw
theorem uni_t {es : List Expr} {f : Tx} {scope : Scope} (h : ∀ (s : Shared) (H : Hp) (C : Addr) (cl : List (Str × Addr)) (fp : List Addr), DTs (X.blk s H scope (compEnvC scope cl C X.env) fp) E0 es f) :
    ∃ t, (∀ (s : Shared) (H : Hp) (C : Addr) (cl : List (Str × Addr)) (fp : List Addr), PTs (X.blk s H scope (compEnvC scope cl C X.env) fp) es t) ∧
      ∀ σ H σd S ι Q, EnR X.K ι H σ σd → StR X.K ι H S → Wp X.K X.mg E0 ι H relB (f σd S) Q → t σ H Q := by
  refine ⟨fun σ H Q => ∀ (s : Shared) (H1 : Hp) (C : Addr) (cl : List (Str × Addr)) (fp : List Addr), Classical.choose (h s H1 C cl fp) σ H Q, fun s H1 C cl fp => ?_, fun σ H σd S ι Q hE hS hw s H1 C cl fp => ?_⟩
  · exact ⟨fun pins s2 σ H Q I hq => (Classical.choose_spec (h s H1 C cl fp)).1.run pins s2 σ H Q I (hq s H1 C cl fp)⟩
  · exact (Classical.choose_spec (h s H1 C cl fp)).2 σ H σd S ι Q hE hS hw
theorem uni_g {vs : List Nat} {tg : Expr} {g : Tg} {scope : Scope} (h : ∀ (s : Shared) (H : Hp) (C : Addr) (cl : List (Str × Addr)) (fp : List Addr), DG (X.blk s H scope (compEnvC scope cl C X.env) fp) E0 vs tg g) :
    ∃ t, (∀ (s : Shared) (H : Hp) (C : Addr) (cl : List (Str × Addr)) (fp : List Addr), PG (X.blk s H scope (compEnvC scope cl C X.env) fp) tg t) ∧
      ∀ v d σ H σd S ι Q, EnR X.K ι H σ σd → StR X.K ι H S → Rd X.K ι H v d → Wp X.K X.mg E0 ι H (fun ι' H' σ' σd' => EnR X.K ι' H' σ' σd' ∧ wipe σ' vs = wipe σ vs) (g d σd S) Q → t v σ H Q := by
  refine ⟨fun v σ H Q => ∀ (s : Shared) (H1 : Hp) (C : Addr) (cl : List (Str × Addr)) (fp : List Addr), Classical.choose (h s H1 C cl fp) v σ H Q, fun s H1 C cl fp => ?_, fun v d σ H σd S ι Q hE hS r hw s H1 C cl fp => ?_⟩
  · exact ⟨fun pins s2 σ H v u Q I rv hq => (Classical.choose_spec (h s H1 C cl fp)).1.run pins s2 σ H v u Q I rv (hq s H1 C cl fp)⟩
  · exact (Classical.choose_spec (h s H1 C cl fp)).2 v d σ H σd S ι Q hE hS r hw
/-- the reading of a comprehension -/
theorem lc_read {wi : TI} {g : TG} {tt : TT} {te : TE} {vs : List Nat} {it : DV.It} {gg : Tg} {ft : Tx} {fe : Ex}
    (q : ∀ σ H σd S ι R, EnR X.K ι H σ σd → StR X.K ι H S → Wp X.K X.mg E ι H (fun _ H' J xs => WalkR X.K H' J xs) (it σd S) R → wi σ H R)
    (qg : ∀ v d σ H σd S ι Q, EnR X.K ι H σ σd → StR X.K ι H S → Rd X.K ι H v d → Wp X.K X.mg E0 ι H (fun ι' H' σ' σd' => EnR X.K ι' H' σ' σd' ∧ wipe σ' vs = wipe σ vs) (gg d σd S) Q → g v σ H Q)
    (qt : ∀ σ H σd S ι Q, EnR X.K ι H σ σd → StR X.K ι H S → Wp X.K X.mg E0 ι H relB (ft σd S) Q → tt σ H Q)
    (qe : ∀ σ H σd S ι Q, EnR X.K ι H σ σd → StR X.K ι H S → Wp X.K X.mg E0 ι H (relD X.K) (fe σd S) Q → te σ H Q)
    {σ : L2.St} {H : Hp} {σd : En} {S : Sto} {ι : List Addr} {Q : VK} (hE : EnR X.K ι H σ σd) (hS : StR X.K ι H S) (h : Wp X.K X.mg E ι H (relL X.K H) (lcX it vs gg ft fe σd S) Q) : tLc wi g tt te vs σ H Q := by
  refine q σ H σd S ι _ hE hS (Wp.bind0 h fun xs S1 _ J H1 ι1 p1 w h1 => ?_)
  intro Dl hD
  have hD0 : H Dl = none := by
    cases q0 : H Dl with
    | none => rfl
    | some u => exact absurd hD (p1.dom Dl (by rw [q0]; simp))
  have p2 : Post X.K ι H ι1 (upd H1 Dl (.lst [])) S1 := p1.trans (.new p1.sto hD)
  refine ⟨fun i m H' => m = xs.length - i ∧ i ≤ xs.length ∧ Keep H1 H' ∧ ∃ ws ds S' ι', Post X.K ι H ι' H' S' ∧ H' Dl = some (.lst ws) ∧ Dl ∉ ι' ∧ ws.length ≤ i ∧ RdAll X.K ι' H' ws ds ∧
      Wp X.K X.mg E ι H (relL X.K H) ((lcL gg ft fe (wipeD σd vs) (xs.drop i) S').bind fun es S4 => .ok (ds ++ es) S4) Q,
    ⟨_, rfl, Nat.zero_le _, .new hD, [], [], S1, ι1, p2, upd_same, p1.sto.notin hD, Nat.le_refl _, .nil, ?_⟩, ?_⟩
  · rw [List.drop_zero]
    cases hl : lcL gg ft fe (wipeD σd vs) xs S1 <;> (rw [hl] at h1; exact h1)
  rintro i m H' ⟨rfl, hle, kp, ws, ds, S', ι', pp, hDl, hn, hlen, rr, hw⟩
  by_cases hlt : i < xs.length
  · refine .inr ⟨w.go i H' kp hlt, fun H2 => i + 1 ≤ xs.length ∧ Keep H1 H2 ∧ ∃ ws ds S' ι', Post X.K ι H ι' H2 S' ∧ H2 Dl = some (.lst ws) ∧ Dl ∉ ι' ∧ ws.length ≤ i + 1 ∧ RdAll X.K ι' H2 ws ds ∧
        Wp X.K X.mg E ι H (relL X.K H) ((lcL gg ft fe (wipeD σd vs) (xs.drop (i + 1)) S').bind fun es S4 => .ok (ds ++ es) S4) Q,
      fun H2 ⟨z1, z2, z3⟩ => ⟨_, by omega, rfl, z1, z2, z3⟩, fun v H2 y => ?_⟩
    obtain ⟨k2, l2, n2, r2⟩ := w.yld i H' v H2 xs[i] kp (List.getElem?_eq_getElem hlt) y
    have p3 : Post X.K ι' H' ι' H2 S' := ⟨List.prefix_refl _, k2, pp.sto.keep k2 l2 n2, fun b vs m q => ⟨l2 b (.lst vs) q, m⟩, n2⟩
    have pp2 := pp.trans p3
    rw [drop_cons hlt] at hw
    unfold lcL at hw
    refine qg v xs[i] _ H2 (wipeD σd vs) S' ι' _ (wipe_rel (hE.mono pp2.pre pp2.keep) vs) pp2.sto (r2 ι') ?_
    cases hgx : gg xs[i] (wipeD σd vs) S' with
    | no => rw [hgx] at hw; exact hw.elim
    | ex c S3 => rw [hgx] at hw; exact hw.elim
    | ok σd3 S3 =>
      rw [hgx] at hw
      intro σ3 H3 ι3 p4 r4
      refine ⟨r4.2.trans (wipe_wipe σ vs), ?_⟩
      have pp3 := pp2.trans p4
      refine qt σ3 H3 σd3 S3 ι3 _ r4.1 p4.sto ?_
      simp only at hw
      cases hft : ft σd3 S3 with
      | no => rw [hft] at hw; exact hw.elim
      | ex c S3 => rw [hft] at hw; exact hw.elim
      | ok kk S4 =>
        rw [hft] at hw
        intro bb H4 ι4 p5 r5
        cases r5
        have pp4 := pp3.trans p5
        have dl4 := (p3.trans p4).trans p5
        have hD4 := dl4.frame Dl ws hn hDl
        simp only at hw
        cases kk with
        | false =>
          rw [if_neg Bool.false_ne_true] at hw ⊢
          exact ⟨hlt, (kp.trans dl4.keep), ws, ds, S4, ι4, pp4, hD4.1, hD4.2, by omega, rr.mono dl4.pre dl4.keep, hw⟩
        | true =>
          rw [if_pos rfl] at hw ⊢
          refine qe σ3 H4 σd3 S4 ι4 _ (r4.1.mono p5.pre p5.keep) p5.sto ?_
          cases hfe : fe σd3 S4 with
          | no => rw [hfe] at hw; exact hw.elim
          | ex c S3 => rw [hfe] at hw; exact hw.elim
          | ok d S5 =>
            rw [hfe] at hw
            intro y H5 ι5 p6 r6
            have pp5 := pp4.trans p6
            have dl5 := dl4.trans p6
            have hD5 := dl5.frame Dl ws hn hDl
            have hz := w.len
            refine ⟨ws, hD5.1, by omega, hlt, (kp.trans dl5.keep).trans (.list hD5.1), ws ++ [y], ds ++ [d], S5, ι5, pp5.fixNew hD5.1 hD5.2 hD0, upd_same, hD5.2, by rw [List.length_append]; show ws.length + 1 ≤ _; omega, ?_, ?_⟩
            · exact Paired.app (RdAll.mono (List.prefix_refl _) (.list hD5.1) (rr.mono dl5.pre dl5.keep)) (.cons (r6.mono (List.prefix_refl _) (.list hD5.1)) .nil)
            · simp only at hw
              cases hl : lcL gg ft fe (wipeD σd vs) (xs.drop (i + 1)) S5 with
              | no => rw [hl] at hw; exact hw
              | ex c S6 => rw [hl] at hw; exact hw
              | ok es S6 =>
                rw [hl] at hw
                simp only [bind_ok] at hw ⊢
                rw [List.append_assoc]
                exact hw
  · have hi : i = xs.length := by omega
    subst hi
    refine .inl ⟨w.stop H' kp, ?_⟩
    rw [List.drop_length] at hw
    simp only [lcL, bind_ok, List.append_nil] at hw
    exact hw _ _ _ pp ⟨Dl, ws, hD0, rfl, hDl, hn, Nat.le_trans hlen w.len, rr⟩
end
end DV

set_option maxHeartbeats 4000000
/-! Comprehensions as expressions, lists fixed, what is walked. -/
namespace DV
open PySem PySem.Spec PyProof.Rows L2
section
variable {X : Cx} {E : XK} {k : Nat} {e a b c : Expr} {f g h : Ex} {es : List Expr} {fs : Ax} {pos : Pos}
theorem dl_lc {elt tg iter : Expr} {ifs : List Expr} {scope : Scope} (own : List (Str × Nat)) {it : DV.It} {gg : Tg} {ft : Tx} {fe : Ex} (o : Okx k X E) (hi : DI X E tg iter it)
    (hg : ∀ (s : Shared) (H : Hp) (C : Addr) (cl : List (Str × Addr)) (fp : List Addr), Okx k (X.blk s H scope (compEnvC scope cl C X.env) fp) E0 → DG (X.blk s H scope (compEnvC scope cl C X.env) fp) E0 (own.map (·.2)) tg gg)
    (ht : ∀ (s : Shared) (H : Hp) (C : Addr) (cl : List (Str × Addr)) (fp : List Addr), Okx k (X.blk s H scope (compEnvC scope cl C X.env) fp) E0 → DTs (X.blk s H scope (compEnvC scope cl C X.env) fp) E0 ifs ft)
    (he : ∀ (s : Shared) (H : Hp) (C : Addr) (cl : List (Str × Addr)) (fp : List Addr), Okx k (X.blk s H scope (compEnvC scope cl C X.env) fp) E0 → DE (X.blk s H scope (compEnvC scope cl C X.env) fp) E0 elt fe)
    (ok : BlkOk X.N X.env.scope scope own := by exact blkOk_by (by rfl)) (hs : ∀ x, foldedSetIterable iter X.env x = pure x := by intro _; rfl) :
    DL X E (.ListComp elt [⟨tg, iter, ifs, 0⟩] scope pos) (lcX it (own.map (·.2)) gg ft fe) := by
  obtain ⟨wi, p, q⟩ := hi
  obtain ⟨tg', pg, qg⟩ := uni_g fun s H C cl fp => hg s H C cl fp (o.blk s H scope _ fp)
  obtain ⟨tt, pt, qt⟩ := uni_t fun s H C cl fp => ht s H C cl fp (o.blk s H scope _ fp)
  obtain ⟨te, pe, qe⟩ := uni_e fun s H C cl fp => he s H C cl fp (o.blk s H scope _ fp)
  exact ⟨_, pe_lc o.calm o.nd p ok pg pt pe hs, fun σ H σd S ι Q hE hS h => lc_read q qg qt qe hE hS h⟩
/-- name = [..] on one line, fixed or not -/
def tFzS (t : TS) : TS := fun N σ H => t { N with nx := fun σ' H' => ∃ a xs, H' a = some (.lst xs) ∧ ∀ o, N.nx σ' (upd H' a (.frz o (.lst xs))) } σ H
theorem ps_frz {st : Stmt} {t : TS} (p : PS X st t) : PS X st (tFzS t) := by
  refine ⟨fun pins s σ H N I h => thn (p.run pins s σ H _ I h) fun fl s1 q => ?_⟩
  cases fl with
  | next =>
    obtain ⟨σ', H', I1, a, xs, ha, q⟩ := q
    obtain ⟨o, I2⟩ := I1.lock ha trivial
    exact ⟨σ', _, I2, q o⟩
  | brk => exact q
  | cont => exact q
  | ret v => exact q
theorem ds_setLcF (i : Nat) {y : Str} {py spos : Pos} {elt tg iter : Expr} {ifs : List Expr} {scope : Scope} (own : List (Str × Nat)) {it : DV.It} {gg : Tg} {ft : Tx} {fe : Ex} (o : Okx k X E) (hi : DI X E tg iter it)
    (hg : ∀ (s : Shared) (H : Hp) (C : Addr) (cl : List (Str × Addr)) (fp : List Addr), Okx k (X.blk s H scope (compEnvC scope cl C X.env) fp) E0 → DG (X.blk s H scope (compEnvC scope cl C X.env) fp) E0 (own.map (·.2)) tg gg)
    (ht : ∀ (s : Shared) (H : Hp) (C : Addr) (cl : List (Str × Addr)) (fp : List Addr), Okx k (X.blk s H scope (compEnvC scope cl C X.env) fp) E0 → DTs (X.blk s H scope (compEnvC scope cl C X.env) fp) E0 ifs ft)
    (he : ∀ (s : Shared) (H : Hp) (C : Addr) (cl : List (Str × Addr)) (fp : List Addr), Okx k (X.blk s H scope (compEnvC scope cl C X.env) fp) E0 → DE (X.blk s H scope (compEnvC scope cl C X.env) fp) E0 elt fe)
    (hy : X.N[i]? = some y := by rfl) (hyl : X.env.scope.names.lookup y = some .local := by rfl)
    (hsw : swapsWith (.ListComp elt [⟨tg, iter, ifs, 0⟩] scope pos) (some (.Name y py)) spos.line X.env = pure true := by exact sw_true rfl rfl rfl (by decide +kernel))
    (ok : BlkOk X.N X.env.scope scope own := by exact blkOk_by (by rfl)) (hs : ∀ x, foldedSetIterable iter X.env x = pure x := by intro _; rfl) :
    DS X E (.Assign [.Name y py] (.ListComp elt [⟨tg, iter, ifs, 0⟩] scope pos) spos) (asgS (lcF it (own.map (·.2)) gg ft fe) (nmG i)) := by
  obtain ⟨wi, p, q⟩ := hi
  obtain ⟨tg', pg, qg⟩ := uni_g fun s H C cl fp => hg s H C cl fp (o.blk s H scope _ fp)
  obtain ⟨tt, pt, qt⟩ := uni_t fun s H C cl fp => ht s H C cl fp (o.blk s H scope _ fp)
  obtain ⟨te, pe, qe⟩ := uni_e fun s H C cl fp => he s H C cl fp (o.blk s H scope _ fp)
  refine ⟨_, ps_frz (ps_setLc o.calm o.nd hy hyl hsw p ok pg pt pe hs), fun σ H σd S ι N hE hS h => ?_⟩
  refine (lc_read q qg qt qe hE hS ?_ : tLc wi tg' tt te (own.map (·.2)) σ H (fun x H1 => ∃ a xs, H1 a = some (.lst xs) ∧ ∀ o, N.nx (σ.set i (some x)) (upd H1 a (.frz o (.lst xs)))))
  unfold asgS lcF frzE at h
  cases hl : lcX it (own.map (·.2)) gg ft fe σd S with
  | no => rw [hl] at h; exact h.elim
  | ex c S1 => rw [hl] at h; exact h
  | ok ds S1 =>
    rw [hl] at h
    intro v H1 ι1 p1 r1
    cases hp : pysOf ds with
    | none => simp only [frz, bind_ok, hp, run_no] at h; exact h.elim
    | some ps =>
      simp only [frz, bind_ok, hp, run_ok, nmG] at h
      obtain ⟨a, xs, rfl, ha, z⟩ := frz_post p1 r1 hp
      refine ⟨a, xs, ha, fun o => h _ _ _ (z o).1 ?_⟩
      exact (hE.mono p1.pre (z o).1.keep).set i (.py (z o).2)
theorem ds_setLcM (i : Nat) {y : Str} {py spos : Pos} {elt tg iter : Expr} {ifs : List Expr} {scope : Scope} (own : List (Str × Nat)) {it : DV.It} {gg : Tg} {ft : Tx} {fe : Ex} (o : Okx k X E) (hi : DI X E tg iter it)
    (hg : ∀ (s : Shared) (H : Hp) (C : Addr) (cl : List (Str × Addr)) (fp : List Addr), Okx k (X.blk s H scope (compEnvC scope cl C X.env) fp) E0 → DG (X.blk s H scope (compEnvC scope cl C X.env) fp) E0 (own.map (·.2)) tg gg)
    (ht : ∀ (s : Shared) (H : Hp) (C : Addr) (cl : List (Str × Addr)) (fp : List Addr), Okx k (X.blk s H scope (compEnvC scope cl C X.env) fp) E0 → DTs (X.blk s H scope (compEnvC scope cl C X.env) fp) E0 ifs ft)
    (he : ∀ (s : Shared) (H : Hp) (C : Addr) (cl : List (Str × Addr)) (fp : List Addr), Okx k (X.blk s H scope (compEnvC scope cl C X.env) fp) E0 → DE (X.blk s H scope (compEnvC scope cl C X.env) fp) E0 elt fe)
    (hy : X.N[i]? = some y := by rfl) (hyl : X.env.scope.names.lookup y = some .local := by rfl)
    (hsw : swapsWith (.ListComp elt [⟨tg, iter, ifs, 0⟩] scope pos) (some (.Name y py)) spos.line X.env = pure true := by exact sw_true rfl rfl rfl (by decide +kernel))
    (ok : BlkOk X.N X.env.scope scope own := by exact blkOk_by (by rfl)) (hs : ∀ x, foldedSetIterable iter X.env x = pure x := by intro _; rfl) :
    DS X E (.Assign [.Name y py] (.ListComp elt [⟨tg, iter, ifs, 0⟩] scope pos) spos) (asgS (lcM it (own.map (·.2)) gg ft fe) (nmG i)) := by
  obtain ⟨wi, p, q⟩ := hi
  obtain ⟨tg', pg, qg⟩ := uni_g fun s H C cl fp => hg s H C cl fp (o.blk s H scope _ fp)
  obtain ⟨tt, pt, qt⟩ := uni_t fun s H C cl fp => ht s H C cl fp (o.blk s H scope _ fp)
  obtain ⟨te, pe, qe⟩ := uni_e fun s H C cl fp => he s H C cl fp (o.blk s H scope _ fp)
  refine ⟨_, ps_setLc o.calm o.nd hy hyl hsw p ok pg pt pe hs, fun σ H σd S ι N hE hS h => ?_⟩
  refine (lc_read q qg qt qe hE hS ?_ : tLc wi tg' tt te (own.map (·.2)) σ H (fun x H1 => N.nx (σ.set i (some x)) H1))
  unfold asgS lcM thwE at h
  cases hl : lcX it (own.map (·.2)) gg ft fe σd S with
  | no => rw [hl] at h; exact h.elim
  | ex c S1 => rw [hl] at h; exact h
  | ok ds S1 =>
    rw [hl] at h
    intro v H1 ι1 p1 r1
    simp only [thw, bind_ok, run_ok, nmG] at h
    obtain ⟨ι2, p2, r2⟩ := thw_post p1 r1
    exact h _ _ _ p2 ((hE.mono p2.pre p2.keep).set i r2)

theorem EnR.setD {K : PySem.W.Frag} {ι : List Addr} {H : Hp} {σ : L2.St} {σd : En} {v : V} {d : D} {i : Nat} (h : EnR K ι H σ σd) (e : σ[i]? = some (some v)) (r : Rd K ι H v d) : EnR K ι H σ (σd.set i (some d)) := by
  refine ⟨by rw [List.length_set, h.len], fun j d' e' => ?_⟩
  by_cases hj : i = j
  · subst hj
    have hlt : i < σd.length := by
      have := (List.getElem?_eq_some_iff.mp e').1
      simpa using this
    rw [List.getElem?_set_self hlt] at e'
    cases e'
    exact ⟨v, e, r⟩
  · rw [List.getElem?_set_ne hj] at e'
    exact h.at_ j d' e'

/-! ### a list of a slot is fixed -/
def tFix (t : TS) : TS := fun N σ H => ∃ a xs, H a = some (.lst xs) ∧ (xs.length ≤ sizeLine → ∀ o, t N σ (upd H a (.frz o (.lst xs))))
theorem pss_fix {sts : List Stmt} {t : TS} (p : PSs X sts t) : PSs X sts (tFix t) := by
  refine ⟨fun pins s σ H N I ⟨a, xs, ha, h⟩ => ?_⟩
  obtain ⟨o, I2⟩ := I.lock ha trivial
  exact p.run pins s σ _ N I2 (h (I.hok a _ ha).1 o)
theorem fix_post {ι : List Addr} {H : Hp} {S : Sto} {n : Nat} {a : Addr} {vs : List V} {o : HO} (hS : StR X.K ι H S) (e : ι[n]? = some a) (ha : H a = some (.lst vs)) : Post X.K ι H ι (upd H a o) (S.set n .gone) :=
  .wr e ha (hS.fix e ha)
theorem dss_fix {sts : List Stmt} {w : Sx} (i : Nat) (h : DSs X E sts w) : DSs X E sts (seqS (fixS i) w) := by
  obtain ⟨t, p, q⟩ := h
  refine ⟨_, pss_fix p, fun σ H σd S ι N hE hS h => ?_⟩
  unfold seqS fixS at h
  cases hi : σd[i]? with
  | none => rw [hi] at h; exact h.elim
  | some od =>
    cases od with
    | none => rw [hi] at h; exact h.elim
    | some d =>
      cases d with
      | py d => rw [hi] at h; exact h.elim
      | raw d => rw [hi] at h; exact h.elim
      | obj n =>
        rw [hi] at h
        simp only at h
        cases hn : S[n]? with
        | none => rw [hn] at h; exact h.elim
        | some u =>
          cases u with
          | gone => rw [hn] at h; exact h.elim
          | tab _ _ => rw [hn] at h; exact h.elim
          | dt _ => rw [hn] at h; exact h.elim
          | dk _ => rw [hn] at h; exact h.elim
          | ins _ _ => rw [hn] at h; exact h.elim
          | tpl _ => rw [hn] at h; exact h.elim
          | lst ds =>
            rw [hn] at h
            simp only at h
            cases hp : pysOf ds with
            | none => rw [hp] at h; exact h.elim
            | some ps =>
              rw [hp] at h
              simp only at h
              obtain ⟨v, e1, r⟩ := hE.at_ i _ hi
              cases r with
              | obj en =>
                rename_i a
                cases hS.at_ _ _ _ hn en with
                | lst ha rr =>
                  rename_i vs
                  refine ⟨a, vs, ha, fun hz o => ?_⟩
                  have pp := fix_post (X := X) (o := .frz o (.lst vs)) hS en ha
                  refine q σ _ _ _ ι N ((hE.mono pp.pre pp.keep).setD e1 (.py (.lst (.inl ⟨o, upd_same⟩) ?_ ?_))) pp.sto (WpF.re pp h)
                  · rw [pysOf_length hp, ← rr.length]
                    exact hz
                  · exact (RdAll.pys rr hp).keep pp.keep
/-- .. with the lists within -/
def tFixN : Nat → TS → TS
  | 0, t => t
  | n + 1, t => tFix (tFixN n t)
theorem pss_fixN {sts : List Stmt} {t : TS} (p : PSs X sts t) : ∀ n, PSs X sts (tFixN n t)
  | 0 => p
  | n + 1 => pss_fix (pss_fixN p n)
/-- a number of lists is fixed, as many as wanted -/
def tFixA (t : TS) : TS := fun N σ H => ∃ n, tFixN n t N σ H
theorem pss_fixA {sts : List Stmt} {t : TS} (p : PSs X sts t) : PSs X sts (tFixA t) := ⟨fun pins s σ H N I ⟨n, h⟩ => (pss_fixN p n).run pins s σ H N I h⟩
def cntO : List D → Nat
  | [] => 0
  | .py _ :: ds => cntO ds
  | .obj _ :: ds => cntO ds + 1
  | .raw _ :: ds => cntO ds
theorem fixL_read {t : TS} {N : Ends} {σ : L2.St} : ∀ {ds : List D} {vs : List V} {ps : List PyData} {S S1 : Sto} {ι : List Addr} {H : Hp}, fixL S ds = some (ps, S1) → StR X.K ι H S → RdAll X.K ι H vs ds →
    (∀ H', Post X.K ι H ι H' S1 → PpAll X.K H' vs ps → t N σ H') → tFixN (cntO ds) t N σ H
  | [], vs, ps, S, S1, ι, H, hf, hS, rr, q => by
    cases rr
    cases hf
    exact q H (.refl hS) .nil
  | .py p :: ds, vs, ps, S, S1, ι, H, hf, hS, rr, q => by
    cases rr with
    | cons r rs =>
      simp only [fixL, Option.map_eq_some_iff] at hf
      obtain ⟨⟨ps', S'⟩, h1, h2⟩ := hf
      cases h2
      show tFixN (cntO ds) t N σ H
      refine fixL_read h1 hS rs fun H' pp al => q H' pp (.cons ?_ al)
      cases r with
      | py r => exact r.keep pp.keep
  | .raw n :: ds, vs, ps, S, S1, ι, H, hf, hS, rr, q => by cases hf
  | .obj n :: ds, vs, ps, S, S1, ι, H, hf, hS, rr, q => by
    cases rr with
    | cons r rs =>
      simp only [fixL] at hf
      split at hf
      · rename_i es he
        split at hf
        · rename_i qs hq
          rw [Option.map_eq_some_iff] at hf
          obtain ⟨⟨ps', S'⟩, h1, h2⟩ := hf
          cases h2
          cases r with
          | obj en =>
            rename_i a
            cases hS.at_ _ _ _ he en with
            | lst ha r2 =>
              rename_i ws
              refine ⟨a, ws, ha, fun hz o => ?_⟩
              have pp := fix_post (X := X) (o := .frz o (.lst ws)) hS en ha
              refine fixL_read h1 pp.sto (RdAll.mono pp.pre pp.keep rs) fun H' pp2 al => q H' (pp.trans pp2) (.cons ?_ al)
              refine Pp.keep pp2.keep (.lst (.inl ⟨o, upd_same⟩) ?_ ?_)
              · rw [pysOf_length hq, ← r2.length]
                exact hz
              · exact (RdAll.pys r2 hq).keep pp.keep
        · cases hf
      · cases hf
theorem fixL_len : ∀ {ds : List D} {ps : List PyData} {S S1 : Sto}, fixL S ds = some (ps, S1) → ps.length = ds.length
  | [], _, _, _, h => by cases h; rfl
  | .py p :: ds, _, _, _, h => by
    simp only [fixL, Option.map_eq_some_iff] at h
    obtain ⟨⟨ps', S'⟩, h1, h2⟩ := h
    cases h2
    simp only [List.length_cons, fixL_len h1]
  | .obj n :: ds, _, S, _, h => by
    simp only [fixL] at h
    split at h
    · split at h
      · rw [Option.map_eq_some_iff] at h
        obtain ⟨⟨ps', S'⟩, h1, h2⟩ := h
        cases h2
        simp only [List.length_cons, fixL_len h1]
      · cases h
    · cases h
theorem dss_fix2 {sts : List Stmt} {w : Sx} (i : Nat) (h : DSs X E sts w) : DSs X E sts (seqS (fix2S i) w) := by
  obtain ⟨t, p, q⟩ := h
  refine ⟨_, pss_fixA p, fun σ H σd S ι N hE hS h => ?_⟩
  unfold seqS fix2S at h
  cases hi : σd[i]? with
  | none => rw [hi] at h; exact h.elim
  | some od =>
    cases od with
    | none => rw [hi] at h; exact h.elim
    | some d =>
      cases d with
      | py d => rw [hi] at h; exact h.elim
      | raw d => rw [hi] at h; exact h.elim
      | obj n =>
        rw [hi] at h
        simp only at h
        cases hn : S[n]? with
        | none => rw [hn] at h; exact h.elim
        | some u =>
          cases u with
          | gone => rw [hn] at h; exact h.elim
          | tab _ _ => rw [hn] at h; exact h.elim
          | dt _ => rw [hn] at h; exact h.elim
          | dk _ => rw [hn] at h; exact h.elim
          | ins _ _ => rw [hn] at h; exact h.elim
          | tpl _ => rw [hn] at h; exact h.elim
          | lst ds =>
            rw [hn] at h
            simp only at h
            cases hp : fixL (S.set n .gone) ds with
            | none => rw [hp] at h; exact h.elim
            | some r =>
              obtain ⟨ps, S1⟩ := r
              rw [hp] at h
              simp only at h
              obtain ⟨v, e1, r⟩ := hE.at_ i _ hi
              cases r with
              | obj en =>
                rename_i a
                cases hS.at_ _ _ _ hn en with
                | lst ha rr =>
                  rename_i vs
                  refine ⟨cntO ds + 1, a, vs, ha, fun hz o => ?_⟩
                  have pp := fix_post (X := X) (o := .frz o (.lst vs)) hS en ha
                  refine fixL_read hp pp.sto (RdAll.mono pp.pre pp.keep rr) fun H' pp2 al => ?_
                  refine q σ H' _ S1 ι N (((hE.mono pp.pre pp.keep).mono pp2.pre pp2.keep).setD e1 (.py (.lst (.inl ⟨o, pp2.keep.frzs _ _ _ upd_same⟩) ?_ al))) pp2.sto (WpF.re (pp.trans pp2) h)
                  rw [fixL_len hp, ← rr.length]
                  exact hz

/-! ### what is walked -/
theorem pi_or {tg iter : Expr} {w1 w2 : TI} (h1 : PI X tg iter w1) (h2 : PI X tg iter w2) : PI X tg iter (fun σ H R => w1 σ H R ∨ w2 σ H R) :=
  ⟨fun pins s σ H R I h => h.elim (fun h => h1.run pins s σ H R I h) fun h => h2.run pins s σ H R I h⟩
theorem get_pys {ds : List PyData} {i : Nat} {x : D} (h : (ds.map D.py)[i]? = some x) : ∃ d, ds[i]? = some d ∧ x = .py d := by
  rw [List.getElem?_map, Option.map_eq_some_iff] at h
  obtain ⟨d, h1, h2⟩ := h
  exact ⟨d, h1, h2.symm⟩
theorem PpAll.getR {K : PySem.W.Frag} {H : Hp} : ∀ {vs : List V} {ds : List PyData} {i : Nat} {d : PyData}, PpAll K H vs ds → ds[i]? = some d → ∃ v, vs[i]? = some v ∧ Pp K H v d
  | _, _, _, _, .nil, e => by simp at e
  | _, _, 0, _, .cons r _, e => by simp at e; subst e; exact ⟨_, rfl, r⟩
  | _, _, i + 1, y, .cons r t, e => by
    obtain ⟨x, h1, h2⟩ := PpAll.getR (i := i) t (by simpa using e)
    exact ⟨x, by simpa using h1, h2⟩
theorem walk_list {K : PySem.W.Frag} {H0 : Hp} {a : Addr} {xs : List V} {ds : List PyData} (hf : FL K H0 a xs) (hz : ds.length ≤ sizeLine) (al : PpAll K H0 xs ds) : WalkR K H0 (Itl K a) (ds.map D.py) := by
  have hl := al.length
  refine ⟨by rw [List.length_map]; exact hz, fun i H kp hi => ?_, fun H kp => ?_, fun i H v H' x kp hx y => ?_⟩
  · rw [List.length_map, ← hl] at hi
    exact ⟨xs, xs[i], (hf.keep kp).sq, List.getElem?_eq_getElem hi⟩
  · exact ⟨xs, (hf.keep kp).sq, by rw [List.length_map, hl]; exact Nat.le_refl _⟩
  · obtain ⟨e, y⟩ := y
    subst e
    obtain ⟨d, hd, rfl⟩ := get_pys hx
    obtain ⟨w, hw, pw⟩ := al.getR hd
    have := y xs (hf.keep kp).sq
    rw [hw] at this
    cases this
    exact ⟨.refl _, fun _ _ h => h, fun _ h => h, fun ι => .py (pw.keep kp)⟩
theorem walk_tup {K : PySem.W.Frag} {H0 : Hp} {a : Addr} {xs : List V} {ds : List PyData} (hf : SqT K H0 a xs) (hz : ds.length ≤ sizeLine) (al : PpAll K H0 xs ds) : WalkR K H0 (Itt K a) (ds.map D.py) := by
  have hl := al.length
  refine ⟨by rw [List.length_map]; exact hz, fun i H kp hi => ?_, fun H kp => ?_, fun i H v H' x kp hx y => ?_⟩
  · rw [List.length_map, ← hl] at hi
    exact ⟨xs, xs[i], sqT_keep kp hf, List.getElem?_eq_getElem hi⟩
  · exact ⟨xs, sqT_keep kp hf, by rw [List.length_map, hl]; exact Nat.le_refl _⟩
  · obtain ⟨e, y⟩ := y
    subst e
    obtain ⟨d, hd, rfl⟩ := get_pys hx
    obtain ⟨w, hw, pw⟩ := al.getR hd
    have := y xs (sqT_keep kp hf)
    rw [hw] at this
    cases this
    exact ⟨.refl _, fun _ _ h => h, fun _ h => h, fun ι => .py (pw.keep kp)⟩
theorem di_seq {tg : Expr} (ha : DE X E e f) : DI X E tg e (seqI f) := by
  obtain ⟨t, p, q⟩ := ha
  refine ⟨_, pi_or (pi_list p) (pi_tup p), fun σ H σd S ι R hE hS h => ?_⟩
  cases hf : f σd S with
  | no => unfold seqI at h; rw [hf] at h; exact h.elim
  | ex c S1 =>
    unfold seqI at h; rw [hf] at h
    refine .inl (q σ H σd S ι _ hE hS ?_)
    rw [hf]
    exact h
  | ok d S1 =>
    unfold seqI at h
    rw [hf] at h
    simp only [bind_ok] at h
    cases d with
    | obj n => exact h.elim
    | raw n => exact h.elim
    | py d =>
      cases d with
      | list ds =>
        refine .inl (q σ H σd S ι _ hE hS ?_)
        rw [hf]
        intro v H1 ι1 p1 r1
        cases r1 with
        | py r =>
          cases r with
          | lst hf hz al => exact ⟨_, rfl, ⟨_, hf.sq⟩, h _ _ _ p1 (walk_list hf hz al)⟩
      | tuple ds =>
        refine .inr (q σ H σd S ι _ hE hS ?_)
        rw [hf]
        intro v H1 ι1 p1 r1
        cases r1 with
        | py r =>
          cases r with
          | tup hf hz al => exact ⟨_, rfl, ⟨_, hf.sq⟩, h _ _ _ p1 (walk_tup hf.sq hz al)⟩
      | _ => exact h.elim
theorem di_txt {tg : Expr} (ha : DE X E e f) : DI X E tg e (txtI f) := by
  obtain ⟨t, p, q⟩ := ha
  refine ⟨_, pi_str p, fun σ H σd S ι R hE hS h => ?_⟩
  refine q σ H σd S ι _ hE hS (Wp.bind0 h fun d S1 _ v H1 ι1 p1 r1 h1 => ?_)
  cases d with
  | obj n => exact h1.elim
  | raw n => exact h1.elim
  | py d =>
    cases d with
    | str x =>
      simp only at h1
      split at h1
      · rename_i hz
        refine ⟨x, str_of r1, h1 _ _ _ p1 ⟨?_, fun i H kp hi => ?_, fun H kp => ?_, fun i H v H' y kp hx yy => ?_⟩⟩
        · rw [List.length_map, sizeLine_eq]
          exact hz
        · show i < x.cps.size
          simpa using hi
        · show x.cps.size ≤ _
          simp
        · obtain ⟨e, c, hc, rfl⟩ := yy
          subst e
          rw [List.getElem?_map, Option.map_eq_some_iff] at hx
          obtain ⟨c', h1, h2⟩ := hx
          subst h2
          rw [Array.getElem?_toList, hc] at h1
          cases h1
          exact ⟨.refl _, fun _ _ h => h, fun _ h => h, fun ι => .py (.str _)⟩
      · exact h1.elim
    | _ => exact h1.elim
theorem rngV_get {lo : Int} {n i : Nat} {x : D} (h : (rngV lo n)[i]? = some x) : i < n ∧ x = .py (.int (lo + (i : Int))) := by
  have hl : i < n := by
    have := (List.getElem?_eq_some_iff.mp h).1
    unfold rngV at this
    simpa using this
  unfold rngV at h
  rw [List.getElem?_map, List.getElem?_range hl] at h
  cases h
  exact ⟨hl, rfl⟩
theorem rngV_len {lo : Int} {n : Nat} : (rngV lo n).length = n := by
  unfold rngV
  simp
theorem walk_rng {K : PySem.W.Frag} {H0 : Hp} {lo : Int} {n : Nat} (hz : n ≤ sizeLine) : WalkR K H0 (Itr lo n) (rngV lo n) := by
  refine ⟨by rw [rngV_len]; exact hz, fun i H kp hi => ?_, fun H kp => ?_, fun i H v H' x kp hx y => ?_⟩
  · rw [rngV_len] at hi
    exact hi
  · show n ≤ _
    rw [rngV_len]
    exact Nat.le_refl _
  · obtain ⟨e, y⟩ := y
    subst e y
    obtain ⟨_, rfl⟩ := rngV_get hx
    exact ⟨.refl _, fun _ _ h => h, fun _ h => h, fun ι => .py (.int _)⟩
theorem toNat_line {j : Int} (h : j ≤ 16777216) : j.toNat ≤ sizeLine := by
  rw [sizeLine_eq]
  omega
variable {p : Pos}
theorem di_rng1 {tg : Expr} (hm : X.mg "range" = none) (ha : DE X E a f) (hg : Gl X "range" := by rfl) (hs : starEach [a] X.env = [(false, eval a X.env)] := by rfl) : DI X E tg (.Call (.Name "range" p) [a] [] pos) (rng1I f) := by
  obtain ⟨t, pt, q⟩ := ha
  refine ⟨_, pi_range1 hg hm (pa_cons pt pa_nil hs) hs, fun σ H σd S ι R hE hS h => ?_⟩
  refine q σ H σd S ι _ hE hS (Wp.bind0 h fun d S1 _ v H1 ι1 p1 r1 h1 => ?_)
  split at h1
  · split at h1
    · rename_i hz
      refine ⟨_, by rw [int_of r1], hz.1, by have := hz.2; omega, h1 _ _ _ p1 (walk_rng (toNat_line hz.2))⟩
    · exact h1.elim
  · exact h1.elim
theorem di_rng2 {tg : Expr} (hm : X.mg "range" = none) (ha : DE X E a f) (hb : DE X E b g) (hg : Gl X "range" := by rfl) (hs : starEach [a, b] X.env = [(false, eval a X.env), (false, eval b X.env)] := by rfl) (hs2 : starEach [b] X.env = [(false, eval b X.env)] := by rfl) :
    DI X E tg (.Call (.Name "range" p) [a, b] [] pos) (rng2I f g) := by
  obtain ⟨t, pt, q⟩ := ha
  obtain ⟨u, pu, qu⟩ := hb
  refine ⟨_, pi_range2 hg hm (pa_cons pt (pa_cons pu pa_nil hs2) (by rw [hs, hs2])) hs hs2, fun σ H σd S ι R hE hS h => ?_⟩
  refine q σ H σd S ι _ hE hS (Wp.bind0 h fun d S1 _ v H1 ι1 p1 r1 h1 => ?_)
  refine qu σ H1 σd S1 ι1 _ (hE.mono p1.pre p1.keep) p1.sto (Wp.bind0 (Wp.re p1 h1) fun d2 S2 _ v2 H2 ι2 p2 r2 h2 => ?_)
  have h3 := h1
  split at h2
  · split at h2
    · rename_i hz
      refine ⟨_, _, by rw [int_of r1, int_of r2], ⟨hz.1, hz.2.2⟩, h2 _ _ _ p2 (walk_rng (toNat_line hz.2.1))⟩
    · exact h2.elim
  · exact h2.elim
theorem rngV_rev {lo : Int} {n i : Nat} {x : D} (h : (rngV lo n).reverse[i]? = some x) : i < n ∧ x = .py (.int (lo + (n : Int) - 1 + (i : Nat) * (-1))) := by
  have hl : i < n := by
    have := (List.getElem?_eq_some_iff.mp h).1
    rw [List.length_reverse, rngV_len] at this
    exact this
  rw [List.getElem?_reverse (by rw [rngV_len]; exact hl), rngV_len] at h
  obtain ⟨h1, h2⟩ := rngV_get h
  refine ⟨hl, ?_⟩
  rw [h2]
  have e : lo + ((n - 1 - i : Nat) : Int) = lo + (n : Int) - 1 + (i : Nat) * (-1) := by omega
  rw [e]
theorem walk_rrng {K : PySem.W.Frag} {H0 : Hp} {lo : Int} {n : Nat} (hz : n ≤ sizeLine) : WalkR K H0 (Itc (lo + (n : Int) - 1) (-1) n) (rngV lo n).reverse := by
  refine ⟨by rw [List.length_reverse, rngV_len]; exact hz, fun i H kp hi => ?_, fun H kp => ?_, fun i H v H' x kp hx y => ?_⟩
  · rw [List.length_reverse, rngV_len] at hi
    exact hi
  · show n ≤ _
    rw [List.length_reverse, rngV_len]
    exact Nat.le_refl _
  · obtain ⟨e, y⟩ := y
    subst e y
    obtain ⟨_, rfl⟩ := rngV_rev hx
    exact ⟨.refl _, fun _ _ h => h, fun _ h => h, fun ι => .py (.int _)⟩
theorem di_rrng2 {tg : Expr} {p2 pos2 : Pos} (hm : X.mg "range" = none) (hmr : X.mg "reversed" = none) (ha : DE X E a f) (hb : DE X E b g) (hg : Gl X "range" := by rfl) (hgr : Gl X "reversed" := by rfl)
    (na : starEach [a, b] X.env = (false, eval a X.env) :: starEach [b] X.env := by rfl) (nb : starEach [b] X.env = (false, eval b X.env) :: starEach [] X.env := by rfl) (hp : (backTo pos2 (starEach [b] X.env)).any (·.1) = false := by rfl)
    (nr : starEach [.Call (.Name "range" p2) [a, b] [] pos2] X.env = (false, eval (.Call (.Name "range" p2) [a, b] [] pos2) X.env) :: starEach [] X.env := by rfl) :
    DI X E tg (.Call (.Name "reversed" p) [.Call (.Name "range" p2) [a, b] [] pos2] [] pos) (rrngI f g) := by
  obtain ⟨t, pt, q⟩ := ha
  obtain ⟨u, pu, qu⟩ := hb
  refine ⟨_, pi_revR hgr hmr (prg_2 hg hm pt pu na nb hp) nr, fun σ H σd S ι R hE hS h => ?_⟩
  refine q σ H σd S ι _ hE hS (Wp.bind0 h fun d S1 _ v H1 ι1 p1 r1 h1 => ?_)
  refine qu σ H1 σd S1 ι1 _ (hE.mono p1.pre p1.keep) p1.sto (Wp.bind0 (Wp.re p1 h1) fun d2 S2 _ v2 H2 ι2 p2 r2 h2 => ?_)
  split at h2
  · split at h2
    · rename_i hz
      refine ⟨_, _, int_of r1, int_of r2, hz.1, hz.2.2.1, hz.2.2.2.1, hz.2.2.2.2, h2 _ _ _ p2 (walk_rrng (toNat_line hz.2.1))⟩
    · exact h2.elim
  · exact h2.elim
theorem di_rrng1 {tg : Expr} {p2 pos2 : Pos} (hm : X.mg "range" = none) (hmr : X.mg "reversed" = none) (ha : DE X E a f) (hg : Gl X "range" := by rfl) (hgr : Gl X "reversed" := by rfl)
    (na : starEach [a] X.env = (false, eval a X.env) :: starEach [] X.env := by rfl)
    (nr : starEach [.Call (.Name "range" p2) [a] [] pos2] X.env = (false, eval (.Call (.Name "range" p2) [a] [] pos2) X.env) :: starEach [] X.env := by rfl) :
    DI X E tg (.Call (.Name "reversed" p) [.Call (.Name "range" p2) [a] [] pos2] [] pos) (rrng1I f) := by
  obtain ⟨t, pt, q⟩ := ha
  refine ⟨_, pi_revR hgr hmr (prg_1 hg hm pt na) nr, fun σ H σd S ι R hE hS h => ?_⟩
  refine q σ H σd S ι _ hE hS (Wp.bind0 h fun d S1 _ v H1 ι1 p1 r1 h1 => ?_)
  split at h1
  · rename_i jj _
    split at h1
    · rename_i hz
      refine ⟨_, int_of r1, by decide, by decide, hz.1, by have := hz.2; omega, ?_⟩
      have e : jj - 0 = jj := by omega
      rw [e]
      exact h1 _ _ _ p1 (walk_rrng (toNat_line hz.2))
    · exact h1.elim
  · exact h1.elim
end
end DV

set_option maxHeartbeats 4000000
/-! The tuples that zip and enumerate give out have no dict. -/
namespace DV
open PySem
/-- the object there has no dict -/
def NoD (h : Heap) (T : Addr) : Prop := ∃ o, h.get? T = some o ∧ o.dict = none
section
variable {prog : Program} {w : World} {A : Around} {fp wr : List Addr} {n : Nat} {St : Nat → Heap → Prop} {I : Addr}
/-- a walk over tuples, each without a dict -/
structure WalksD (prog : Program) (w : World) (A : Around) (I : Addr) (fp wr : List Addr) (n : Nat) (Pt : Nat → Array Value → Prop) (St : Nat → Heap → Prop) (Mid : Nat → Addr → Heap → Prop) : Prop where
  base : WalksT prog w A I fp wr n Pt St Mid
  itemD : ∀ i (s : Shared) (Q : Option Value → Shared → Prop) (E : Value → Shared → Prop), i < n → St i s.heap →
    (∀ T vals h' tk, Pt i vals → s.heap.objs.size ≤ T → h'.IsTuple T vals → NoD h' T → Mid i T h' → (∀ b o, b ∉ wr → s.heap.get? b = some o → h'.get? b = some o) → Q (some (.ref T)) { s with heap := h', toks := tk }) →
    wpAny (model prog w) A (pyNext (.ref I)) Q E s
theorem WalksD.goes {elts : List Expr} {k : Nat} {pos : Pos} {Pt : Nat → Array Value → Prop} {Mid : Nat → Addr → Heap → Prop} (W : WalksD prog w A I fp wr n Pt St Mid) :
    GoesN prog w A (.Tuple elts k pos) I fp wr n (fun i h₀ v h => ∃ T vals, v = .ref T ∧ h₀.objs.size ≤ T ∧ Pt i vals ∧ h.IsTuple T vals ∧ NoD h T) St := by
  have G := GoesN.ofWalksT (elts := elts) (k := k) (pos := pos) W.base
  refine ⟨G.sub, G.frame, fun i s Q E hi st hQ => ?_, G.stops, G.self⟩
  refine wpAny_with_toks (n := s.toks) (Nat.le_refl _) (W.itemD i s _ _ hi st fun T vals h1 tk hP ge isT nd mid k1 htk => ⟨_, rfl, ?_⟩)
  refine W.base.go elts k pos i T { s with heap := h1, toks := tk } _ _ mid fun h2 st2 k2 => ?_
  have nw := W.base.apart i T h1 mid
  obtain ⟨ob, e1, e2⟩ := nd
  exact hQ _ h2 tk ⟨T, vals, rfl, ge, hP, isT.at fun o e => k2 T o nw e, ob, k2 T ob nw e1, e2⟩ st2 (fun b o hb e => k2 b o hb (k1 b o hb e)) htk
end
theorem away {h : Heap} {c : Addr} {o : Obj} (e : h.get? c = some o) : h.objs.size ≠ c := Nat.ne_of_gt (Heap.lt_size e)
section
variable {prog : Program} {w : World} {A : Around} {z TI TO i1 i2 i3 : Addr} {fp1 fp2 fp3 : List Addr} {n1 n2 n3 : Nat} {P1 P2 P3 : Nat → Value → Prop} {St1 St2 St3 : Nat → Heap → Prop}
theorem zip2_noD {elts : List Expr} {k : Nat} {pos : Pos} (S : ZipSep2 z TI TO i1 i2 fp1 fp2) (D1 : Draws prog w A.in1 i1 fp1 n1 P1 St1) (D2 : Draws prog w A.in1 i2 fp2 n2 P2 St2) :
    GoesN prog w A (.Tuple elts k pos) z (z :: TI :: TO :: (fp1 ++ fp2)) [z, TO, i1, i2] (min n1 n2) (fun i h₀ v h => ∃ T x y, v = .ref T ∧ h₀.objs.size ≤ T ∧ P1 i x ∧ P2 i y ∧ h.IsTuple T #[x, y] ∧ NoD h T)
      (fun i h => IsZip h z TI TO .none ∧ IsTupOf2 h TI (.ref i1) (.ref i2) ∧ (∃ a1 a2, IsTupOf2 h TO a1 a2) ∧ St1 i h ∧ St2 i h) := by
  have W := WalksT.zipD2 S D1 D2
  refine (WalksD.goes ⟨W, fun i s Q E hi st q => ?_⟩).mono fun i h₀ v h _ ⟨T, vals, ev, ge, ⟨x, y, hx, hy, evs⟩, isT, nd⟩ => ⟨T, x, y, ev, ge, hx, hy, evs ▸ isT, nd⟩
  obtain ⟨zz, ti, ⟨a1, a2, to⟩, s1, s2⟩ := st
  obtain ⟨_, e1⟩ := D1.live _ _ s1
  obtain ⟨_, e2⟩ := D2.live _ _ s2
  have l : i < n1 ∧ i < n2 := by omega
  refine wpAny_pyNext_zipD2_item S D1 D2 zz ti to s1 s2 l.1 l.2 fun x y h' tk px py zz' to' t1 t2 nw _ kp => ?_
  exact q _ #[x, y] h' tk ⟨x, y, px, py, rfl⟩ (Nat.le_refl _) ⟨_, nw, rfl, _, rfl⟩ ⟨_, nw, rfl⟩ ⟨zz', kp _ _ S.TIz S.TITO S.TIi1 S.TIi2 ti, ⟨_, _, to'⟩, t1, t2, away zz, away to, away e1, away e2⟩ fun b o hb e => by
    simp only [List.mem_cons, List.not_mem_nil, or_false, not_or] at hb
    exact kp b o hb.1 hb.2.1 hb.2.2.1 hb.2.2.2 e
theorem enum_noD {elts : List Expr} {k : Nat} {pos : Pos} {it : Addr} {fp : List Addr} {n : Nat} {P : Nat → Value → Prop} {St : Nat → Heap → Prop} (k₀ : Int) (D : Draws prog w A.in1 it fp n P St) (e : Addr) (hei : e ≠ it) (hef : e ∉ fp) (hif : it ∈ fp) :
    GoesN prog w A (.Tuple elts k pos) e (e :: fp) [e, it] n (fun i h₀ v h => ∃ T t x, v = .ref T ∧ h₀.objs.size ≤ T ∧ P i x ∧ h.IsTuple T #[.int (k₀ + (i : Int)) t, x] ∧ NoD h T) (fun i h => (∃ old, IsEnum h e it (k₀ + (i : Int)) old) ∧ St i h) := by
  have W := WalksT.enumFrom k₀ D e hei hef hif
  refine (WalksD.goes ⟨W, fun i s Q E hi st q => ?_⟩).mono fun i h₀ v h _ ⟨T, vals, ev, ge, ⟨t, x, hx, evs⟩, isT, nd⟩ => ⟨T, t, x, ev, ge, hx, evs ▸ isT, nd⟩
  obtain ⟨⟨old, he⟩, hs⟩ := st
  obtain ⟨_, e1⟩ := D.live _ _ hs
  refine wpAny_pyNext_enum_itemC D he hs hi hei hef fun x h' tk px ou hs' nw _ kp => ?_
  exact q _ #[.int (k₀ + (i : Int)) tk, x] h' (tk + 1) ⟨_, _, px, rfl⟩ (Nat.le_refl _) ⟨_, nw, rfl, _, rfl⟩ ⟨_, nw, rfl⟩ ⟨⟨_, ou⟩, hs', away he, away e1⟩ fun b o hb z => by
    simp only [List.mem_cons, List.not_mem_nil, or_false, not_or] at hb
    exact kp b o hb.1 hb.2 z
end
end DV

set_option maxHeartbeats 4000000
/-! zip, enumerate over lists, tuples, texts in any mix. -/
namespace DV
open PySem PySem.Spec PyProof.Rows L2

/-- a source that is walked -/
inductive SK where
  | lst (a : Addr)
  | tup (a : Addr)
  | txt (x : Str) (t : Tok)
def SK.src : SK → List Addr
  | .lst a => [a]
  | .tup a => [a]
  | .txt _ _ => []
def SK.st (k : SK) (it : Addr) (i : Nat) (h : Heap) : Prop := match k with
  | .lst a => h.IsListIter it a i
  | .tup a => h.IsTupleIter it a i
  | .txt x t => h.IsStrIter it (strIterType x) x t i
def SK.val : SK → Value
  | .lst a => .ref a
  | .tup a => .ref a
  | .txt x t => .str x t
def SK.ob : SK → Obj
  | .lst a => { cls := .type "list_iterator", data := .fields #[.ref a, .int 0 0] }
  | .tup a => { cls := .type "tuple_iterator", data := .fields #[.ref a, .int 0 0] }
  | .txt x t => { cls := .type (strIterType x), data := .fields #[.str x t, .int 0 0] }
/-- the source holds the items -/
def SK.ok (K : PySem.W.Frag) (H : Hp) : SK → List V → Prop
  | .lst a, xs => FL K H a xs
  | .tup a, xs => SqT K H a xs
  | .txt x _, xs => xs = x.cps.toList.map fun c => V.str ⟨#[c]⟩
def SK.hold (k : SK) (h : Heap) (its : List Value) : Prop := match k with
  | .lst a => h.IsList a its.toArray
  | .tup a => h.IsTuple a its.toArray
  | .txt _ _ => True
def SK.n (k : SK) (its : List Value) : Nat := match k with
  | .txt x _ => x.cps.size
  | _ => its.length
def SK.P (k : SK) (its : List Value) (i : Nat) (v : Value) : Prop := match k with
  | .txt x _ => ∃ c u, x.cps[i]? = some c ∧ v = .str ⟨#[c]⟩ u
  | _ => its.toArray[i]? = some v
theorem SK.ok.keep {K : PySem.W.Frag} {H H' : Hp} {k : SK} {xs : List V} (q : Keep H H') (h : k.ok K H xs) : k.ok K H' xs := by
  cases k with
  | lst a => exact FL.keep q h
  | tup a => exact sqT_keep q h
  | txt x t => exact h
theorem SK.draws {prog : Program} {w : World} {A : Around} (hh : A.handled = none) (k : SK) (it : Addr) (hne : ∀ a ∈ k.src, a ≠ it) (its : List Value) :
    Draws prog w A it (it :: k.src) (k.n its) (k.P its) (fun i h => k.st it i h ∧ k.hold h its) := by
  cases k with
  | lst a => exact Draws.list hh it a (hne a (by simp [SK.src])) its.toArray
  | tup a => exact Draws.tuple hh it a (hne a (by simp [SK.src])) its.toArray
  | txt x t =>
    have D := Draws.text (prog := prog) (w := w) hh it x t
    exact ⟨fun i h st => D.live i h st.1, fun i h h' st k => ⟨D.frame i h h' st.1 k, trivial⟩, fun i s Q E hi st hQ => D.item i s Q E hi st.1 fun x h' tk hP hs hb => hQ x h' tk hP ⟨hs, trivial⟩ hb, fun s Q E st hE => D.done s Q E st.1 hE⟩
theorem SK.begins (k : SK) (its : List Value) : Begins k.val k.ob fun h => k.hold h its := by
  cases k with
  | lst a => exact begins_list a its.toArray
  | tup a => exact begins_tuple a its.toArray
  | txt x t =>
    have B := begins_text x t
    exact ⟨B.iter, B.keeps, B.free⟩
/-- the state of a source's iterator hangs on that iterator alone -/
theorem SK.st_keep {k : SK} {it : Addr} {i : Nat} {h h' : Heap} (st : k.st it i h) (q : ∀ o, h.get? it = some o → h'.get? it = some o) : k.st it i h' := by
  cases k with
  | lst a => exact Heap.IsListIter.at st fun o e => q o e
  | tup a => exact Heap.IsTupleIter.at st fun o e => q o e
  | txt x t => obtain ⟨o, e, c, d⟩ := st; exact ⟨o, q o e, c, d⟩
theorem SK.st_obj {k : SK} {it : Addr} {i : Nat} {h : Heap} (st : k.st it i h) : ∃ o, h.get? it = some o ∧ ∀ v, o.data ≠ .cell v := by
  cases k with
  | lst a => obtain ⟨o, e, _, d⟩ := st; exact ⟨o, e, fun v z => by rw [d] at z; cases z⟩
  | tup a => obtain ⟨o, e, _, d⟩ := st; exact ⟨o, e, fun v z => by rw [d] at z; cases z⟩
  | txt x t => obtain ⟨o, e, _, d⟩ := st; exact ⟨o, e, fun v z => by rw [d] at z; cases z⟩
theorem SK.st0 (k : SK) {it : Addr} {h : Heap} (e : h.get? it = some k.ob) : k.st it 0 h := by
  cases k with
  | lst a => exact ⟨_, e, rfl, rfl⟩
  | tup a => exact ⟨_, e, rfl, rfl⟩
  | txt x t => exact ⟨_, e, rfl, rfl⟩
section
variable {X : Cx} {pins : List (Addr × Obj)} {σ : L2.St} {H : Hp} {s : Shared}
/-- what the source holds, in the heap as it stands -/
theorem SK.heap {k : SK} {xs : List V} (I : Inv X pins σ H s) (h : k.ok X.K H xs) : ∃ its : List Value, k.hold s.heap its ∧ k.n its = xs.length ∧ (∀ i v, k.P its i v → ∃ x, xs[i]? = some x ∧ RelV x v) ∧ ∀ a ∈ k.src, a < s.heap.objs.size := by
  cases k with
  | lst a =>
    obtain ⟨its, rv, p, z⟩ := I.list (FL.sq h)
    exact ⟨its, p.isList, rv.length.symm, fun i v e => by
      have e' : its[i]? = some v := by simpa [SK.P] using e
      exact Paired.getR rv e', fun b hb => by
      rw [show b = a by simpa [SK.src] using hb]
      exact p.lt⟩
  | tup a =>
    obtain ⟨its, rv, p, z⟩ := I.tuple h
    exact ⟨its, p, rv.length.symm, fun i v e => by
      have e' : its[i]? = some v := by simpa [SK.P] using e
      exact Paired.getR rv e', fun b hb => by
      rw [show b = a by simpa [SK.src] using hb]
      exact p.lt⟩
  | txt x t =>
    refine ⟨[], trivial, ?_, fun i v e => ?_, fun b hb => by simp [SK.src] at hb⟩
    · have h' : xs = _ := h
      rw [h']
      simp [SK.n]
    · obtain ⟨c, u, h1, h2⟩ := e
      have h' : xs = _ := h
      refine ⟨.str ⟨#[c]⟩, ?_, ⟨u, h2⟩⟩
      rw [h', List.getElem?_map, Array.getElem?_toList, h1]
      rfl
end
/-- an iterator whose i-th item is a new tuple of the values gv i -/
def ItN (Src : Hp → Prop) (n : Nat) (gv : Nat → List V) : L2.It :=
  ⟨fun i H => i < n ∧ Src H, fun i H v H' => ∃ T o, v = .ref T ∧ H T = none ∧ o.dict = none ∧ H' = upd H T (.frz o (.tup (gv i))), fun i H => i = n ∧ Src H⟩
/-- a turn of such an iterator, from the model's own walk -/
theorem turn_new {P : Program} {w : World} {K : PySem.W.Frag} {tg : Expr} {Src : Hp → Prop} {n : Nat} {gv : Nat → List V} {it : Addr} {fp : List Addr} {tn : Nat → Heap → Prop} (mem : it ∈ fp)
    (obj : ∀ i h, tn i h → ∀ b ∈ fp, ∃ o, h.get? b = some o ∧ ∀ v, o.data ≠ .cell v)
    (keep : ∀ i h h', tn i h → (∀ b ∈ fp, ∀ o, h.get? b = some o → h'.get? b = some o) → tn i h')
    (self : ∀ (A : Around) (i : Nat) (s : Shared) (Q : Value → Shared → Prop) (E : Value → Shared → Prop), tn i s.heap → Q (.ref it) s → wpAny (model P w) A (pyIter (.ref it)) Q E s)
    (small : ∀ i, (gv i).length ≤ sizeLine)
    (goes : ∀ (X : Cx), X.prog = P → X.w = w → X.K = K → X.A.handled = none → ∀ (i : Nat) (pins : List (Addr × Obj)) (s : Shared) (σ : L2.St) (H : Hp), Inv X pins σ H s → tn i s.heap → Src H →
      ∃ (fg wr : List Addr) (Y : Nat → Heap → Value → Heap → Prop) (St : Nat → Heap → Prop), GoesN P w X.A tg it fg wr n Y St ∧ St i s.heap ∧ (∀ b ∈ wr, b ∈ fp) ∧
        (∀ h v h', i < n → Y i h v h' → ∃ T us, v = .ref T ∧ h.objs.size ≤ T ∧ Vals (gv i) us ∧ h'.IsTuple T us.toArray ∧ NoD h' T) ∧ (∀ h', St (i + 1) h' → tn (i + 1) h')) :
    Turn P w K tg (ItN Src n gv) fp it tn where
  mem := mem
  obj := obj
  keep := keep
  self := self
  item := by
    intro X hP hw hK hc i pins s σ H E I hf st hg
    obtain ⟨hi, hsrc⟩ := hg
    obtain ⟨fg, wr, Y, St, W, hst, hwr, hY, hSt⟩ := goes X hP hw hK (I.ok.hd hc) i pins s σ H I st hsrc
    refine W.goes i s _ E hi hst fun v h' tk y st' hk htk => ?_
    obtain ⟨T, us, rfl, hT, rv, ⟨o, e1, e2, n1, e3⟩, o2, e4, e5⟩ := hY _ _ _ hi y
    cases e1.symm.trans e4
    have new : ObjOk X.prog X.w (upd H T (.frz o (.tup (gv i)))) h' T (.frz o (.tup (gv i))) := tupF_ok (small i) rv e1 e2 e3
    refine ⟨.ref T, _, I.turnedNew (t' := tk) (ch := wr) hk (fun b hb => hf b (hwr b hb)) hT new, rfl, ⟨T, o, rfl, I.hok.fresh hT, e5, rfl⟩, hSt _ st', fun b hb => ?_⟩
    obtain ⟨o, ho, _⟩ := obj i _ st b hb
    rw [upd_ne (Nat.ne_of_lt (Nat.lt_of_lt_of_le (Heap.lt_size ho) hT))]
    exact (hf b hb).1
  done := by
    intro X hP hw hK hc i pins s σ H E I hf st hg
    obtain ⟨hi, hsrc⟩ := hg
    subst hi
    obtain ⟨fg, wr, Y, St, W, hst, hwr, _, _⟩ := goes X hP hw hK (I.ok.hd hc) i pins s σ H I st hsrc
    exact W.stops s (fun s1 => Inv X pins σ H s1) E hst fun h' tk hk htk => I.turnedL (t' := tk) (ch := wr) hk fun b hb => hf b (hwr b hb)
/-- a value that is a source -/
def srcV (K : PySem.W.Frag) (H : Hp) (v : V) (xs : List V) : Prop :=
  (∃ a, v = .ref a ∧ FL K H a xs) ∨ (∃ a, v = .ref a ∧ SqT K H a xs) ∨ ∃ x, v = .str x ∧ xs = x.cps.toList.map fun c => V.str ⟨#[c]⟩
theorem srcV.sk {K : PySem.W.Frag} {H : Hp} {v : V} {xs : List V} {u : Value} (h : srcV K H v xs) (r : RelV v u) : ∃ k : SK, u = k.val ∧ k.ok K H xs := by
  rcases h with ⟨a, rfl, h⟩ | ⟨a, rfl, h⟩ | ⟨x, rfl, h⟩
  · cases r; exact ⟨.lst a, rfl, h⟩
  · cases r; exact ⟨.tup a, rfl, h⟩
  · obtain ⟨t, rfl⟩ := r; exact ⟨.txt x t, rfl, h⟩
theorem srcV.of {K : PySem.W.Frag} {ι : List Addr} {H : Hp} {S : Sto} {v : V} {d : D} {ds : List PyData} (r : Rd K ι H v d) (h : pyWalk S d = some ds) : ∃ xs, srcV K H v xs ∧ PpAll K H xs ds ∧ ds.length ≤ sizeLine := by
  cases r with
  | obj e => simp [pyWalk] at h
  | raw e => simp [pyWalk] at h
  | py r =>
    cases r with
    | lst hf hz al => cases h; exact ⟨_, .inl ⟨_, rfl, hf⟩, al, hz⟩
    | tup hf hz al => cases h; exact ⟨_, .inr (.inl ⟨_, rfl, hf.sq⟩), al, hz⟩
    | str x =>
      simp only [pyWalk] at h
      split at h
      · rename_i hz
        cases h
        refine ⟨_, .inr (.inr ⟨x, rfl, rfl⟩), ?_, ?_⟩
        · generalize x.cps.toList = l
          induction l with
          | nil => exact .nil
          | cons c l ih => exact .cons (.str _) ih
        · rw [List.length_map, sizeLine_eq]
          exact hz
      · cases h
    | _ => simp [pyWalk] at h

section
variable {X : Cx} {E : XK} {e a b c : Expr} {f g h : Ex} {pos p : Pos}
def iZipM (K : PySem.W.Frag) (ta : TA) : TI := fun σ H R => ta σ H fun vs H1 => ∃ v1 v2 xs ys, vs = [v1, v2] ∧ srcV K H1 v1 xs ∧ srcV K H1 v2 ys ∧
  ∀ Src : Hp → Prop, (∀ H', Keep H1 H' → Src H') → R (ItN Src (min xs.length ys.length) fun i => [xs.getD i .non, ys.getD i .non]) H1
theorem getD_of {xs : List V} {i : Nat} {x : V} (h : xs[i]? = some x) : xs.getD i .non = x := by
  rw [List.getD_eq_getElem?_getD, h]
  rfl
abbrev zipTn (k1 k2 : SK) (N : Addr) : Nat → Heap → Prop := fun i h => IsZip h (N + 4) (N + 2) (N + 3) .none ∧ IsTupOf2 h (N + 2) (.ref N) (.ref (N + 1)) ∧ (∃ a1 a2, IsTupOf2 h (N + 3) a1 a2) ∧ k1.st N i h ∧ k2.st (N + 1) i h
theorem turn_zip2 {P : Program} {w : World} {K : PySem.W.Frag} {elts : List Expr} {kk : Nat} {tpos : Pos} {k1 k2 : SK} {N : Addr} {xs ys : List V} (l1 : ∀ a ∈ k1.src, a < N) (l2 : ∀ a ∈ k2.src, a < N) :
    Turn P w K (.Tuple elts kk tpos) (ItN (fun H => k1.ok K H xs ∧ k2.ok K H ys) (min xs.length ys.length) fun i => [xs.getD i .non, ys.getD i .non]) [N + 4, N + 2, N + 3, N, N + 1] (N + 4) (zipTn k1 k2 N) := by
  have S := zip_sep2 (N := N) l1 l2
  refine turn_new (by simp) ?_ ?_ ?_ (fun i => by show 2 ≤ sizeLine; decide) ?_
  · intro i h st c hc
    obtain ⟨hz, hTI, ⟨x, y, hTO⟩, h1, h2⟩ := st
    have e' : c = N + 4 ∨ c = N + 2 ∨ c = N + 3 ∨ c = N ∨ c = N + 1 := by simpa using hc
    rcases e' with q | q | q | q | q
    · rw [q]; exact ⟨_, hz, fun v q => nomatch q⟩
    · rw [q]; exact ⟨_, hTI, fun v q => nomatch q⟩
    · rw [q]; exact ⟨_, hTO, fun v q => nomatch q⟩
    · rw [q]; exact SK.st_obj h1
    · rw [q]; exact SK.st_obj h2
  · intro i h h' st k
    obtain ⟨hz, hTI, ⟨x, y, hTO⟩, h1, h2⟩ := st
    exact ⟨k (N + 4) (by simp) _ hz, k (N + 2) (by simp) _ hTI, ⟨x, y, k (N + 3) (by simp) _ hTO⟩, SK.st_keep h1 fun o q => k N (by simp) o q, SK.st_keep h2 fun o q => k (N + 1) (by simp) o q⟩
  · exact fun A i s Q E st h => wpAny_pyIter_zip st.1 h
  · intro X' hP hw hK hh i pins' s' σ' H' I' st hsrc
    subst hP hw hK
    obtain ⟨its1', d1', n1', P1', l1'⟩ := SK.heap I' hsrc.1
    obtain ⟨its2', d2', n2', P2', l2'⟩ := SK.heap I' hsrc.2
    have W := zip2_noD (elts := elts) (k := kk) (pos := tpos) S (SK.draws (prog := X'.prog) (w := X'.w) (A := X'.A.in1) hh k1 N (fun a ha => Nat.ne_of_lt (l1 a ha)) its1') (SK.draws (A := X'.A.in1) hh k2 (N + 1) (fun a ha => Nat.ne_of_lt (Nat.lt_succ_of_lt (l2 a ha))) its2')
    rw [n1', n2'] at W
    refine ⟨_, _, _, _, W, ⟨st.1, st.2.1, st.2.2.1, ⟨st.2.2.2.1, d1'⟩, ⟨st.2.2.2.2, d2'⟩⟩, fun b hb => ?_, fun h v h' hi y => ?_, fun h' st' => ⟨st'.1, st'.2.1, st'.2.2.1, st'.2.2.2.1.1, st'.2.2.2.2.1⟩⟩
    · have e' : b = N + 4 ∨ b = N + 3 ∨ b = N ∨ b = N + 1 := by simpa using hb
      rcases e' with q | q | q | q <;> simp [q]
    · obtain ⟨T, x, y, rfl, hT, p1, p2, ht, nd⟩ := y
      obtain ⟨v1, e1, r1⟩ := P1' _ _ p1
      obtain ⟨v2, e2, r2⟩ := P2' _ _ p2
      refine ⟨T, [x, y], rfl, hT, ?_, ht, nd⟩
      rw [getD_of e1, getD_of e2]
      exact .cons r1 (.cons r2 .nil)
theorem pi_zipM {e2 : Expr} {ta : TA} {tpos : Pos} {elts : List Expr} {kk : Nat} (hg : Gl X "zip") (hm : X.mg "zip" = none) (hc : X.calm = true) (ha : PA X [e, e2] ta)
    (hs : starEach [e, e2] X.env = (false, eval e X.env) :: starEach [e2] X.env := by rfl) (hpl : (backTo pos (starEach [e2] X.env)).any (·.1) = false := by rfl) :
    PI X (.Tuple elts kk tpos) (.Call (.Name "zip" p) [e, e2] [] pos) (iZipM X.K ta) := by
  refine ⟨fun pins s σ H R I h => ?_⟩
  refine Call_ (ld_blt I hg hm PyProof.Rows.boot_zip (PyProof.Rows.callWith_type1 (thn (ha.run pos pins s σ H _ I h) fun us s1 ⟨vs, H1, I1, r1, q1⟩ => ?_) hs hpl))
  obtain ⟨v1, v2, xs, ys, rfl, h1, h2, q⟩ := q1
  obtain ⟨u1, u2, rfl, r1, r2⟩ := vals2 r1
  obtain ⟨k1, rfl, o1⟩ := h1.sk r1
  obtain ⟨k2, rfl, o2⟩ := h2.sk r2
  obtain ⟨its1, d1, n1, P1, l1⟩ := SK.heap I1 o1
  obtain ⟨its2, d2, n2, P2, l2⟩ := SK.heap I1 o2
  refine zip_begins2 (SK.begins k1 its1) (SK.begins k2 its2) d1 d2 fun h' hz hTI hTO hi1 hi2 hsz hk => wpAny_pyIter_zip hz ?_
  have I2 : Inv X pins σ H1 { s1 with heap := h' } := I1.kept (t' := s1.toks) hk
  have S := zip_sep2 (N := s1.heap.objs.size) l1 l2
  generalize hN : s1.heap.objs.size = N at *
  have fresh5 : ∀ c, c ∈ [N + 4, N + 2, N + 3, N, N + 1] → FpOk X pins H1 c := fun c hcm => by
    have e' : c = N + 4 ∨ c = N + 2 ∨ c = N + 3 ∨ c = N ∨ c = N + 1 := by simpa using hcm
    have hle : s1.heap.objs.size ≤ c := by
      rw [hN]
      rcases e' with z | z | z | z | z
      · rw [z]; exact Nat.le_add_right _ _
      · rw [z]; exact Nat.le_add_right _ _
      · rw [z]; exact Nat.le_add_right _ _
      · rw [z]; exact Nat.le_refl _
      · rw [z]; exact Nat.le_add_right _ _
    exact I1.fpOk hle (I1.hok.fresh hle)
  refine ⟨N + 4, [N + 4, N + 2, N + 3, N, N + 1], fun i h => IsZip h (N + 4) (N + 2) (N + 3) .none ∧ IsTupOf2 h (N + 2) (.ref N) (.ref (N + 1)) ∧ (∃ a1 a2, IsTupOf2 h (N + 3) a1 a2) ∧ k1.st N i h ∧ k2.st (N + 1) i h,
    ItN (fun H => k1.ok X.K H xs ∧ k2.ok X.K H ys) (min xs.length ys.length) fun i => [xs.getD i .non, ys.getD i .non], H1, rfl, I2, ?_, ⟨hz, hTI, ⟨_, _, hTO⟩, SK.st0 k1 hi1, SK.st0 k2 hi2⟩, fresh5, q _ fun H' kp => ⟨o1.keep kp, o2.keep kp⟩⟩
  exact turn_zip2 l1 l2
/-- the items of a walk over new tuples -/
theorem walk_new {K : PySem.W.Frag} {H0 : Hp} {Src : Hp → Prop} {n : Nat} {gv : Nat → List V} {ps : List (List PyData)} (hn : n = ps.length) (hz : ps.length ≤ sizeLine) (hs : ∀ H', Keep H0 H' → Src H')
    (hv : ∀ i p, ps[i]? = some p → p.length ≤ sizeLine ∧ PpAll K H0 (gv i) p) : WalkR K H0 (ItN Src n gv) (ps.map fun p => D.py (.tuple p)) := by
  refine ⟨by rw [List.length_map]; exact hz, fun i H kp hi => ?_, fun H kp => ?_, fun i H v H' x kp hx y => ?_⟩
  · rw [List.length_map] at hi
    exact ⟨by rw [hn]; exact hi, hs H kp⟩
  · exact ⟨by rw [List.length_map]; exact hn.symm, hs H kp⟩
  · obtain ⟨T, o, rfl, hT, ho, rfl⟩ := y
    rw [List.getElem?_map, Option.map_eq_some_iff] at hx
    obtain ⟨p, h1, rfl⟩ := hx
    obtain ⟨hl, al⟩ := hv i p h1
    exact ⟨.new hT, fun b vs e => by rw [upd_ne (ne_of_none e hT)]; exact e, upd_dom, fun ι => .py (.tup (.new ho) hl (al.keep (kp.trans (.new hT))))⟩
theorem di_zip {tpos : Pos} {elts : List Expr} {kk : Nat} (hm : X.mg "zip" = none) (hc : X.calm = true) (ha : DE X E a f) (hb : DE X E b g) (hg : Gl X "zip" := by rfl)
    (hs : starEach [a, b] X.env = (false, eval a X.env) :: starEach [b] X.env := by rfl) (hs2 : starEach [b] X.env = (false, eval b X.env) :: starEach [] X.env := by rfl) (hpl : (backTo pos (starEach [b] X.env)).any (·.1) = false := by rfl) :
    DI X E (.Tuple elts kk tpos) (.Call (.Name "zip" p) [a, b] [] pos) (zipI f g) := by
  obtain ⟨t, pt, q⟩ := ha
  obtain ⟨u, pu, qu⟩ := hb
  refine ⟨_, pi_zipM hg hm hc (pa_cons pt (pa_cons pu pa_nil hs2) hs) hs hpl, fun σ H σd S ι R hE hS h => ?_⟩
  refine q σ H σd S ι _ hE hS (Wp.bind0 h fun d S1 _ v H1 ι1 p1 r1 h1 => ?_)
  refine qu σ H1 σd S1 ι1 _ (hE.mono p1.pre p1.keep) p1.sto (Wp.bind0 (Wp.re p1 h1) fun d2 S2 _ v2 H2 ι2 p2 r2 h2 => ?_)
  split at h2
  · rename_i xs ys hx hy
    obtain ⟨vs, s1, al1, z1⟩ := srcV.of (S := S2) (r1.mono p2.pre p2.keep) hx
    obtain ⟨ws, s2, al2, z2⟩ := srcV.of (S := S2) r2 hy
    refine ⟨v, v2, vs, ws, rfl, s1, s2, fun Src hSrc => h2 _ _ _ p2 ?_⟩
    have e : ((xs.zip ys).map fun p => D.py (.tuple [p.1, p.2])) = ((xs.zip ys).map fun p => [p.1, p.2]).map fun p => D.py (.tuple p) := by rw [List.map_map]; rfl
    rw [e]
    refine walk_new ?_ ?_ hSrc fun i pp hp => ?_
    · rw [List.length_map, List.length_zip, al1.length, al2.length]
    · rw [List.length_map, List.length_zip]
      exact Nat.le_trans (Nat.min_le_left _ _) z1
    · rw [List.getElem?_map, Option.map_eq_some_iff] at hp
      obtain ⟨⟨x, y⟩, h3, rfl⟩ := hp
      rw [List.getElem?_zip_eq_some] at h3
      obtain ⟨v1, e1, r1⟩ := al1.getR h3.1
      obtain ⟨v3, e2, r3⟩ := al2.getR h3.2
      refine ⟨by show 2 ≤ sizeLine; decide, ?_⟩
      rw [getD_of e1, getD_of e2]
      exact .cons r1 (.cons r3 .nil)
  · exact h2.elim
end
end DV
namespace PySem
open Sem (wp)
set_option maxHeartbeats 1000000 in
theorem dv_meets_enumerate {v : Value} {o : Obj} {H : Heap → Prop} (B : Begins v o H) :
    Meets (Builtin.«enumerate.__new__» ⟨[.type "enumerate", v], []⟩) (fun _ R s => H s.heap ∧
      R (.ok (.ret (.ref (s.heap.push o).objs.size))) { s with heap := (s.heap.push o).push { cls := .type "enumerate", data := .fields #[.none, .bool false, .ref s.heap.objs.size, rawInt 0, .none, .none] } }) :=
  .of_wp fun prog w A R s h => by
    obtain ⟨hp, g, d, tk, os⟩ := s; obtain ⟨h1, h⟩ := h
    have hsub := sub_enumerate
    have q1 : ∀ {A' : Around} {E : Value → Shared → Prop} {Q : Value → Shared → Prop}, Q (.ref hp.objs.size) ⟨hp.push o, g, d, tk, os⟩ → wpAny (model prog w) A' (pyIter v) Q E ⟨hp, g, d, tk, os⟩ :=
      fun q => B.iter prog w _ _ ⟨hp, g, d, tk, os⟩ _ h1 q
    wp_walk using q1
    refine wpAny_stack_any fun st => wpAny_pure ?_
    split
    · rename_i c _ _ _ _ _
      cases (c == Value.type "enumerate")
      · wp_walk using q1
        exact ⟨_, rfl, h⟩
      · wp_walk using q1
        exact ⟨_, rfl, h⟩
    · wp_walk using q1
      exact ⟨_, rfl, h⟩
end PySem
namespace DV
open PySem PySem.Spec PyProof.Rows L2
end DV

set_option maxHeartbeats 4000000
namespace DV
open PySem PySem.Spec PyProof.Rows L2
/-! enumerate, zip of three. -/
section
variable {prog : Program} {w : World} {A : Around} {E : Value → Shared → Prop} {s : Shared}
theorem enum_begins1 {v : Value} {o : Obj} {H : Heap → Prop} {Q : Value → Shared → Prop} (B : Begins v o H) (h1 : H s.heap)
    (h : ∀ h', IsEnum h' (s.heap.objs.size + 1) s.heap.objs.size 0 .none → h'.get? s.heap.objs.size = some o → h'.objs.size = s.heap.objs.size + 2 →
      (∀ b o, s.heap.get? b = some o → h'.get? b = some o) → Q (.ref (s.heap.objs.size + 1)) { s with heap := h' }) :
    wpAny (model prog w) A (call (.type "enumerate") [v]) Q E s := by
  refine callType_new F.called_enumerate (by decide) (F.typeCall_enumerate_1 _) (F.newCall_enumerate_1 _) (fun obj => F.args_object_init_2 obj _) F.entry_enumerate_new
    (dv_meets_enumerate B) ⟨h1, ?_⟩
  have hz : (s.heap.push o).objs.size = s.heap.objs.size + 1 := Heap.size_push ..
  show _ ∧ _
  rw [hz]
  have he : IsEnum ((s.heap.push o).push { cls := .type "enumerate", data := .fields #[.none, .bool false, .ref s.heap.objs.size, rawInt 0, .none, .none] }) (s.heap.objs.size + 1) s.heap.objs.size 0 .none := by
    have := Heap.get?_push_size (s.heap.push o) (o := { cls := .type "enumerate", data := .fields #[.none, .bool false, .ref s.heap.objs.size, rawInt 0, .none, .none] }) rfl
    rw [hz] at this; exact this
  refine ⟨⟨_, he, rfl⟩, h _ he (Heap.get?_push_of_some _ (Heap.get?_push_size _ B.free)) (by rw [Heap.size_push, hz]) fun b o x => Heap.get?_push_of_some _ (Heap.get?_push_of_some _ x)⟩
end
abbrev enumTn (k1 : SK) (N : Addr) : Nat → Heap → Prop := fun i h => (∃ old, IsEnum h (N + 1) N (i : Nat) old) ∧ k1.st N i h
theorem turn_enum {P : Program} {w : World} {K : PySem.W.Frag} {elts : List Expr} {kk : Nat} {tpos : Pos} {k1 : SK} {N : Addr} {xs : List V} (l1 : ∀ a ∈ k1.src, a < N) :
    Turn P w K (.Tuple elts kk tpos) (ItN (fun H => k1.ok K H xs) xs.length fun i => [.int (i : Nat), xs.getD i .non]) [N + 1, N] (N + 1) (enumTn k1 N) := by
  refine turn_new (by simp) ?_ ?_ ?_ (fun i => by show 2 ≤ sizeLine; decide) ?_
  · intro i h st c hc
    obtain ⟨⟨old, hz⟩, h1⟩ := st
    have e' : c = N + 1 ∨ c = N := by simpa using hc
    rcases e' with q | q
    · rw [q]; exact ⟨_, hz, fun v q => nomatch q⟩
    · rw [q]; exact SK.st_obj h1
  · intro i h h' st k
    obtain ⟨⟨old, hz⟩, h1⟩ := st
    exact ⟨⟨old, k (N + 1) (by simp) _ hz⟩, SK.st_keep h1 fun o q => k N (by simp) o q⟩
  · exact fun A i s Q E st h => let ⟨_, hz⟩ := st.1; wpAny_pyIter_enum hz h
  · intro X' hP hw hK hh i pins' s' σ' H' I' st hsrc
    subst hP hw hK
    obtain ⟨its1', d1', n1', P1', l1'⟩ := SK.heap I' hsrc
    have W := enum_noD (elts := elts) (k := kk) (pos := tpos) 0 (SK.draws (prog := X'.prog) (w := X'.w) (A := X'.A.in1) hh k1 N (fun a ha => Nat.ne_of_lt (l1 a ha)) its1') (N + 1) (Nat.ne_of_gt (Nat.lt_succ_self _)) (fun hm => by
      rcases List.mem_cons.mp hm with q | q
      · exact absurd q (Nat.ne_of_gt (Nat.lt_succ_self _))
      · exact absurd (l1 _ q) (Nat.not_lt_of_le (Nat.le_succ _))) (List.mem_cons_self ..)
    rw [n1'] at W
    refine ⟨_, _, _, _, W, ⟨?_, ⟨st.2, d1'⟩⟩, fun b hb => ?_, fun h v h' hi y => ?_, fun h' st' => ⟨?_, st'.2.1⟩⟩
    · obtain ⟨old, hz⟩ := st.1
      exact ⟨old, by rw [Int.zero_add]; exact hz⟩
    · have e' : b = N + 1 ∨ b = N := by simpa using hb
      rcases e' with q | q <;> simp [q]
    · obtain ⟨T, t, x, rfl, hT, p1, ht⟩ := y
      obtain ⟨v1, e1, r1⟩ := P1' _ _ p1
      refine ⟨T, [.int (0 + (i : Int)) t, x], rfl, hT, ?_, ht⟩
      rw [getD_of e1, Int.zero_add]
      exact .cons ⟨t, rfl⟩ (.cons r1 .nil)
    · obtain ⟨old, hz⟩ := st'.1
      exact ⟨old, by rw [Int.zero_add] at hz; exact hz⟩
section
variable {X : Cx} {E : XK} {e a b c : Expr} {f g h : Ex} {pos p : Pos}
def iEnumM (K : PySem.W.Frag) (ta : TA) : TI := fun σ H R => ta σ H fun vs H1 => ∃ v1 xs, vs = [v1] ∧ srcV K H1 v1 xs ∧
  ∀ Src : Hp → Prop, (∀ H', Keep H1 H' → Src H') → R (ItN Src xs.length fun i => [.int (i : Nat), xs.getD i .non]) H1
theorem pi_enumM {ta : TA} {tpos : Pos} {elts : List Expr} {kk : Nat} (hg : Gl X "enumerate") (hm : X.mg "enumerate" = none) (ha : PA X [e] ta)
    (hs : starEach [e] X.env = [(false, eval e X.env)] := by rfl) :
    PI X (.Tuple elts kk tpos) (.Call (.Name "enumerate" p) [e] [] pos) (iEnumM X.K ta) := by
  refine ⟨fun pins s σ H R I h => ?_⟩
  refine Call_ (ld_blt I hg hm boot_enumerate (PyProof.Rows.callWith_type1 (thn (ha.run pos pins s σ H _ I h) fun us s1 ⟨vs, H1, I1, r1, q1⟩ => ?_) hs rfl))
  obtain ⟨v1, xs, rfl, h1, q⟩ := q1
  obtain ⟨u1, rfl, ru⟩ := vals1 r1
  obtain ⟨k1, rfl, o1⟩ := h1.sk ru
  obtain ⟨its1, d1, n1, P1, l1⟩ := SK.heap I1 o1
  refine enum_begins1 (SK.begins k1 its1) d1 fun h' hz hi1 hsz hk => wpAny_pyIter_enum hz ?_
  have I2 : Inv X pins σ H1 { s1 with heap := h' } := I1.kept (t' := s1.toks) hk
  generalize hN : s1.heap.objs.size = N at *
  have fresh5 : ∀ c, c ∈ [N + 1, N] → FpOk X pins H1 c := fun c hcm => by
    have e' : c = N + 1 ∨ c = N := by simpa using hcm
    have hle : s1.heap.objs.size ≤ c := by
      rw [hN]
      rcases e' with z | z
      · rw [z]; exact Nat.le_add_right _ _
      · rw [z]; exact Nat.le_refl _
    exact I1.fpOk hle (I1.hok.fresh hle)
  exact ⟨N + 1, [N + 1, N], enumTn k1 N, ItN (fun H => k1.ok X.K H xs) xs.length fun i => [.int (i : Nat), xs.getD i .non], H1, rfl, I2, turn_enum l1, ⟨⟨_, hz⟩, SK.st0 k1 hi1⟩, fresh5, q _ fun H' kp => o1.keep kp⟩
theorem di_enum {tpos : Pos} {elts : List Expr} {kk : Nat} (hm : X.mg "enumerate" = none) (ha : DE X E a f) (hg : Gl X "enumerate" := by rfl)
    (hs : starEach [a] X.env = [(false, eval a X.env)] := by rfl) :
    DI X E (.Tuple elts kk tpos) (.Call (.Name "enumerate" p) [a] [] pos) (enumI f) := by
  obtain ⟨t, pt, q⟩ := ha
  refine ⟨_, pi_enumM hg hm (pa_cons pt pa_nil hs) hs, fun σ H σd S ι R hE hS h => ?_⟩
  refine q σ H σd S ι _ hE hS (Wp.bind0 h fun d S1 _ v H1 ι1 p1 r1 h1 => ?_)
  split at h1
  · rename_i xs hx
    obtain ⟨vs, s1, al1, z1⟩ := srcV.of (S := S1) r1 hx
    refine ⟨v, vs, rfl, s1, fun Src hSrc => h1 _ _ _ p1 ?_⟩
    have e : (xs.zipIdx.map fun p => D.py (.tuple [.int (p.2 : Nat), p.1])) = (xs.zipIdx.map fun p => [PyData.int (p.2 : Nat), p.1]).map fun p => D.py (.tuple p) := by rw [List.map_map]; rfl
    rw [e]
    refine walk_new ?_ ?_ hSrc fun i pp hp => ?_
    · rw [List.length_map, List.length_zipIdx, al1.length]
    · rw [List.length_map, List.length_zipIdx]
      exact z1
    · rw [List.getElem?_map, Option.map_eq_some_iff] at hp
      obtain ⟨⟨x, j⟩, h3, rfl⟩ := hp
      rw [List.getElem?_zipIdx, Option.map_eq_some_iff] at h3
      obtain ⟨x', h4, h5⟩ := h3
      cases h5
      obtain ⟨v1, e1, r1⟩ := al1.getR h4
      refine ⟨by show 2 ≤ sizeLine; decide, ?_⟩
      rw [getD_of e1]
      simp only [Nat.zero_add]
      exact .cons (.int _) (.cons r1 .nil)
  · exact h1.elim
end
/-! ### zip of three -/
section
variable {X : Cx} {E : XK} {e a b c : Expr} {f g h : Ex} {pos p : Pos}
end
end DV

set_option maxHeartbeats 4000000
namespace DV
open PySem PySem.Spec PyProof.Rows L2
/-! Defs and their calls, errors raised. -/

/-! ### what a def has made for itself is forgotten -/
section
variable {K : PySem.W.Frag} {ι ι' : List Addr} {H H' : Hp} {S S' : Sto} {v : V} {d : D}
theorem Rd.back (p : ι <+: ι') (h : Rd K ι' H' v d) {v0 : V} (h0 : Rd K ι H v0 d) : Rd K ι H' v d := by
  cases h with
  | py h => exact .py h
  | obj e =>
    cases h0 with
    | obj e0 =>
      have := pre_get p e0
      rw [e] at this
      cases this
      exact .obj e0
  | raw a => exact .raw a
theorem RdAll.back (p : ι <+: ι') : ∀ {vs : List V} {ds : List D}, RdAll K ι' H' vs ds → ∀ {ws : List V}, RdAll K ι H ws ds → RdAll K ι H' vs ds
  | _, _, .nil, _, _ => .nil
  | _, _, .cons h hs, _, .cons h0 hs0 => .cons (h.back p h0) (RdAll.back p hs hs0)
theorem Rd.pure (h : Rd K ι' H' v d) (hp : d.pure = true) : Rd K ι H' v d := by
  cases h with
  | py h => exact .py h
  | obj e => cases hp
  | raw a => exact .raw a
theorem RdAll.pure : ∀ {vs : List V} {ds : List D}, RdAll K ι' H' vs ds → ds.all D.pure = true → RdAll K ι H' vs ds
  | _, _, .nil, _ => .nil
  | _, _, .cons h hs, e => by
    rw [List.all_cons, Bool.and_eq_true] at e
    exact .cons (h.pure e.1) (RdAll.pure hs e.2)
theorem tab_take {S : Sto} {n m : Nat} {o : O} (e : (S.take n)[m]? = some o) : S[m]? = some o := by
  rw [List.getElem?_take] at e
  split at e
  · exact e
  · cases e
theorem gc_post (p : Post K ι H ι' H' S') (hS : StR K ι H S) (hl : S.length ≤ S'.length) (hc : ∀ (i : Nat) (o : O), i < S.length → S'[i]? = some o → S[i]? = some o ∨ o.pure = true) : Post K ι H ι H' (S'.take S.length) := by
  refine ⟨List.prefix_refl _, p.keep, ⟨by rw [List.length_take, hS.len]; omega, hS.nd, fun n a e => p.sto.there n a (pre_get p.pre e), fun n o a e1 e2 => ?_, fun m P q e => p.sto.tb m P q (tab_take e)⟩, fun b vs m q => ⟨(p.frame b vs m q).1, m⟩, p.dom⟩
  have hn : n < S.length := by
    have := (List.getElem?_eq_some_iff.mp e1).1
    rw [List.length_take] at this
    omega
  rw [List.getElem?_take_of_lt hn] at e1
  have z := p.sto.at_ n o a e1 (pre_get p.pre e2)
  rcases hc n o hn e1 with h | h
  · have z0 := hS.at_ n o a h e2
    cases z with
    | gone => exact .gone
    | tab => exact .tab
    | dt a b c => exact .dt a b c
    | dk a b c => exact .dk a b c
    | ins hc a b rr =>
      cases z0 with
      | ins hc0 a0 b0 rr0 => exact .ins hc a b (RdAll.back p.pre rr rr0)
    | tpl a rr =>
      cases z0 with
      | tpl a0 rr0 => exact .tpl a (RdAll.back p.pre rr rr0)
    | lst ha rr =>
      cases z0 with
      | lst ha0 rr0 => exact .lst ha (RdAll.back p.pre rr rr0)
  · cases z with
    | gone => exact .gone
    | tab => exact .tab
    | dt a b c => exact .dt a b c
    | dk a b c => exact .dk a b c
    | ins hc a b rr => exact .ins hc a b (RdAll.pure rr (by
        rw [List.all_map]
        exact h))
    | tpl a rr => exact .tpl a (RdAll.pure rr h)
    | lst ha rr => exact .lst ha (RdAll.pure rr h)
theorem Wp.gcI {mg : Str → Option Value} {E : XK} {α β γ : Type} {rel : List Addr → Hp → α → β → Prop} {b : β} {P : Prop} {Q : α → Hp → Prop} (hS : StR K ι H S) (h : Wp K mg E ι H rel (gc P S S' fun T => R.ok b T) Q)
    (hr : ∀ a H' ι', ι <+: ι' → P → rel ι' H' a b → rel ι H' a b) : ∀ a H' ι', Post K ι H ι' H' S' → rel ι' H' a b → Q a H' := by
  intro a H1 ι1 p r
  unfold gc at h
  split at h
  · rename_i hc
    exact h a H1 ι (gc_post p hS hc.2.1 hc.2.2) (hr a H1 ι1 p.pre hc.1 r)
  · exact h a H1 ι1 p r
theorem WpF.fn {mg : Str → Option Value} {E : XK} {r : F} {Q : VK} (hS : StR K ι H S) (h : Wp K mg E ι H (relD K) (fnR S r) Q) : WpF K mg E ι H r { nx := fun _ H' => Q .non H', rt := Q } := by
  cases r with
  | nx σd S' =>
    intro σ' H1 ι1 p _
    exact Wp.gcI (γ := Unit) (rel := relD K) hS h (fun a H' ι' _ _ r => r.pure rfl) .non H1 ι1 p (.py .non)
  | rt d S' =>
    intro v H1 ι1 p r
    exact Wp.gcI (γ := Unit) (rel := relD K) hS h (fun a H' ι' _ hp r => r.pure hp) v H1 ι1 p r
  | ex c S' =>
    intro H1 ι1 p
    unfold fnR gc at h
    simp only at h
    split at h
    · rename_i hc
      exact h H1 ι (gc_post p hS hc.2.1 hc.2.2)
    · exact h H1 ι1 p
  | bk σ S' => exact h.elim
  | ct σ S' => exact h.elim
  | no => exact h.elim
theorem init_rel (N : List Str) {vs : List V} {ds : List D} (r : RdAll K ι H vs ds) : EnR K ι H (start N vs) (init N.length ds) := by
  unfold L2.start init
  refine ⟨by simp [r.length], fun i d e => ?_⟩
  by_cases hi : i < ds.length
  · rw [List.getElem?_append_left (by simpa using hi)] at e
    rw [List.getElem?_map, Option.map_eq_some_iff] at e
    obtain ⟨d', h1, h2⟩ := e
    cases h2
    obtain ⟨v, hv, rv⟩ := Paired.getR r h1
    exact ⟨v, by rw [List.getElem?_append_left (by simpa [r.length] using hi), List.getElem?_map, hv]; rfl, rv⟩
  · rw [List.getElem?_append_right (by simpa using hi)] at e
    have := List.mem_of_getElem? e
    rw [List.mem_replicate] at this
    cases this.2
end

/-- the promise of a def: it does what F says upon data -/
def spD (K : PySem.W.Frag) (mg : Str → Option Value) (n : Nat) (F : List D → Sto → R D) : Sp := fun vs H Q E => vs.length = n ∧ ∃ ι S ds, StR K ι H S ∧ RdAll K ι H vs ds ∧ Wp K mg E ι H (relD K) (F ds S) Q
structure FnD (P : Program) (w : World) (K : PySem.W.Frag) (mg : Str → Option Value) (base : Heap) (k : Nat) (f : Addr) (fd : FuncData) (ps : List Str) (F : List D → Sto → R D) : Prop where
  run : ∀ (A : Around) (outer : List Env) (s : Shared) (H : Hp) (args : Args) (us : List Value) (vs : List V) (Q : VK) (E : XK), Room k A → A.guards = some [] → Env0 P w K mg base A outer s H → BindsTo s fd args (ps.zip us) → Vals vs us → spD K mg ps.length F vs H Q E →
    codeAny (model P w) A (.call (.ref f) args) (CR (L2.CX P w) outer P w H s Q E) s
theorem FnD.mono {P : Program} {w : World} {K : PySem.W.Frag} {mg : Str → Option Value} {base : Heap} {j k : Nat} {f : Addr} {fd : FuncData} {ps : List Str} {F : List D → Sto → R D} (h : FnD P w K mg base j f fd ps F) (hl : j ≤ k) : FnD P w K mg base k f fd ps F :=
  ⟨fun A outer s H args us vs Q E hr => h.run A outer s H args us vs Q E (hr.mono hl)⟩
section
variable {P : Program} {w : World} {K : PySem.W.Frag} {mg : Str → Option Value} {base : Heap}
/-- the context of a def's body is fit -/
theorem okx_def {N ps : List Str} {qual : Str} {sc : Scope} {f : Addr} {cdv : Value} {A : Around} {outer : List Env} {s : Shared} {H : Hp} {E : XK} {k : Nat} (S : FnScope N ps sc) (hr : Room (k + 1) A) (hg : A.guards = some []) :
    Okx k (cxOf (L2.CX P w) P w K mg base N qual sc f cdv A outer s H E) E where
  calm := rfl
  nd := S.nd
  room := hr.deeper _
  gd := hg
  take := takes_of rfl rfl rfl rfl
  pass := passes_call (takes_of rfl rfl rfl rfl) fun _ _ _ _ h => h
  own := passes_of rfl
theorem dfn {x qual : Str} {st : Stmt} {f : Addr} {fd : FuncData} {N ps : List Str} {k : Nat} {b : Sx} (F : L2.Fun K x qual st f fd) (S : FnScope N ps (defScope st))
    (hbody : ∀ (cdv : Value) (A : Around) (outer : List Env) (s : Shared) (H : Hp) (E : XK), Okx k (cxOf (L2.CX P w) P w K mg base N qual (defScope st) f cdv A outer s H E) E →
      DSs (cxOf (L2.CX P w) P w K mg base N qual (defScope st) f cdv A outer s H E) E (defBody st) b) : FnD P w K mg base (k + 1) f fd ps (fnF N.length b) := by
  obtain ⟨oc, od, kV, doc, pm, an, cdv, ct, osl, rfl, lk, hcd⟩ := F.ex
  refine ⟨fun A outer s H args us vs Q E hr hg e0 hb r hsp => ?_⟩
  obtain ⟨hl, ι, Sd, ds, hS, rr, hw⟩ := hsp
  have KX : K.In s.heap := e0.mod.kin.keeps fun b o e => (e0.bs b o e).1
  have lim : s.heap.NoLimit := e0.mod.nolimit.keeps fun b o e => (e0.bs b o e).1
  have hkind : ∀ y ∈ ps.zip us, (defScope st).names.lookup y.1 = some .local ∨ ((defScope st).names.lookup y.1 = some .cell ∧ ((cellsFrom (s.heap.objs.size + 1) (defScope st).names []).lookup y.1).isSome = true) := fun ⟨n, v⟩ hy => by
    rcases S.par n (List.of_mem_zip hy).1 with q | q
    · exact .inl q
    · exact .inr ⟨q, PySem.W.cellsFrom_some _ _ _ (.inl q)⟩
  refine codeAny_call_function hr.depth (KX _ _ lk) rfl S.co S.gen rfl (PySem.W.codeRec_of KX hcd) (hb _ _ _ _ ?_)
  refine wpAny_newFunctionEnv_cells S.kind hkind fun env he s1 xx => ?_
  subst he
  refine ⟨lim.keeps xx.toInCall.keep, codeAny_func ?_⟩
  obtain ⟨t, ht, hq⟩ := hbody cdv A outer s H E (okx_def S hr hg)
  have I : Inv (cxOf (L2.CX P w) P w K mg base N qual (defScope st) f cdv A outer s H E) [] (start N vs) H s1 := inv_start S hr.hd e0 hl r xx
  refine wpAny_mono (ht.run [] s1 (start N vs) H _ I (hq _ _ _ _ _ _ (init_rel N rr) hS (WpF.fn hS hw))) (fun fl s' hs => ?_) fun e s' hs => hs
  have fin : ∀ {σ' : L2.St} {H' : Hp} {v : V} {u : Value}, Inv (cxOf (L2.CX P w) P w K mg base N qual (defScope st) f cdv A outer s H E) [] σ' H' s' → RelV v u → Q v H' → CE outer P w H s Q u s' :=
    fun {σ' H' v u} J rv q => ⟨v, H', J.os, J.bare, J.base, J.hok, rv, q⟩
  cases fl with
  | ret u =>
    obtain ⟨v, σ', H', J, rv, q⟩ := hs
    exact fin J rv q
  | next =>
    obtain ⟨σ', H', J, q⟩ := hs
    exact fin (v := V.non) (u := Value.none) J rfl q
  | brk =>
    obtain ⟨_, _, _, q⟩ := hs
    exact False.elim q
  | cont =>
    obtain ⟨_, _, _, q⟩ := hs
    exact False.elim q
end

/-! ### calls -/
section
variable {X : Cx} {E : XK} {k j : Nat} {e : Expr} {f : Addr} {es : List Expr} {fs : Ax} {pos p : Pos} {x : Str} {fd : FuncData} {ps : List Str} {F : List D → Sto → R D}
theorem run_fnD {pins : List (Addr × Obj)} {σ : L2.St} {H : Hp} {s : Shared} {Q : VK} {us : List Value} {vs : List V} (o : Okx k X E) (hF : FnD X.prog X.w X.K X.mg X.base j f fd ps F) (hj : j ≤ k) (hb : Binds X.K fd ps []) (I : Inv X pins σ H s) (r : Vals vs us) (h : spD X.K X.mg ps.length F vs H Q E) :
    wpAny (model X.prog X.w) X.A (call (.ref f) us) (EP X pins σ Q) X.xe s := by
  have hl : us.length = ps.length := by rw [← r.length]; exact h.1
  have b := hb s us I.kIn (by rw [List.append_nil]; exact hl)
  rw [List.append_nil] at b
  refine wpAny_call (codeAny_mono (hF.run X.A X.stack s H ⟨us, []⟩ us vs Q E (o.room.mono hj) o.gd I.env0 b r h) fun r s' hq => ?_)
  cases r with
  | error e => exact o.pass pins σ H s e s' I hq
  | ok fl =>
    cases fl with
    | ret u => exact I.after hq
    | next => exact False.elim hq
    | brk => exact False.elim hq
    | cont => exact False.elim hq
/-- where a def of the top stands -/
structure At (K : PySem.W.Frag) (mg : Str → Option Value) (x : Str) (f : Addr) (fd : FuncData) (ps : List Str) : Prop where
  g : mg x = some (.ref f)
  kp : PySem.W.keepIn K (.ref f) = true
  b : Binds K fd ps []
theorem de_call (o : Okx k X E) (hF : FnD X.prog X.w X.K X.mg X.base j f fd ps F) (at_ : At X.K X.mg x f fd ps) (hj : j ≤ k) (ha : DA X E (e :: es) fs) (hn : (e :: es).length = ps.length := by rfl) (hg : Gl X x := by rfl) (hdb : (x == ("__debug__" : Str)) = false := by decide)
    (he : starEach (e :: es) X.env = (false, eval e X.env) :: starEach es X.env := by rfl) (hpl : (backTo pos (starEach es X.env)).any (·.1) = false := by rfl) : DE X E (.Call (.Name x p) (e :: es) [] pos) (callE F fs) := by
  obtain ⟨l, t, pt, q⟩ := ha
  refine ⟨tCall (spD X.K X.mg ps.length F) [] E t, ⟨fun pins s σ H Q I h => ?_⟩, fun σ H σd S ι Q hE hS h => ?_⟩
  · refine wpAny_Call_Name_kw (ld_glob I hg at_.g ?_ hdb)
    refine PySem.W.callWith_K (h₀ := X.base) I.ok.mod.kin at_.kp (thn (pt.run pos pins s σ H _ I h) fun us s1 ⟨vs, H1, I1, r, q⟩ => ⟨I1.kIn, ?_⟩) he hpl
    have q' : spD X.K X.mg ps.length F (vs ++ []) H1 Q E := q
    rw [List.append_nil] at q'
    exact run_fnD o hF hj at_.b I1 r q'
  · refine q σ H σd S ι _ hE hS (Wp.bind h fun ds S1 e1 vs H1 ι1 p1 r1 h1 => ?_)
    rw [List.append_nil]
    exact ⟨by rw [r1.length, l _ _ _ _ e1, hn], ι1, S1, ds, p1.sto, r1, h1⟩
/-! ### errors -/
abbrev veTail : List Value := [.type "ValueError", .type "Exception", .type "BaseException", .type "object"]
structure ExcAt (K : PySem.W.Frag) (mg : Str → Option Value) (x : Str) (C : Addr) : Prop where
  g : mg x = some (.ref C)
  x : PySem.W.excIn K C veTail "ValueError.__new__" = true
  k : PySem.W.keepIn K (.ref C) = true
  b : PySem.W.subIn K (.ref C) (.type "BaseException") = some true
  t : PySem.W.typeIn K (.ref C) = some (.type "type")
theorem ds_raise {C : Addr} {m : Str} {jj : Nat} {p2 : Pos} (o : Okx k X E) (h : ExcAt X.K X.mg x C) (hg : Gl X x := by rfl) (hdb : (x == ("__debug__" : Str)) = false := by decide) : DS X E (.Raise (some (.Call (.Name x p) [.Constant (.str m) jj p2] [] pos)) none pos') (raiseS x) := by
  refine ⟨_, ps_raise o.calm o.take (pmk_own PySem.F.excBase_ValueError h.x h.g h.k (raises_own h.b h.t) hg hdb), fun σ H σd S ι N hE hS hw => ?_⟩
  have e : clsV X.mg x = .ref C := by unfold clsV; rw [h.g]; rfl
  have := hw H ι (.refl hS)
  rw [e] at this
  exact this
end
end DV

set_option maxHeartbeats 4000000
namespace DV
open PySem PySem.Spec PyProof.Rows L2
/-! The law's own call. -/
theorem cx_false {P : Program} {w : World} {l : List Env} {H : Hp} {s : Shared} {e : Value} {s' : Shared} (h : L2.CX P w l H s (fun _ _ _ => False) e s') : False := by
  obtain ⟨_, _, _, _, _, _, _, _, _, _, _, _, z⟩ := h
  exact z
theorem ints_pp {K : PySem.W.Frag} {H : Hp} : ∀ ns : List Int, PpAll K H (ns.map V.int) (ns.map PyData.int)
  | [] => .nil
  | n :: ns => .cons (.int n) (ints_pp ns)
/-- the law run at the heap H, the script alone being known to it -/
theorem law_at {P : Program} {w : World} {K : PySem.W.Frag} {mg : Str → Option Value} {base : Heap} {k : Nat} {fa a : Addr} {fd : FuncData} {x : Str} {F : List D → Sto → R D} {s : Shared} {ns : List Int} {H : Hp}
    (hF : FnD P w K mg base k fa fd [x] F) (hr : Room k callerA) (e0 : Env0 P w K mg base callerA [] s H) (hb : ∀ (s : Shared) (u : Value), BindsTo s fd ⟨[u], []⟩ [(x, u)]) (hl : ns.length ≤ sizeLine)
    (hS : FL K H a (ns.map V.int)) (res : ∃ S', F [.py (.list (ns.map .int))] [] = .ok (.py (.bool true)) S') :
    codeAny (model P w) callerA (.call (.ref fa) ⟨[.ref a], []⟩) (fun r s' => r = .ok (.ret (.bool true)) ∧ s'.os = s.os ∧ AllBare s'.gens ∧ ∃ H', Un [] [] H H' s.heap s'.heap ∧ HOk P w H' s'.heap) s := by
  obtain ⟨S', hres⟩ := res
  have hsp : spD K mg 1 F [.ref a] H (fun v _ => v = .bl true) fun _ _ _ => False := by
    refine ⟨rfl, [], [], [.py (.list (ns.map .int))], ⟨rfl, List.nodup_nil, fun n a e => by simp at e, fun n o a e => by simp at e, fun n P q e => by simp at e⟩, .cons (.py (.lst hS (by rw [List.length_map]; exact hl) (ints_pp ns))) .nil, ?_⟩
    rw [hres]
    exact fun v H' ι' _ r => bool_of r
  refine codeAny_mono (hF.run callerA [] s H ⟨[.ref a], []⟩ [.ref a] [.ref a] _ _ hr rfl e0 (hb s (.ref a)) (.cons rfl .nil) hsp) fun r s' h => ?_
  match r, h with
  | .error e, h => exact (cx_false h).elim
  | .ok .next, h => exact h.elim
  | .ok .brk, h => exact h.elim
  | .ok .cont, h => exact h.elim
  | .ok (.ret u), ⟨v, H', os, bare, un, hok, rv, q⟩ =>
    have q' : v = .bl true := q
    subst q'
    have e : u = Value.bool true := rv
    exact ⟨by rw [e], os, bare, H', un, hok⟩
/-- what the head leaves, with nothing tracked but a script that is no object of the module -/
theorem law_callD {P : Program} {w : World} {K : PySem.W.Frag} {mg mb : Str → Option Value} {k : Nat} {fa a : Addr} {fd : FuncData} {x : Str} {F : List D → Sto → R D} {s : Shared} {vs : List Value} {ns : List Int}
    (KX : K.In s.heap) (hns : s.heap.Ns mainGlobals mg) (hb : s.heap.Ns builtinsNs mb) (hbb : ∀ x : Str, x ≠ "__name__" → mb x = bootBuiltins x) (hlim : s.heap.NoLimit) (hg : s.gens = #[])
    (ha : s.heap.get? a = some { cls := .type "list", data := .seq vs.toArray }) (hi : IntsAre vs ns) (hl : ns.length ≤ sizeLine) (hr : Room k callerA)
    (hF : ∀ base : Heap, K.In base → base.Ns mainGlobals mg → FnD P w K mg base k fa fd [x] F) (hbind : ∀ (s : Shared) (u : Value), BindsTo s fd ⟨[u], []⟩ [(x, u)])
    (res : ∃ S', F [.py (.list (ns.map .int))] [] = .ok (.py (.bool true)) S') :
    codeAny (model P w) callerA (.call (.ref fa) ⟨[.ref a], []⟩) (fun r s' => r = .ok (.ret (.bool true)) ∧ OldK s.heap s'.heap ∧ s'.os = s.os ∧ AllBare s'.gens) s := by
  have rv := vals_ints hi
  have step : ∀ H : Hp, FL K H a (ns.map V.int) → HOk P w H s.heap → (∀ b u, H b = some u → b = a ∧ ∃ o xs, u = .frz o (.lst xs)) → (∀ u, H a = some u → K.lookup a = none) →
      codeAny (model P w) callerA (.call (.ref fa) ⟨[.ref a], []⟩) (fun r s' => r = .ok (.ret (.bool true)) ∧ OldK s.heap s'.heap ∧ s'.os = s.os ∧ AllBare s'.gens) s := by
    intro H hS hok hA hK
    have free : ∀ {b : Addr} {o : Obj}, s.heap.get? b = some o → b ≠ a → H b = none := fun {b o} _ ne => by
      cases q : H b with
      | none => rfl
      | some u => exact absurd (hA b u q).1 ne
    have nsK : ∀ {b : Addr} {m : Str → Option Value}, s.heap.Ns b m → (hidT s.heap H).Ns b m := fun {b m} hn => by
      obtain ⟨o, es, ep, e, d, r⟩ := hn
      refine ⟨o, es, ep, hidT_get e (free e fun z => ?_), d, r⟩
      rw [z, ha] at e
      cases e
      cases d
    have hKb : K.In (hidT s.heap H) := fun b o e => hidT_get (KX b o e) (by
      cases q : H b with
      | none => rfl
      | some u =>
        have z := (hA b u q).1
        rw [z] at e q
        rw [hK u q] at e
        cases e)
    have hM : Mod K mg (hidT s.heap H) := ⟨hKb, nsK hns, ⟨mb, nsK hb, hbb⟩, by obtain ⟨mc, h1, h2⟩ := hlim; exact ⟨mc, nsK h1, h2⟩⟩
    have e0 : Env0 P w K mg (hidT s.heap H) callerA [] s H :=
      { frames := rfl, mod := hM, bs := fun b o e => of_hidT e, bsz := Nat.le_of_eq (hidT_size _ _), funs := trivial, frf := fun b hb => (by cases hb), hok := hok, bare := .of_eq hg }
    refine codeAny_mono (law_at (hF _ hKb (nsK hns)) hr e0 hbind hl hS res) fun r s' h => ?_
    obtain ⟨rfl, os, bare, H', un, hok'⟩ := h
    refine ⟨rfl, OldK.of_keep fun b o e => ?_, os, bare⟩
    cases q : H b with
    | none => exact un.keep b o e q (by simp) (by simp)
    | some u =>
      obtain ⟨_, ob, xs, rfl⟩ := hA b u q
      have e1 := (hok b _ q).1
      have e2 := (hok' b _ (un.frzs b ob _ q)).1
      rw [e] at e1
      cases e1
      exact e2
  cases hk : K.lookup a with
  | some o =>
    have e := KX a o hk
    rw [ha] at e
    cases e
    exact step (fun _ => none) (.inr ⟨_, vs.toArray, _, hk, rfl, rfl, rfl, rfl, by rw [List.size_toArray, hi.length]; exact hl, by simpa using rv⟩) (fun b u z => by cases z) (fun b u z => by cases z) fun u z => by cases z
  | none =>
    have at_ : ∀ b u, (fun b => if b = a then some (HO.frz { cls := .type "list", data := .seq vs.toArray } (.lst (ns.map V.int))) else none) b = some u → b = a ∧ u = .frz { cls := .type "list", data := .seq vs.toArray } (.lst (ns.map V.int)) := fun b u z => by
      by_cases q : b = a
      · simp only [q, if_true] at z
        cases z
        exact ⟨q, rfl⟩
      · simp only [q, if_false] at z
        cases z
    refine step _ (.inl ⟨_, if_pos rfl⟩) (fun b u z => ?_) (fun b u z => ⟨(at_ b u z).1, _, _, (at_ b u z).2⟩) fun _ _ => hk
    obtain ⟨rfl, rfl⟩ := at_ b u z
    exact ⟨ha, by rw [List.length_map]; exact hl, vs, _, rv, ha⟩
/-- the goal that the head leaves -/
theorem walk_ofD {l : PySem.W.OpenLaw} {n k : Nat} {q : Program} {loose : List Str} {XP : (Str → Option Value) → Heap → Prop} {YP : World → Heap → Prop} {d : DefRec} {K : Params → PySem.W.Frag} {F : List D → Sto → R D} {x : Str}
    (hn : l.most = some n) (hn2 : n ≤ sizeLine) (hdf : d.params.defaults = []) (hr : Room k callerA) (hY : ∀ (w : World) (h : Heap), YP w h → (K w.params).In h)
    (hF : ∀ (w : World) (mg : Str → Option Value) (fa : Addr) (h : Heap), (K w.params).In h → h.Ns mainGlobals mg → mg d.name = some (.ref fa) →
      ∃ fd : FuncData, (∀ (s : Shared) (u : Value), BindsTo s fd ⟨[u], []⟩ [(x, u)]) ∧ ∀ base : Heap, (K w.params).In base → base.Ns mainGlobals mg → FnD l.prog w (K w.params) mg base k fa fd [x] F)
    (res : ∀ ns : List Int, ns.length ≤ n → ∃ S', F [.py (.list (ns.map .int))] [] = .ok (.py (.bool true)) S') :
    PySem.W.WalkO q loose XP YP l.row.toRowW d [] (fun f vs => PySem.call f vs) := by
  refine Att.attach_call hn hdf fun w s₀ s₁ mg mb fa o pm cd doc a vs ns G Y ho hd hcd hmg hobj hints hlen hg => ?_
  have KX := hY w _ Y
  obtain ⟨fd, hb, h⟩ := hF w mg fa _ KX G.T.g hmg
  exact law_callD KX G.T.g G.T.b G.T.builtins G.T.nolimit hg hobj hints (Nat.le_trans hlen hn2) hr h hb (res ns hlen)
end DV

set_option maxHeartbeats 4000000
namespace DV
open PySem PySem.Spec PyProof.Rows L2 PySem.SeqAt
open AutoSeq1 (wpAny_loadPart')
open MeetsSeq
/-! A text and a dict are unlike. -/
theorem dv_str_eq_dict (b : Str) (u : Tok) (l : Addr) (c : Value) (es : Array DictEntry) (n : Nat) (dd : Option Addr) (sl : Array (Option Value)) :
    Meets (Builtin.«str.__eq__» ⟨[.str b u, .ref l], []⟩) (fun _ R s => s.heap.get? l = some { cls := c, dict := dd, data := .dict es n, slots := sl } ∧ R (.ok (.ret .notImplemented)) s) :=
  .of_wp fun prog w A R s h => by obtain ⟨hp, g, d, tk, os⟩ := s; obtain ⟨hl, h⟩ := h; wp_walk using wpAny_loadPart' hl, wpAny_load hl; exact ⟨_, rfl, h⟩
theorem dv_dict_eq_str (l : Addr) (es : Array DictEntry) (n : Nat) (dd : Option Addr) (sl : Array (Option Value)) (b : Str) (u : Tok) :
    Meets (Builtin.«dict.__eq__» ⟨[.ref l, .str b u], []⟩) (fun _ R s => s.heap.get? l = some { cls := .type "dict", dict := dd, data := .dict es n, slots := sl } ∧ R (.ok (.ret .notImplemented)) s) :=
  .of_wp fun prog w A R s h => by obtain ⟨hp, g, d, tk, os⟩ := s; obtain ⟨hl, h⟩ := h; have f1 := PySem.F.sub_str_dict; wp_walk using wpAny_loadPart' hl; exact ⟨_, rfl, h⟩
theorem dv_str_ne_dict (b : Str) (u : Tok) (l : Addr) (c : Value) (es : Array DictEntry) (n : Nat) (dd : Option Addr) (sl : Array (Option Value)) :
    Meets (Builtin.«str.__ne__» ⟨[.str b u, .ref l], []⟩) (fun _ R s => s.heap.get? l = some { cls := c, dict := dd, data := .dict es n, slots := sl } ∧ R (.ok (.ret .notImplemented)) s) :=
  .of_wp fun prog w A R s h => by obtain ⟨hp, g, d, tk, os⟩ := s; obtain ⟨hl, h⟩ := h; wp_walk using wpAny_loadPart' hl, wpAny_load hl; exact ⟨_, rfl, h⟩
theorem dv_dict_ne_str (l : Addr) (es : Array DictEntry) (n : Nat) (dd : Option Addr) (sl : Array (Option Value)) (b : Str) (u : Tok) :
    Meets (Builtin.«dict.__ne__» ⟨[.ref l, .str b u], []⟩) (fun _ R s => s.heap.get? l = some { cls := .type "dict", dict := dd, data := .dict es n, slots := sl } ∧ R (.ok (.ret .notImplemented)) s) :=
  .of_wp fun prog w A R s h => by obtain ⟨hp, g, d, tk, os⟩ := s; obtain ⟨hl, h⟩ := h; have f1 := PySem.F.sub_str_dict; wp_walk using wpAny_loadPart' hl; exact ⟨_, rfl, h⟩
section
variable {A : Around} {s : Shared} {l : Addr} {dd : Option Addr} {es : Array DictEntry} {n : Nat} {sl : Array (Option Value)}
theorem rc_str_dict (b : Str) (u : Tok) (ho : s.heap.get? l = some { cls := .type "dict", dict := dd, data := .dict es n, slots := sl }) (hu : A.units < cLine) : RcAt A s (.str b u) (.ref l) false := fun prog w E Q h =>
  rc_eq_decline_or (k := false) (typeIs_str s b u) ⟨_, ho, rfl⟩ (by decide) PySem.F.sub_dict_str PySem.F.slot_str_eq PySem.F.slot_dict_eq_refl
    (fun _ hq => call_meets PySem.F.slot_str_eq (typeIs_str s b u) PySem.F.entry_str_eq (PySem.F.args_str_eq_2 _ _) (dv_str_eq_dict b u l (.type "dict") es n dd sl) ⟨ho, hq⟩)
    (fun _ hq => call_meets PySem.F.slot_dict_eq_refl ⟨_, ho, rfl⟩ PySem.F.entry_dict_eq (PySem.F.args_dict_eq_2 _ _) (dv_dict_eq_str l es n dd sl b u) ⟨ho, hq⟩)
    (fun _ hq => wpAny_of_eq (rfl : isSame (.str b u) (.ref l) = pure false) hq) (.inr hu) h
theorem rc_dict_str (b : Str) (u : Tok) (ho : s.heap.get? l = some { cls := .type "dict", dict := dd, data := .dict es n, slots := sl }) (hu : A.units < cLine) : RcAt A s (.ref l) (.str b u) false := fun prog w E Q h =>
  rc_eq_decline_or (k := false) ⟨_, ho, rfl⟩ (typeIs_str s b u) (by decide) PySem.F.sub_str_dict PySem.F.slot_dict_eq PySem.F.slot_str_eq_refl
    (fun _ hq => call_meets PySem.F.slot_dict_eq ⟨_, ho, rfl⟩ PySem.F.entry_dict_eq (PySem.F.args_dict_eq_2 _ _) (dv_dict_eq_str l es n dd sl b u) ⟨ho, hq⟩)
    (fun _ hq => call_meets PySem.F.slot_str_eq_refl (typeIs_str s b u) PySem.F.entry_str_eq (PySem.F.args_str_eq_2 _ _) (dv_str_eq_dict b u l (.type "dict") es n dd sl) ⟨ho, hq⟩)
    (fun _ hq => wpAny_of_eq (rfl : isSame (.ref l) (.str b u) = pure false) hq) (.inr hu) h
theorem rn_str_dict (b : Str) (u : Tok) (ho : s.heap.get? l = some { cls := .type "dict", dict := dd, data := .dict es n, slots := sl }) (hu : A.units < cLine) : RcNeAt A s (.str b u) (.ref l) true := fun prog w E Q h =>
  rc_ne_decline_or (k := false) (typeIs_str s b u) ⟨_, ho, rfl⟩ (by decide) PySem.F.sub_dict_str PySem.F.slot_str_ne PySem.F.slot_dict_ne_refl
    (fun _ hq => call_meets PySem.F.slot_str_ne (typeIs_str s b u) PySem.F.entry_str_ne (PySem.F.args_str_ne_2 _ _) (dv_str_ne_dict b u l (.type "dict") es n dd sl) ⟨ho, hq⟩)
    (fun _ hq => call_meets PySem.F.slot_dict_ne_refl ⟨_, ho, rfl⟩ PySem.F.entry_dict_ne (PySem.F.args_dict_ne_2 _ _) (dv_dict_ne_str l es n dd sl b u) ⟨ho, hq⟩)
    (fun _ hq => wpAny_of_eq (rfl : isSame (.str b u) (.ref l) = pure false) hq) (.inr hu) h
theorem rn_dict_str (b : Str) (u : Tok) (ho : s.heap.get? l = some { cls := .type "dict", dict := dd, data := .dict es n, slots := sl }) (hu : A.units < cLine) : RcNeAt A s (.ref l) (.str b u) true := fun prog w E Q h =>
  rc_ne_decline_or (k := false) ⟨_, ho, rfl⟩ (typeIs_str s b u) (by decide) PySem.F.sub_str_dict PySem.F.slot_dict_ne PySem.F.slot_str_ne_refl
    (fun _ hq => call_meets PySem.F.slot_dict_ne ⟨_, ho, rfl⟩ PySem.F.entry_dict_ne (PySem.F.args_dict_ne_2 _ _) (dv_dict_ne_str l es n dd sl b u) ⟨ho, hq⟩)
    (fun _ hq => call_meets PySem.F.slot_str_ne_refl (typeIs_str s b u) PySem.F.entry_str_ne (PySem.F.args_str_ne_2 _ _) (dv_str_ne_dict b u l (.type "dict") es n dd sl) ⟨ho, hq⟩)
    (fun _ hq => wpAny_of_eq (rfl : isSame (.ref l) (.str b u) = pure false) hq) (.inr hu) h
end
/-- one is a text, the other one a dict -/
def TxDk (H : Hp) (x y : V) : Prop := (∃ z a o kvs, x = .str z ∧ y = .ref a ∧ H a = some (.frz o (.dK kvs))) ∨ ∃ z a o kvs, x = .ref a ∧ y = .str z ∧ H a = some (.frz o (.dK kvs))
theorem dk_obj {X : Cx} {pins : List (Addr × Obj)} {σ : L2.St} {H : Hp} {s : Shared} (I : Inv X pins σ H s) {a : Addr} {o : Obj} {kvs : List (Key × V)} (e : H a = some (.frz o (.dK kvs))) : ∃ es n, s.heap.get? a = some { cls := .type "dict", dict := none, data := .dict es n, slots := #[] } := by
  obtain ⟨_, _, vs, _, ⟨⟨c, d, dt, sl⟩, es, ep, ho, ⟨hc, hn, hs⟩, hd, _⟩⟩ := dk_rd I.hok (.inr ⟨o, e⟩)
  simp only at hc hn hs hd
  subst hc hn hs hd
  exact ⟨es, ep, ho⟩
theorem op_eqSD {X : Cx} (hu : X.A.units + 64 < cLine) : OpR X (compareOp .Eq) (fun x y H Q => TxDk H x y ∧ Q (.bl false) H) := by
  intro pins s σ H x y v u Q I rx ry h
  obtain ⟨h, q⟩ := h
  rcases h with ⟨z, a, o, kvs, rfl, rfl, e⟩ | ⟨z, a, o, kvs, rfl, rfl, e⟩
  · obtain ⟨t, rfl⟩ := rx
    cases ry
    obtain ⟨es, n, ho⟩ := dk_obj I e
    exact rc_str_dict z t ho (by omega) X.prog X.w _ _ ⟨.bl _, H, I, rfl, q⟩
  · obtain ⟨t, rfl⟩ := ry
    cases rx
    obtain ⟨es, n, ho⟩ := dk_obj I e
    exact rc_dict_str z t ho (by omega) X.prog X.w _ _ ⟨.bl _, H, I, rfl, q⟩
theorem op_neSD {X : Cx} (hu : X.A.units + 64 < cLine) : OpR X (compareOp .NotEq) (fun x y H Q => TxDk H x y ∧ Q (.bl true) H) := by
  intro pins s σ H x y v u Q I rx ry h
  obtain ⟨h, q⟩ := h
  rcases h with ⟨z, a, o, kvs, rfl, rfl, e⟩ | ⟨z, a, o, kvs, rfl, rfl, e⟩
  · obtain ⟨t, rfl⟩ := rx
    cases ry
    obtain ⟨es, n, ho⟩ := dk_obj I e
    exact rn_str_dict z t ho (by omega) X.prog X.w _ _ ⟨.bl _, H, I, rfl, q⟩
  · obtain ⟨t, rfl⟩ := ry
    cases rx
    obtain ⟨es, n, ho⟩ := dk_obj I e
    exact rn_dict_str z t ho (by omega) X.prog X.w _ _ ⟨.bl _, H, I, rfl, q⟩
/-- surely unlike, whatever stands within -/
def Off (K : PySem.W.Frag) (H : Hp) (x y : V) : Prop := TxDk H x y ∨ (∃ z a xs, x = .str z ∧ y = .ref a ∧ (SqL K H a xs ∨ SqT K H a xs)) ∨ (∃ z a xs, x = .ref a ∧ y = .str z ∧ (SqL K H a xs ∨ SqT K H a xs)) ∨
  (∃ a b xs ys, x = .ref a ∧ y = .ref b ∧ SqT K H a xs ∧ SqT K H b ys ∧ (xs = [] ∨ ys = []) ∧ xs.length ≠ ys.length) ∨ ∃ a b xs ys, x = .ref a ∧ y = .ref b ∧ SqL K H a xs ∧ SqL K H b ys ∧ xs.length ≠ ys.length
theorem op_eqOff {X : Cx} (hu : X.A.units + 64 < cLine) : OpR X (compareOp .Eq) (fun x y H Q => Off X.K H x y ∧ Q (.bl false) H) := by
  intro pins s σ H x y v u Q I rx ry h
  obtain ⟨h, q⟩ := h
  rcases h with h | ⟨z, a, xs, rfl, rfl, e⟩ | ⟨z, a, xs, rfl, rfl, e⟩ | ⟨a, b, xs, ys, rfl, rfl, e1, e2, em, hl⟩ | ⟨a, b, xs, ys, rfl, rfl, e1, e2, hl⟩
  · exact op_eqSD hu pins s σ H x y v u Q I rx ry ⟨h, q⟩
  · obtain ⟨t, rfl⟩ := rx
    cases ry
    rcases e with e | e
    · obtain ⟨its, r, pl, hz⟩ := I.list e
      exact RcAt.str_list z t pl.isList (by omega) X.prog X.w _ _ ⟨.bl _, H, I, rfl, q⟩
    · obtain ⟨its, r, pl, hz⟩ := I.tuple e
      exact RcAt.str_tuple z t pl (by omega) X.prog X.w _ _ ⟨.bl _, H, I, rfl, q⟩
  · obtain ⟨t, rfl⟩ := ry
    cases rx
    rcases e with e | e
    · obtain ⟨its, r, pl, hz⟩ := I.list e
      exact RcAt.list_str z t pl.isList (by omega) X.prog X.w _ _ ⟨.bl _, H, I, rfl, q⟩
    · obtain ⟨its, r, pl, hz⟩ := I.tuple e
      exact RcAt.tuple_str z t pl (by omega) X.prog X.w _ _ ⟨.bl _, H, I, rfl, q⟩
  · cases rx
    cases ry
    obtain ⟨its, r, pl, hz⟩ := I.tuple e1
    obtain ⟨its2, r2, pl2, hz2⟩ := I.tuple e2
    have l1 := r.length
    have l2 := r2.length
    have hm : min its.toArray.size its2.toArray.size = 0 := by
      rw [List.size_toArray, List.size_toArray]
      rcases em with rfl | rfl
      · simp at l1; omega
      · simp at l2; omega
    have hz : (its.toArray.size == its2.toArray.size) = false := by
      rw [List.size_toArray, List.size_toArray, beq_eq_false_iff_ne]
      omega
    have := RcAt.tuples (e := fun _ => true) (A := X.A) pl pl2 (by omega) (fun j h1 h2 => absurd (Nat.lt_min.mpr ⟨h1, h2⟩) (by omega))
    rw [hz, Bool.and_false] at this
    exact this X.prog X.w _ _ ⟨.bl _, H, I, rfl, q⟩
  · cases rx
    cases ry
    obtain ⟨its, r, pl, hz⟩ := I.list e1
    obtain ⟨its2, r2, pl2, hz2⟩ := I.list e2
    have l1 := r.length
    have l2 := r2.length
    exact RcAt.lists_lengths pl.isList pl2.isList (by rw [List.size_toArray, List.size_toArray, bne_iff_ne]; omega) (by omega) X.prog X.w _ _ ⟨.bl _, H, I, rfl, q⟩
theorem op_neOff {X : Cx} (hu : X.A.units + 64 < cLine) : OpR X (compareOp .NotEq) (fun x y H Q => Off X.K H x y ∧ Q (.bl true) H) := by
  intro pins s σ H x y v u Q I rx ry h
  obtain ⟨h, q⟩ := h
  rcases h with h | ⟨z, a, xs, rfl, rfl, e⟩ | ⟨z, a, xs, rfl, rfl, e⟩ | ⟨a, b, xs, ys, rfl, rfl, e1, e2, em, hl⟩ | ⟨a, b, xs, ys, rfl, rfl, e1, e2, hl⟩
  · exact op_neSD hu pins s σ H x y v u Q I rx ry ⟨h, q⟩
  · obtain ⟨t, rfl⟩ := rx
    cases ry
    rcases e with e | e
    · obtain ⟨its, r, pl, hz⟩ := I.list e
      exact RcNeAt.str_list z t pl.isList (by omega) X.prog X.w _ _ ⟨.bl _, H, I, rfl, q⟩
    · obtain ⟨its, r, pl, hz⟩ := I.tuple e
      exact RcNeAt.str_tuple z t pl (by omega) X.prog X.w _ _ ⟨.bl _, H, I, rfl, q⟩
  · obtain ⟨t, rfl⟩ := ry
    cases rx
    rcases e with e | e
    · obtain ⟨its, r, pl, hz⟩ := I.list e
      exact RcNeAt.list_str z t pl.isList (by omega) X.prog X.w _ _ ⟨.bl _, H, I, rfl, q⟩
    · obtain ⟨its, r, pl, hz⟩ := I.tuple e
      exact RcNeAt.tuple_str z t pl (by omega) X.prog X.w _ _ ⟨.bl _, H, I, rfl, q⟩
  · cases rx
    cases ry
    obtain ⟨its, r, pl, hz⟩ := I.tuple e1
    obtain ⟨its2, r2, pl2, hz2⟩ := I.tuple e2
    have l1 := r.length
    have l2 := r2.length
    have hm : min its.toArray.size its2.toArray.size = 0 := by
      rw [List.size_toArray, List.size_toArray]
      rcases em with rfl | rfl
      · simp at l1; omega
      · simp at l2; omega
    have hz : (its.toArray.size == its2.toArray.size) = false := by
      rw [List.size_toArray, List.size_toArray, beq_eq_false_iff_ne]
      omega
    have := RcNeAt.tuples (e := fun _ => true) (A := X.A) pl pl2 (by omega) (fun j h1 h2 => absurd (Nat.lt_min.mpr ⟨h1, h2⟩) (by omega))
    rw [hz, Bool.and_false, Bool.not_false] at this
    exact this X.prog X.w _ _ ⟨.bl _, H, I, rfl, q⟩
  · cases rx
    cases ry
    obtain ⟨its, r, pl, hz⟩ := I.list e1
    obtain ⟨its2, r2, pl2, hz2⟩ := I.list e2
    have l1 := r.length
    have l2 := r2.length
    exact RcNeAt.lists_lengths pl.isList pl2.isList (by rw [List.size_toArray, List.size_toArray, bne_iff_ne]; omega) (by omega) X.prog X.w _ _ ⟨.bl _, H, I, rfl, q⟩
theorem eq_str_dict {A : Around} {s : Shared} {l : Addr} {dd : Option Addr} {es : Array DictEntry} {n : Nat} {sl : Array (Option Value)} (b : Str) (u : Tok)
    (ho : s.heap.get? l = some { cls := .type "dict", dict := dd, data := .dict es n, slots := sl }) (hu : A.units < cLine) : EqAt A s (.str b u) (.ref l) false := fun prog w E Q h => by
  unfold eqBool
  refine wpAny_holding ?_
  refine wpAny_ite_split (fun hab => absurd (eq_of_beq hab) nofun) (fun _ => ?_)
  exact wpAny_bind (rc_str_dict b u ho hu prog w E _ (wpAny_truthy_bool h))
/-- a dict, a tuple, a list among texts: it is none of them -/
def DkIn (K : PySem.W.Frag) (H : Hp) (x y : V) : Prop := ∃ a b xs, x = .ref a ∧ ((∃ o kvs, H a = some (.frz o (.dK kvs))) ∨ ∃ zs, SqL K H a zs ∨ SqT K H a zs) ∧ y = .ref b ∧ SqL K H b xs ∧ ∀ v ∈ xs, ∃ z, v = V.str z
theorem eq_str_off {X : Cx} {pins : List (Addr × Obj)} {σ : L2.St} {H : Hp} {s : Shared} (I : Inv X pins σ H s) {a : Addr} (h : (∃ o kvs, H a = some (.frz o (.dK kvs))) ∨ ∃ zs, SqL X.K H a zs ∨ SqT X.K H a zs) {A : Around} (hu : A.units < cLine) (b : Str) (u : Tok) : EqAt A s (.str b u) (.ref a) false := by
  rcases h with ⟨o, kvs, e⟩ | ⟨zs, e | e⟩
  · obtain ⟨es, n, ho⟩ := dk_obj I e
    exact eq_str_dict b u ho hu
  · obtain ⟨its, r, pl, hz⟩ := I.list e
    exact EqAt.str_list b u pl.isList hu
  · obtain ⟨its, r, pl, hz⟩ := I.tuple e
    exact EqAt.str_tuple b u pl hu
theorem vals_strs : ∀ {xs : List V} {us : List Value}, Vals xs us → (∀ v ∈ xs, ∃ z, v = V.str z) → ∀ u ∈ us, ∃ z t, u = Value.str z t
  | _, _, .nil, _, u, hu => by cases hu
  | _, _, .cons r rs, h, u, hu => by
    rcases List.mem_cons.mp hu with rfl | hu
    · obtain ⟨z, rfl⟩ := h _ (List.mem_cons_self ..)
      obtain ⟨t, rfl⟩ := r
      exact ⟨z, t, rfl⟩
    · exact vals_strs rs (fun v hv => h v (List.mem_cons_of_mem _ hv)) u hu
theorem any_false (us : Array Value) : us.any (fun _ => false) = false := by simp
theorem op_inSD {X : Cx} (hu : X.A.units + 65 < cLine) : OpR X (compareOp .In) (fun x y H Q => DkIn X.K H x y ∧ Q (.bl false) H) := by
  intro pins s σ H x y v u Q I rx ry h
  obtain ⟨⟨a, b, xs, rfl, e, rfl, hs, hx⟩, q⟩ := h
  cases rx
  cases ry
  obtain ⟨its, rv, ⟨ol, m, hol, hc, _, hd⟩, _⟩ := I.list hs
  have hst := vals_strs rv hx
  refine in_listAt (fun _ => false) ⟨ol, hol, hc, m, hd⟩ (fun y hy => ?_) ?_
  · obtain ⟨z, t, rfl⟩ := hst y (by simpa using hy)
    exact eq_str_off I e (by have : X.A.in1.units = X.A.units + 1 := rfl; omega) z t
  · rw [any_false]
    exact ⟨.bl _, H, I, rfl, q⟩
theorem op_notInSD {X : Cx} (hu : X.A.units + 65 < cLine) : OpR X (compareOp .NotIn) (fun x y H Q => DkIn X.K H x y ∧ Q (.bl true) H) := by
  intro pins s σ H x y v u Q I rx ry h
  obtain ⟨⟨a, b, xs, rfl, e, rfl, hs, hx⟩, q⟩ := h
  cases rx
  cases ry
  obtain ⟨its, rv, ⟨ol, m, hol, hc, _, hd⟩, _⟩ := I.list hs
  have hst := vals_strs rv hx
  refine notIn_listAt (fun _ => false) ⟨ol, hol, hc, m, hd⟩ (fun y hy => ?_) ?_
  · obtain ⟨z, t, rfl⟩ := hst y (by simpa using hy)
    exact eq_str_off I e (by have : X.A.in1.units = X.A.units + 1 := rfl; omega) z t
  · rw [any_false]
    exact ⟨.bl _, H, I, rfl, q⟩
end DV

set_option maxHeartbeats 4000000
/-! Tuples made in the run, their objects known. -/
namespace DV
open PySem PySem.Spec PyProof.Rows L2
abbrev tupB (us : List Value) : Obj := { cls := .type "tuple", data := .seq us.toArray }
section
variable {X : Cx} {pins : List (Addr × Obj)} {σ : L2.St} {H : Hp} {s : Shared} {xs : List V} {us : List Value} {Q : VK}
/-- a tuple is laid behind all that stands -/
theorem lay_tupF (I : Inv X pins σ H s) (r : Vals xs us) (hz : xs.length ≤ sizeLine) (q : ∀ p (o : Obj), o.dict = none → H p = none → Q (.ref p) (upd H p (.frz o (.tup xs)))) : EP X pins σ Q (.ref s.heap.objs.size) { s with heap := s.heap.push (tupB us) } :=
  ⟨.ref s.heap.objs.size, _, I.laid (t' := s.toks) (fun b u e => Heap.get?_push_of_some _ e) (Nat.le_refl _) (tupF_ok hz r (Heap.get?_push_size _ rfl) rfl rfl), rfl, q _ (tupB us) rfl (I.hok.fresh (Nat.le_refl _))⟩
end
section
variable {X : Cx}
/-- divmod -/
theorem call_divmodF : CallR X (.builtin "divmod") (fun xs H Q => ∃ i j, xs = [.int i, .int j] ∧ CDiv i j ∧ ∀ p (o : Obj), o.dict = none → H p = none → Q (.ref p) (upd H p (.frz o (.tup [.int (i / j), .int (i % j)])))) := by
  intro pins s σ H xs us Q I r h
  obtain ⟨i, j, rfl, hij, q⟩ := h
  obtain ⟨a, b, rfl, ⟨t, rfl⟩, ⟨t', rfl⟩⟩ := vals2 r
  have j0 : 0 ≤ j := by have := hij.1; omega
  refine divmod_int (by have := hij.1; omega) ?_ (.inl (PyProof.noPylong_small (by have := hij.2; omega)))
  rw [Int.fdiv_eq_ediv_of_nonneg i j0, Int.fmod_eq_emod_of_nonneg i j0]
  exact lay_tupF (xs := [.int (i / j), .int (i % j)]) (us := [.int (i / j) s.toks, .int (i % j) (s.toks + 1)]) (s := { s with toks := s.toks + 2 }) (I.tok _) (.cons ⟨_, rfl⟩ (.cons ⟨_, rfl⟩ .nil)) (by show 2 ≤ sizeLine; decide) q
/-- tuple(x) -/
theorem call_tupleF : CallR X (.type "tuple") (fun xs H Q => ∃ p ys, xs = [.ref p] ∧ ((SqL X.K H p ys ∧ (ys.length ≤ sizeLine → ∀ l (o : Obj), o.dict = none → H l = none → Q (.ref l) (upd H l (.frz o (.tup ys))))) ∨ (SqT X.K H p ys ∧ Q (.ref p) H))) := by
  intro pins s σ H xs us Q I r h
  obtain ⟨p, ys, rfl, h⟩ := h
  rcases h with ⟨hl, q⟩ | ⟨ht, q⟩
  · obtain ⟨u, rfl, rx⟩ := vals1 r
    cases rx
    obtain ⟨its, rv, pl, hz⟩ := I.list hl
    refine call_tuple_list pl.isList (fun h' kp => ?_) (by rw [List.size_toArray, ← rv.length]; exact hz)
    exact lay_tupF (s := { s with heap := h' }) (I.kept (t' := s.toks) kp) rv hz (q hz)
  · exact call_tuple_of pins s σ H _ us Q I r ⟨p, ys, rfl, .inr ⟨ht, q⟩⟩
/-- t + u -/
theorem op_catS : OpR X (binaryOp .Add) (fun x y H Q => ∃ a b xs ys, x = V.ref a ∧ y = V.ref b ∧ SqT X.K H a xs ∧ SqT X.K H b ys ∧ xs.length + ys.length ≤ sizeLine ∧
    (xs = [] → Q (.ref b) H) ∧ (xs ≠ [] → ys = [] → Q (.ref a) H) ∧ (xs ≠ [] → ys ≠ [] → ∀ p (o : Obj), o.dict = none → H p = none → Q (.ref p) (upd H p (.frz o (.tup (xs ++ ys)))))) := by
  intro pins s σ H x y v u Q I rx ry h
  obtain ⟨a, b, xs, ys, rfl, rfl, ha, hb, hz, q0, q1, q2⟩ := h
  by_cases hx : xs = []
  · exact op_catA pins s σ H _ _ v u Q I rx ry ⟨a, b, xs, ys, rfl, rfl, ha, hb, hz, q0, q1, fun z => absurd hx z⟩
  cases rx
  cases ry
  obtain ⟨vs, r1, p1, _⟩ := I.tuple ha
  obtain ⟨ws, r2, p2, _⟩ := I.tuple hb
  refine HT.cat_tup p1 p2 (fun z => hx (r1.nil_iff.mp z)) (fun z => ⟨.ref a, H, I, rfl, q1 hx (r2.nil_iff.mp z)⟩) (fun z => ?_) (by rw [← r1.length, ← r2.length]; exact hz)
  exact lay_tupF I (r1.append r2) (by rw [List.length_append]; exact hz) (q2 hx fun e => z (r2.nil_iff.mpr e))
/-- t[lo:hi] -/
theorem sl_tupS : SlR X (fun x lo hi H Q => ∃ a xs, x = .ref a ∧ SqT X.K H a xs ∧
    (HT.sIx xs.length 0 lo = 0 ∧ HT.sIx xs.length xs.length hi = xs.length → Q (.ref a) H) ∧ (¬ (HT.sIx xs.length 0 lo = 0 ∧ HT.sIx xs.length xs.length hi = xs.length) → ∀ p (o : Obj), o.dict = none → H p = none → Q (.ref p) (upd H p (.frz o (.tup (cutV xs lo hi)))))) := by
  intro pins s σ H x v vl vu lo hi sl Q I rx hs pl pu h
  obtain ⟨a, xs, rfl, hx, q1, q2⟩ := h
  by_cases hw : HT.sIx xs.length 0 lo = 0 ∧ HT.sIx xs.length xs.length hi = xs.length
  · exact sl_tupA pins s σ H _ v vl vu lo hi sl Q I rx hs pl pu ⟨a, xs, rfl, hx, q1, fun z => absurd hw z⟩
  cases rx
  obtain ⟨its, r, ht, hz⟩ := I.tuple hx
  have hlen : its.toArray.size = xs.length := by rw [List.size_toArray]; exact r.length.symm
  refine ⟨"tuple", _, PyProof.Rows.slot_tuple_getitem.lookup, ht.typeIs, HT.getItem_tuple_cut ht hs pl pu (by rw [hlen]; exact hw) ?_ (by rw [hlen]; exact hz)⟩
  rw [hlen]
  exact lay_tupF I ((r.drop _).take _) (Nat.le_trans (cutV_length xs lo hi) hz) (q2 hw)
end
end DV

set_option maxHeartbeats 4000000
namespace DV
open PySem PySem.Spec PyProof.Rows L2
/-! Operators, built-ins, methods by values. -/
section
variable {X : Cx}
theorem dop_int {o : Value → Value → Sem Value} {gi : Int → Int → PyData} {gv : Int → Int → V} {C : Int → Int → Prop} [∀ i j, Decidable (C i j)] (h : OpR X o (rI C gv)) (hg : ∀ K H i j, Pp K H (gv i j) (gi i j)) {g : D → D → Sto → R D}
    (eg : ∀ d e S, g d e S = match d, e with
      | .py (.int i), .py (.int j) => if C i j then .ok (.py (gi i j)) S else .no
      | _, _ => .no) : DOp X o g := by
  refine ⟨_, h, fun x y d e H S ι E Q hS rx ry hw => ?_⟩
  rw [eg] at hw
  split at hw
  · split at hw
    · rename_i hc
      exact ⟨_, _, int_of rx, int_of ry, hc, hw _ _ _ (.refl hS) (.py (hg _ _ _ _))⟩
    · exact hw.elim
  · exact hw.elim
theorem dop_int0 {o : Value → Value → Sem Value} {gi : Int → Int → PyData} {gv : Int → Int → V} (h : OpR X o (rI0 gv)) (hg : ∀ K H i j, Pp K H (gv i j) (gi i j)) {g : D → D → Sto → R D}
    (eg : ∀ d e S, g d e S = match d, e with
      | .py (.int i), .py (.int j) => .ok (.py (gi i j)) S
      | _, _ => .no) : DOp X o g := by
  refine ⟨_, h, fun x y d e H S ι E Q hS rx ry hw => ?_⟩
  rw [eg] at hw
  split at hw
  · exact ⟨_, _, int_of rx, int_of ry, hw _ _ _ (.refl hS) (.py (hg _ _ _ _))⟩
  · exact hw.elim
theorem do_sub : DOp X (binaryOp .Sub) subD := dop_int0 op_sub (fun _ _ i j => .int (i - j)) fun d e S => by cases d with | obj _ => rfl | raw _ => rfl | py d => cases d <;> first | rfl | (cases e with | obj _ => rfl | raw _ => rfl | py e => cases e <;> rfl)
instance (i j : Int) : Decidable (CMul i j) := by unfold CMul; exact inferInstance
instance (i j : Int) : Decidable (CDiv i j) := by unfold CDiv; exact inferInstance
instance (i j : Int) : Decidable (CPow i j) := by unfold CPow; exact inferInstance
theorem do_mul : DOp X (binaryOp .Mult) mulD := dop_int op_mul (fun _ _ i j => .int (i * j)) fun d e S => by cases d with | obj _ => rfl | raw _ => rfl | py d => cases d <;> first | rfl | (cases e with | obj _ => rfl | raw _ => rfl | py e => cases e <;> rfl)
theorem do_fdiv : DOp X (binaryOp .FloorDiv) fdivD := dop_int op_fdiv (fun _ _ i j => .int (i / j)) fun d e S => by cases d with | obj _ => rfl | raw _ => rfl | py d => cases d <;> first | rfl | (cases e with | obj _ => rfl | raw _ => rfl | py e => cases e <;> rfl)
theorem do_mod : DOp X (binaryOp .Mod) modD := dop_int op_mod (fun _ _ i j => .int (i % j)) fun d e S => by cases d with | obj _ => rfl | raw _ => rfl | py d => cases d <;> first | rfl | (cases e with | obj _ => rfl | raw _ => rfl | py e => cases e <;> rfl)
theorem do_le : DOp X (compareOp .LtE) (cmpI fun i j => decide (i ≤ j)) := dop_int0 op_le (fun _ _ i j => .bl _) fun d e S => by cases d with | obj _ => rfl | raw _ => rfl | py d => cases d <;> first | rfl | (cases e with | obj _ => rfl | raw _ => rfl | py e => cases e <;> rfl)
theorem do_gt : DOp X (compareOp .Gt) (cmpI fun i j => decide (j < i)) := dop_int0 op_gt (fun _ _ i j => .bl _) fun d e S => by cases d with | obj _ => rfl | raw _ => rfl | py d => cases d <;> first | rfl | (cases e with | obj _ => rfl | raw _ => rfl | py e => cases e <;> rfl)
theorem do_ge : DOp X (compareOp .GtE) (cmpI fun i j => decide (j ≤ i)) := dop_int0 op_ge (fun _ _ i j => .bl _) fun d e S => by cases d with | obj _ => rfl | raw _ => rfl | py d => cases d <;> first | rfl | (cases e with | obj _ => rfl | raw _ => rfl | py e => cases e <;> rfl)
theorem du_neg : DUn X (unaryOp .USub) negD := ⟨_, un_neg, fun x d H S ι E Q hS rx hw => by
  unfold negD at hw
  split at hw
  · exact ⟨_, int_of rx, hw _ _ _ (.refl hS) (.py (.int _))⟩
  · exact hw.elim⟩
/-! ### lists and tuples put together -/
theorem op_catF : OpR X (binaryOp .Add) (fun x y H Q => ∃ l b xs zs, x = .ref l ∧ y = .ref b ∧ SqL X.K H l xs ∧ SqL X.K H b zs ∧ xs.length + zs.length ≤ sizeLine ∧ ∀ p o, H p = none → Q (.ref p) (upd H p (.frz o (.lst (xs ++ zs))))) := by
  intro pins s σ H x y v u Q I rx ry h
  obtain ⟨l, b, xs, zs, rfl, rfl, hl, hb, hz, q⟩ := h
  cases rx
  cases ry
  obtain ⟨its, r, ⟨⟨c1, d1, dt1, s1⟩, n1, e1, hc1, hd1, hs1⟩, _⟩ := I.list hl
  obtain ⟨its2, r2, ⟨⟨c2, d2, dt2, s2⟩, n2, e2, hc2, hd2, hs2⟩, _⟩ := I.list hb
  simp only at hc1 hd1 hs1 hc2 hd2 hs2
  subst hc1 hd1 hs1 hc2 hd2 hs2
  refine concat_meets ⟨_, e1, rfl⟩ ⟨_, e2, rfl⟩ noFill_list_add seq_list_add PySem.F.slot_list_add PySem.F.entry_list_add (PySem.F.args_list_add_2 _ _) (list_addW l b its.toArray its2.toArray n1 n2 none none s1 s2 (by rw [List.size_toArray, List.size_toArray, ← r.length, ← r2.length]; exact hz)) ⟨e1, e2, ?_⟩
  have ea : its.toArray ++ its2.toArray = (its ++ its2).toArray := by simp
  rw [ea]
  have I2 := I.lnew (t' := s.toks) (r.append r2) (by rw [List.length_append]; exact hz)
  obtain ⟨o, I3⟩ := I2.lock upd_same trivial
  rw [upd_upd] at I3
  exact ⟨.ref _, _, I3, rfl, q _ o I.fresh⟩
theorem do_add : DOp X (binaryOp .Add) addD := by
  refine ⟨_, ((op_add (X := X)).or (op_add_str (X := X))).or ((op_catF (X := X)).or (op_catS (X := X))), fun x y d e H S ι E Q hS rx ry hw => ?_⟩
  unfold addD at hw
  split at hw
  · exact .inl (.inl ⟨_, _, int_of rx, int_of ry, hw _ _ _ (.refl hS) (.py (.int _))⟩)
  · split at hw
    · rename_i hz
      exact .inl (.inr ⟨_, _, str_of rx, str_of ry, hz, hw _ _ _ (.refl hS) (.py (.str _))⟩)
    · exact hw.elim
  · split at hw
    · rename_i xs ys S hz
      cases rx with
      | py rx =>
        cases rx with
        | lst h1 z1 a1 =>
          cases ry with
          | py ry =>
            cases ry with
            | lst h2 z2 a2 =>
              refine .inr (.inl ⟨_, _, _, _, rfl, rfl, h1.sq, h2.sq, by rw [a1.length, a2.length]; exact hz, fun p o hp => hw _ _ _ (.new hS hp) (.py (.lst (.inl ⟨o, upd_same⟩) (by rw [List.length_append]; exact hz) ?_))⟩)
              exact (a1.append a2).keep (.new hp)
    · exact hw.elim
  · split at hw
    · rename_i xs ys S hz
      cases rx with
      | py rx =>
        cases rx with
        | tup h1 z1 a1 =>
          cases ry with
          | py ry =>
            cases ry with
            | tup h2 z2 a2 =>
              refine .inr (.inr ⟨_, _, _, _, rfl, rfl, h1.sq, h2.sq, by rw [a1.length, a2.length]; exact hz, fun e0 => ?_, fun _ e0 => ?_, fun _ _ p o ho hp => hw _ _ _ (.new hS hp) (.py (.tup (.new ho) (by rw [List.length_append]; exact hz) ?_))⟩)
              · subst e0
                cases a1
                exact hw _ _ _ (.refl hS) (.py (.tup h2 z2 a2))
              · subst e0
                cases a2
                rw [List.append_nil] at hw
                exact hw _ _ _ (.refl hS) (.py (.tup h1 z1 a1))
              · exact (a1.append a2).keep (.new hp)
    · exact hw.elim
  · exact hw.elim
/-! ### == -/
theorem flat_scal {K : PySem.W.Frag} {H : Hp} {x y : V} {d e : PyData} {k : Bool} (rx : Pp K H x d) (ry : Pp K H y e) (h : flatD d e = some k) : scal x y = true ∧ decide (x = y) = k := by
  cases rx <;> cases ry <;> simp [flatD] at h <;> subst h <;> simp [scal]
theorem txdk_of {K : PySem.W.Frag} {H : Hp} {x y : V} {d e : PyData} (rx : Pp K H x d) (ry : Pp K H y e) (h : dkTx d e = true) : TxDk H x y := by
  cases rx <;> cases ry <;> simp [dkTx] at h
  · rename_i z a o kvs ds e _ _
    exact .inl ⟨_, _, _, _, rfl, rfl, e⟩
  · rename_i a o kvs ds e _ _ z
    exact .inr ⟨_, _, _, _, rfl, rfl, e⟩
theorem off_of {K : PySem.W.Frag} {H : Hp} {x y : V} {d e : PyData} (rx : Pp K H x d) (ry : Pp K H y e) (h : offB d e = true) : Off K H x y := by
  cases rx <;> cases ry
  case str.dic => exact .inl (txdk_of (.str _) (.dic ‹_› ‹_› ‹_›) rfl)
  case dic.str => exact .inl (txdk_of (.dic ‹_› ‹_› ‹_›) (.str _) rfl)
  case str.lst => exact .inr (.inl ⟨_, _, _, rfl, rfl, .inl (FL.sq ‹_›)⟩)
  case str.tup => exact .inr (.inl ⟨_, _, _, rfl, rfl, .inr (FT.sq ‹_›)⟩)
  case lst.str => exact .inr (.inr (.inl ⟨_, _, _, rfl, rfl, .inl (FL.sq ‹_›)⟩))
  case tup.str => exact .inr (.inr (.inl ⟨_, _, _, rfl, rfl, .inr (FT.sq ‹_›)⟩))
  case lst.lst h1 _ a1 _ _ _ h2 _ a2 =>
    have l1 := a1.length
    have l2 := a2.length
    exact .inr (.inr (.inr (.inr ⟨_, _, _, _, rfl, rfl, h1.sq, h2.sq, by simpa [offB, l1, l2] using h⟩)))
  case tup.tup ds1 h1 _ a1 _ _ ds2 h2 _ a2 =>
    have l1 := a1.length
    have l2 := a2.length
    refine .inr (.inr (.inr (.inl ⟨_, _, _, _, rfl, rfl, h1.sq, h2.sq, ?_⟩)))
    cases a1 <;> cases a2 <;> simp [offB] at h ⊢
  all_goals simp [offB, dkTx] at h
theorem do_eq {k : Nat} {E : XK} (o : Okx k X E) : DOp X (compareOp .Eq) eqD := by
  refine ⟨_, (op_eq (X := X)).or ((op_eqD (X := X) o.room.units).or (op_eqOff (X := X) o.room.units)), fun x y d e H S ι E Q hS rx ry hw => ?_⟩
  cases rx with
  | obj _ => exact hw.elim
  | raw _ => exact hw.elim
  | py rx =>
    cases ry with
    | obj _ => exact hw.elim
    | raw _ => exact hw.elim
    | py ry =>
      unfold eqD eqB at hw
      simp only at hw
      split at hw
      · rename_i k hk
        split at hk
        · rename_i k' hf
          cases hk
          obtain ⟨h1, h2⟩ := flat_scal rx ry hf
          refine .inl ⟨h1, ?_⟩
          rw [h2]
          exact hw _ _ _ (.refl hS) (.py (.bl _))
        · split at hk
          · rename_i hs
            cases hk
            exact .inr (.inl ⟨_, _, rx.dp (noDict_of hs.1), ry.dp (noDict_of hs.2), hs.1, hs.2, hw _ _ _ (.refl hS) (.py (.bl _))⟩)
          · split at hk
            · rename_i hd
              cases hk
              exact .inr (.inr ⟨off_of rx ry hd, hw _ _ _ (.refl hS) (.py (.bl _))⟩)
            · cases hk
      · exact hw.elim
theorem do_ne {k : Nat} {E : XK} (o : Okx k X E) : DOp X (compareOp .NotEq) neD := by
  refine ⟨_, (op_ne (X := X)).or ((op_neD (X := X) o.room.units).or (op_neOff (X := X) o.room.units)), fun x y d e H S ι E Q hS rx ry hw => ?_⟩
  cases rx with
  | obj _ => exact hw.elim
  | raw _ => exact hw.elim
  | py rx =>
    cases ry with
    | obj _ => exact hw.elim
    | raw _ => exact hw.elim
    | py ry =>
      unfold neD eqB at hw
      simp only at hw
      split at hw
      · rename_i k hk
        split at hk
        · rename_i k' hf
          cases hk
          obtain ⟨h1, h2⟩ := flat_scal rx ry hf
          refine .inl ⟨h1, ?_⟩
          rw [h2]
          exact hw _ _ _ (.refl hS) (.py (.bl _))
        · split at hk
          · rename_i hs
            cases hk
            exact .inr (.inl ⟨_, _, rx.dp (noDict_of hs.1), ry.dp (noDict_of hs.2), hs.1, hs.2, hw _ _ _ (.refl hS) (.py (.bl _))⟩)
          · split at hk
            · rename_i hd
              cases hk
              exact .inr (.inr ⟨off_of rx ry hd, hw _ _ _ (.refl hS) (.py (.bl _))⟩)
            · cases hk
      · exact hw.elim
theorem non_iff {K : PySem.W.Frag} {H : Hp} {x : V} {d : PyData} (r : Pp K H x d) : decide (x = .non) = isNon d := by
  cases r <;> simp [isNon]
theorem do_is : DOp X (compareOp .Is) isND := by
  refine ⟨_, op_isN, fun x y d e H S ι E Q hS rx ry hw => ?_⟩
  unfold isND at hw
  split at hw
  · cases ry with
    | py ry =>
      cases rx with
      | py rx =>
        cases ry
        exact ⟨rfl, by rw [non_iff rx]; exact hw _ _ _ (.refl hS) (.py (.bl _))⟩
  · exact hw.elim
theorem do_isnot : DOp X (compareOp .IsNot) notND := by
  refine ⟨_, op_notN, fun x y d e H S ι E Q hS rx ry hw => ?_⟩
  unfold notND at hw
  split at hw
  · cases ry with
    | py ry =>
      cases rx with
      | py rx =>
        cases ry
        exact ⟨rfl, by rw [non_iff rx]; exact hw _ _ _ (.refl hS) (.py (.bl _))⟩
  · exact hw.elim
/-! ### built-ins -/
theorem dc_len : DC X (.builtin "len") lenD := by
  refine ⟨_, (call_len_str (X := X)).or (call_len_seq (X := X)), fun xs ds H S ι E Q hS r hw => ?_⟩
  unfold lenD at hw
  split at hw
  · split at hw
    · rename_i hz
      cases r with
      | cons r rs =>
        cases rs
        exact .inl ⟨_, by rw [str_of r], hz, hw _ _ _ (.refl hS) (.py (.int _))⟩
    · exact hw.elim
  · split at hw
    · rename_i ds' hds
      cases r with
      | cons r rs =>
        cases rs
        obtain ⟨a, vs, rfl, hq, rr⟩ := seq_of hS r hds
        refine .inr ⟨a, vs, rfl, hq.imp id fun z => z.1.sq, ?_⟩
        rw [rr.length]
        exact hw _ _ _ (.refl hS) (.py (.int _))
    · exact hw.elim
  · exact hw.elim
theorem dc_max2 {k : Nat} {E : XK} (o : Okx k X E) : DC X (.builtin "max") max2D := by
  refine ⟨_, call_max2 o.calm, fun xs ds H S ι E Q hS r hw => ?_⟩
  unfold max2D at hw
  split at hw
  · cases r with
    | cons r rs =>
      cases rs with
      | cons r2 rs =>
        cases rs
        exact ⟨_, _, by rw [int_of r, int_of r2], hw _ _ _ (.refl hS) (.py (.int _))⟩
  · exact hw.elim
theorem dc_min2 {k : Nat} {E : XK} (o : Okx k X E) : DC X (.builtin "min") min2D := by
  refine ⟨_, call_min2 o.calm, fun xs ds H S ι E Q hS r hw => ?_⟩
  unfold min2D at hw
  split at hw
  · cases r with
    | cons r rs =>
      cases rs with
      | cons r2 rs =>
        cases rs
        exact ⟨_, _, by rw [int_of r, int_of r2], hw _ _ _ (.refl hS) (.py (.int _))⟩
  · exact hw.elim
theorem dc_abs : DC X (.builtin "abs") absD := by
  refine ⟨_, call_abs, fun xs ds H S ι E Q hS r hw => ?_⟩
  unfold absD at hw
  split at hw
  · cases r with
    | cons r rs =>
      cases rs
      exact ⟨_, by rw [int_of r], hw _ _ _ (.refl hS) (.py (.int _))⟩
  · exact hw.elim
theorem dc_divmod : DC X (.builtin "divmod") divmodD := by
  refine ⟨_, call_divmodF, fun xs ds H S ι E Q hS r hw => ?_⟩
  unfold divmodD at hw
  split at hw
  · split at hw
    · rename_i hz
      cases r with
      | cons r rs =>
        cases rs with
        | cons r2 rs =>
          cases rs
          exact ⟨_, _, by rw [int_of r, int_of r2], hz, fun p o ho hp => hw _ _ _ (.new hS hp) (.py (.tup (.new ho) (by show 2 ≤ sizeLine; decide) (.cons (.int _) (.cons (.int _) .nil))))⟩
    · exact hw.elim
  · exact hw.elim
theorem dc_tuple : DC X (.type "tuple") tupleD := by
  refine ⟨_, call_tupleF, fun xs ds H S ι E Q hS r hw => ?_⟩
  unfold tupleD at hw
  split at hw
  · split at hw
    · rename_i ds' hds
      split at hw
      · rename_i ps hp
        cases r with
        | cons r rs =>
          cases rs
          obtain ⟨a, vs, rfl, hq, rr⟩ := seq_of hS r hds
          have al := RdAll.pys rr hp
          rcases hq with hq | ⟨hq, qs, e, hz⟩
          · exact ⟨a, vs, rfl, .inl ⟨hq, fun z l o ho hl => hw _ _ _ (.new hS hl) (.py (.tup (.new ho) (by rw [← al.length]; exact z) (al.keep (.new hl))))⟩⟩
          · subst e
            refine ⟨a, vs, rfl, .inr ⟨hq.sq, hw _ _ _ (.refl hS) (.py (.tup hq ?_ al))⟩⟩
            simp only [seqOf] at hds
            cases hds
            rw [pysOf_length hp, List.length_map]
            exact hz
      · exact hw.elim
    · exact hw.elim
  · exact hw.elim
/-- a built-in that makes a new list -/
def DCL (X : Cx) (o : Value) (g : List D → Sto → R (List D)) : Prop := ∃ r, CallR X o r ∧ ∀ xs ds H S ι E Q, StR X.K ι H S → RdAll X.K ι H xs ds → Wp X.K X.mg E ι H (relL X.K H) (g ds S) Q → r xs H Q
theorem signs_rd {K : PySem.W.Frag} {ι : List Addr} {H : Hp} (l : List Nat) : RdAll K ι H (l.map fun c => V.str ⟨#[c]⟩) (l.map fun c => D.py (.str ⟨#[c]⟩)) := by
  induction l with
  | nil => exact .nil
  | cons c l ih => exact .cons (.py (.str _)) ih
theorem paired_ix {α β : Type} {G : α → β → Prop} : ∀ {l₁ : List α} {l₂ : List β}, l₁.length = l₂.length → (∀ (i : Nat) x y, l₁[i]? = some x → l₂[i]? = some y → G x y) → Paired G l₁ l₂
  | [], [], _, _ => .nil
  | _ :: _, [], h, _ => by cases h
  | [], _ :: _, h, _ => by cases h
  | a :: l, b :: m, h, q => .cons (q 0 a b rfl rfl) (paired_ix (Nat.succ.inj h) fun i x y e1 e2 => q (i + 1) x y (by simpa using e1) (by simpa using e2))
theorem items_signs {x : Str} {acc : Array Value} (h : ItemsOf (SignAt x) acc x.cps.size) : Vals (x.cps.toList.map fun c => V.str ⟨#[c]⟩) acc.toList := by
  refine paired_ix (by rw [List.length_map, Array.length_toList, Array.length_toList, h.1]) fun i v u e1 e2 => ?_
  rw [Array.getElem?_toList] at e2
  obtain ⟨c, t, h1, h2⟩ := h.2 i u e2
  rw [List.getElem?_map, Array.getElem?_toList, h1] at e1
  cases e1
  exact ⟨t, h2⟩
theorem call_listB : CallR X (.type "list") (fun xs H Q => ∃ p ys, xs = [.ref p] ∧ (SqL X.K H p ys ∨ SqT X.K H p ys) ∧ (ys.length ≤ sizeLine → ∀ l, H l = none → Q (.ref l) (upd H l (.lst ys)))) := by
  intro pins s σ H xs us Q I r h
  obtain ⟨p, ys, rfl, h1, h2⟩ := h
  have z : ys.length ≤ sizeLine := by
    rcases h1 with h1 | h1
    · obtain ⟨_, _, _, z⟩ := I.list h1
      exact z
    · obtain ⟨_, _, _, z⟩ := I.tuple h1
      exact z
  exact call_list_of pins s σ H _ us Q I r ⟨p, ys, rfl, h1, h2 z⟩
theorem call_list_strD {k : Nat} {E : XK} (o : Okx k X E) : CallR X (.type "list") (fun xs H Q => ∃ x, xs = [.str x] ∧ x.length ≤ sizeLine ∧ ∀ l, H l = none → Q (.ref l) (upd H l (.lst (x.cps.toList.map fun c => V.str ⟨#[c]⟩)))) := by
  intro pins s σ H xs us Q I r h
  obtain ⟨x, rfl, hz, q⟩ := h
  obtain ⟨u, rfl, ru⟩ := vals1 r
  obtain ⟨t, rfl⟩ := ru
  refine call_list_str (I.ok.hd o.calm) x t (fun h' tk acc' c' hk hS hacc => ?_) hz
  refine ⟨.ref _, _, I.laid (t' := tk) hk (Nat.le_refl _) ?_, rfl, q _ I.fresh⟩
  refine ⟨by rw [List.length_map, Array.length_toList]; exact hz, acc'.toList, c', items_signs hacc, ?_⟩
  simpa using hS
theorem dcl_list {k : Nat} {E : XK} (o : Okx k X E) : DCL X (.type "list") listD := by
  refine ⟨_, (call_list_strD o).or (call_listB (X := X)), fun xs ds H S ι E Q hS r hw => ?_⟩
  unfold listD at hw
  split at hw
  · split at hw
    · rename_i hz
      cases r with
      | cons r rs =>
        cases rs
        refine .inl ⟨_, by rw [str_of r], hz, fun l hl => hw _ _ _ (.new hS hl) ⟨l, _, hl, rfl, upd_same, hS.notin hl, by rw [List.length_map, Array.length_toList]; exact hz, signs_rd _⟩⟩
    · exact hw.elim
  · split at hw
    · rename_i ds' hds
      cases r with
      | cons r rs =>
        cases rs
        obtain ⟨a, vs, rfl, hq, rr⟩ := seq_of hS r hds
        exact .inr ⟨a, vs, rfl, hq.imp id fun z => z.1.sq, fun z l hl => hw _ _ _ (.new hS hl) ⟨l, _, hl, rfl, upd_same, hS.notin hl, z, RdAll.mono (List.prefix_refl _) (.new hl) rr⟩⟩
    · exact hw.elim
  · exact hw.elim
/-! ### the text of a value -/
mutual
theorem deep_dp {K : PySem.W.Frag} {ι : List Addr} {H : Hp} {S : Sto} (hS : StR K ι H S) : ∀ (n : Nat) {v : V} {d : D} {p : PyData}, Rd K ι H v d → deep S n d = some p → p.hasDict = false → Dp K H v p
  | 0, _, _, _, _, h, _ => by cases h
  | n + 1, v, .py d, p, r, h, q => by
    cases r with
    | py r => cases h; exact r.dp q
  | n + 1, v, .obj m, p, r, h, q => by
    cases r with
    | obj e =>
      simp only [deep] at h
      split at h
      · rename_i ds hd
        rw [Option.map_eq_some_iff] at h
        obtain ⟨ps, h1, h2⟩ := h
        subst h2
        cases hS.at_ _ _ _ hd e with
        | lst ha rr => exact .lst (.of ha) (deep_all hS n rr h1 (by rw [PyData.hasDict.eq_5] at q; exact q))
      · cases h
theorem deep_all {K : PySem.W.Frag} {ι : List Addr} {H : Hp} {S : Sto} (hS : StR K ι H S) (n : Nat) : ∀ {vs : List V} {ds : List D} {ps : List PyData}, RdAll K ι H vs ds → ds.mapM (deep S n) = some ps → PyData.hasDictAll ps = false → DpAll K H vs ps
  | _, [], _, .nil, h, _ => by
    simp at h
    subst h
    exact .nil
  | _, d :: ds, ps, .cons r rs, h, q => by
    rw [List.mapM_cons] at h
    simp only [Option.bind_eq_bind, Option.bind_eq_some_iff, Option.pure_def, Option.some.injEq] at h
    obtain ⟨p, h1, qs, h2, rfl⟩ := h
    rw [PyData.hasDictAll.eq_2, Bool.or_eq_false_iff] at q
    exact .cons (deep_dp hS n r h1 q.1) (deep_all hS n rs h2 q.2)
end
/-! ### methods of lists -/
theorem dm_append : DM X "list" "list.append" appendD := by
  refine ⟨_, mt_append, fun x xs d ds H S ι E Q hS rx r hw => ?_⟩
  unfold appendD at hw
  split at hw
  · split at hw
    · rename_i ds' hds
      split at hw
      · rename_i hz
        cases rx with
        | obj e =>
          cases hS.at_ _ _ _ hds e with
          | lst ha rr =>
            cases r with
            | cons r rs =>
              cases rs
              refine ⟨_, _, _, rfl, rfl, ha, by rw [rr.length]; exact hz, hw _ _ _ (.wr e ha (hS.set e ha (Paired.app rr (.cons r .nil)))) (.py .non)⟩
      · exact hw.elim
    · exact hw.elim
  · exact hw.elim
theorem ix_of_nat {i : Int} {n : Nat} (h0 : 0 ≤ i) (h1 : i.toNat < n) : seqIndex? i n = some i.toNat := by
  unfold seqIndex?
  have a : ¬ i < 0 := by omega
  have b : i < (n : Int) := by omega
  simp [a, h0, b]
theorem paired_erase {α β : Type} {G : α → β → Prop} : ∀ {l₁ : List α} {l₂ : List β} (i : Nat), Paired G l₁ l₂ → Paired G (l₁.eraseIdx i) (l₂.eraseIdx i)
  | _, _, _, .nil => .nil
  | _, _, 0, .cons _ t => t
  | _, _, i + 1, .cons q t => .cons q (paired_erase i t)
theorem paired_last {α β : Type} {G : α → β → Prop} : ∀ {l₁ : List α} {l₂ : List β}, Paired G l₁ l₂ → Paired G l₁.dropLast l₂.dropLast
  | _, _, .nil => .nil
  | _, _, .cons _ .nil => .nil
  | _, _, .cons q (.cons r t) => .cons q (paired_last (.cons r t))
theorem dm_pop : DM X "list" "list.pop" popD := by
  refine ⟨_, MtR.or (mt_pop (X := X)) (mt_popAt (X := X)), fun x xs d ds H S ι E Q hS rx r hw => ?_⟩
  unfold popD at hw
  split at hw
  · split at hw
    · rename_i ds' hds
      split at hw
      · rename_i d' hd'
        cases rx with
        | obj e =>
          cases hS.at_ _ _ _ hds e with
          | lst ha rr =>
            cases r
            obtain ⟨v, hv, rv⟩ := Paired.getR rr hd'
            exact .inl ⟨_, _, v, rfl, rfl, ha, by rw [rr.length]; exact hv, hw _ _ _ (.wr e ha (hS.set e ha (paired_last rr))) (rv.mono (List.prefix_refl _) (.list ha))⟩
      · exact hw.elim
    · exact hw.elim
  · split at hw
    · rename_i ds' hds
      split at hw
      · rename_i hi
        split at hw
        · rename_i d' hd'
          cases rx with
          | obj e =>
            cases hS.at_ _ _ _ hds e with
            | lst ha rr =>
              cases r with
              | cons r rs =>
                cases rs
                obtain ⟨v, hv, rv⟩ := Paired.getR rr hd'
                have hlt := (List.getElem?_eq_some_iff.mp hv).1
                exact .inr ⟨_, _, _, _, v, rfl, by rw [int_of r], ha, by omega, by omega, ix_of_nat hi.1 hlt, hv, hw _ _ _ (.wr e ha (hS.set e ha (paired_erase _ rr))) (rv.mono (List.prefix_refl _) (.list ha))⟩
        · exact hw.elim
      · exact hw.elim
    · exact hw.elim
  · exact hw.elim
/-! ### calls that make new lists; extend -/
variable {E : XK} {k : Nat} {e : Expr} {f : Ex} {es : List Expr} {fs fl : Ax} {pos p : Pos} {x : Str}
theorem dl_callTy {T : String} {gg : List D → Sto → R (List D)} (hc : DCL X (.type T) gg) (hm : X.mg x = none) (hv : bootBuiltins x = some (.type T)) (ha : DA X E (e :: es) fs) (hg : Gl X x := by rfl) (hn : x ≠ "__name__" := by decide) (hdb : (x == ("__debug__" : Str)) = false := by decide)
    (he : starEach (e :: es) X.env = (false, eval e X.env) :: starEach es X.env := by rfl) (hpl : (backTo pos (starEach es X.env)).any (·.1) = false := by rfl) : DL X E (.Call (.Name x p) (e :: es) [] pos) (callL gg fs) := by
  obtain ⟨l, t, pt, q⟩ := ha
  obtain ⟨r, hr, qr⟩ := hc
  refine ⟨_, pe_callTy hr hg hm hv pt hn hdb he hpl, fun σ H σd S ι Q hE hS h => ?_⟩
  refine q σ H σd S ι _ hE hS (Wp.bind0 h fun ds S1 _ vs H1 ι1 p1 r1 h1 => ?_)
  refine qr _ _ _ _ _ E _ p1.sto r1 ?_
  cases hgg : gg ds S1 with
  | no => rw [hgg] at h1; exact h1.elim
  | ex c S2 => rw [hgg] at h1; exact (Wp.re (rel := relL X.K H1) (Q := Q) p1 (show Wp X.K X.mg E ι H (relL X.K H1) (R.ex c S2) Q from h1))
  | ok ys S2 =>
    rw [hgg] at h1
    intro v H2 ι2 p2 r2
    obtain ⟨a, vs2, h0, rest⟩ := r2
    refine h1 v H2 ι2 (p1.trans p2) ⟨a, vs2, ?_, rest⟩
    cases q0 : H a with
    | none => rfl
    | some u => exact absurd h0 (p1.dom a (by rw [q0]; simp))
theorem de_extend {o : Expr} {apos cpos : Pos} (ho : DE X E o f) (ha : DL X E e fl)
    (hbase : attributeBase o "extend" X.env (eval o X.env) = eval o X.env := by rfl)
    (hfew : ((backTo cpos (starEach [e] X.env)).all (fun x => !x.1) && (backToKw cpos (keywordEach [] X.env)).all (fun x => x.1.isSome)
      && decide ([e].length + ([] : List Keyword).length + (if ([] : List Keyword).isEmpty then 0 else 1) < 30)) = true := by rfl)
    (hline : (apos.endLine == cpos.line) = true := by rfl) (hs : starEach [e] X.env = (false, eval e X.env) :: starEach [] X.env := by rfl) (hplain : (backTo cpos (starEach [] X.env)).any (·.1) = false := by rfl) :
    DE X E (.Call (.Attribute o "extend" apos) [e] [] cpos) (extE f fl) := by
  obtain ⟨t, p, q⟩ := ho
  obtain ⟨u, pu, qu⟩ := ha
  refine ⟨_, pe_bm PySem.F.plainAttrs_list PySem.F.slot_list_extend PySem.F.type_list_extend (mt_extend (X := X)) p (pa_cons pu pa_nil hs) hbase hfew hline hs hplain, fun σ H σd S ι Q hE hS h => ?_⟩
  refine q σ H σd S ι _ hE hS (Wp.bind h fun d S1 _ v H1 ι1 p1 r1 h1 => ?_)
  cases d with
  | py d => exact h1.elim
  | raw d => exact h1.elim
  | obj n =>
    simp only at h1
    split at h1
    · rename_i ds0 hd0
      refine ⟨tyL p1.sto r1 (by simp only [lsOk, hd0]), ?_⟩
      refine qu σ H1 σd S1 ι1 _ (hE.mono p1.pre p1.keep) p1.sto (Wp.bind h1 fun d2 S2 _ v2 H2 ι2 p2 r2 h2 => ?_)
      split at h2
      · rename_i es' hes
        split at h2
        · rename_i hz
          cases r1.mono p2.pre p2.keep with
          | obj en =>
            cases p2.sto.at_ _ _ _ hes en with
            | lst ha rr =>
              obtain ⟨b, ws, h0, rfl, hb, hn, _, rb⟩ := r2
              exact ⟨_, b, _, ws, rfl, rfl, ha, hb, by rw [rr.length, rb.length]; exact hz, h2 _ _ _ (.wr en ha (p2.sto.set en ha (Paired.app rr rb))) (.py .non)⟩
        · exact h2.elim
      · exact h2.elim
    · exact h1.elim
end
end DV

set_option maxHeartbeats 4000000
namespace DV
open PySem PySem.Spec PyProof.Rows L2
/-! More operators: in, index, isinstance, all, any, sum, slices. -/
/-! ### what they do -/
def isFlat : PyData → Bool
  | .none => true
  | .bool _ => true
  | .int _ => true
  | .str _ => true
  | _ => false
/-- a dict, a tuple, a list -/
def isSq : PyData → Bool
  | .dict _ => true
  | .tuple _ => true
  | .list _ => true
  | _ => false
def isSt : PyData → Bool
  | .str _ => true
  | _ => false
def inB (d : PyData) (e : PyData) : Option Bool := match e with
  | .list ds => if SeqAt.shaped d = true ∧ SeqAt.shaped (.list ds) = true then some (ds.any fun z => PyData.eqv z d) else if isSq d = true ∧ ds.all isSt = true then some false else if isFlat d = true ∧ ds.all isFlat = true then some (ds.any fun z => PyData.eqv z d) else none
  | .tuple ds => if isFlat d = true ∧ ds.all isFlat = true then some (ds.any fun z => PyData.eqv z d) else none
  | .str y => (match d with
    | .str x => (match x.cps.toList with
      | [c] => some (decide (c ∈ y.cps.toList))
      | _ => none)
    | _ => none)
  | _ => none
def inS (S : Sto) (x y : D) : Option Bool := match deep S 8 x, deep S 8 y with
  | some d, some e => inB d e
  | _, _ => none
def inD (x y : D) (S : Sto) : R D := match inS S x y with
  | some k => .ok (.py (.bool k)) S
  | none => .no
def notInD (x y : D) (S : Sto) : R D := match inS S x y with
  | some k => .ok (.py (.bool (!k))) S
  | none => .no
/-- the first place of an item -/
def placeOf (ds : List PyData) (d : PyData) : Option Nat := ds.findIdx? fun z => PyData.eqv z d
def indexD : D → List D → Sto → R D
  | x, [y], S => (match deep S 8 x, deep S 8 y with
    | some (.list ds), some d => if SeqAt.shaped (.list ds) = true ∧ SeqAt.shaped d = true then (match placeOf ds d with
      | some j => .ok (.py (.int (j : Nat))) S
      | none => .no) else .no
    | _, _ => .no)
  | _, _, _ => .no
def tyN : PyData → String
  | .none => "NoneType"
  | .bool _ => "bool"
  | .int _ => "int"
  | .str _ => "str"
  | .list _ => "list"
  | .tuple _ => "tuple"
  | .dict _ => "dict"
/-- is a value of class a one of class b -/
def isB (a b : String) : Bool := a == b || (a == "bool" && b == "int")
def isiD (T : String) : D → Sto → R D
  | .py d, S => .ok (.py (.bool (isB (tyN d) T))) S
  | .obj n, S => match S[n]? with
    | some (.lst _) => .ok (.py (.bool (isB "list" T))) S
    | _ => .no
  | .raw _, _ => .no
def boolsOf : List PyData → Option (List Bool)
  | [] => some []
  | .bool b :: ds => (boolsOf ds).map (b :: ·)
  | _ => none
def intsOf : List PyData → Option (List Int)
  | [] => some []
  | .int b :: ds => (intsOf ds).map (b :: ·)
  | _ => none
def allD : List D → Sto → R D
  | [.py (.list ds)], S => (match boolsOf ds with
    | some bs => .ok (.py (.bool (bs.all id))) S
    | none => .no)
  | _, _ => .no
def anyD : List D → Sto → R D
  | [.py (.list ds)], S => (match boolsOf ds with
    | some bs => .ok (.py (.bool (bs.any id))) S
    | none => .no)
  | _, _ => .no
def sumD : List D → Sto → R D
  | [.py (.list ds)], S => (match intsOf ds with
    | some bs => .ok (.py (.int bs.sum)) S
    | none => .no)
  | _, _ => .no
/-! ### that they do it -/
variable {X : Cx}
theorem eqV_eqv {K : PySem.W.Frag} {H : Hp} {x y : V} {d e : PyData} (rx : Pp K H x d) (ry : Pp K H y e) (hd : isFlat d = true) (he : isFlat e = true) : eqV y x = PyData.eqv e d := by
  cases rx <;> cases ry <;> simp [isFlat] at hd he <;> simp [eqV, PyData.eqv]
theorem isFlat_V {K : PySem.W.Frag} {H : Hp} {x : V} {d : PyData} (rx : Pp K H x d) (hd : isFlat d = true) : flatV x = true := by
  cases rx <;> simp [isFlat] at hd <;> rfl
theorem isFlat_all {K : PySem.W.Frag} {H : Hp} {x : V} {d : PyData} (rx : Pp K H x d) (hd : isFlat d = true) : ∀ {ys : List V} {ds : List PyData}, PpAll K H ys ds → ds.all isFlat = true → ys.all flatV = true ∧ inV x ys = ds.any fun z => PyData.eqv z d
  | _, _, .nil, _ => ⟨rfl, rfl⟩
  | _, _, .cons h hs, e => by
    rw [List.all_cons, Bool.and_eq_true] at e
    obtain ⟨h1, h2⟩ := isFlat_all rx hd hs e.2
    refine ⟨by rw [List.all_cons, isFlat_V h e.1, h1]; rfl, ?_⟩
    unfold inV at h2 ⊢
    rw [List.any_cons, List.any_cons, h2, eqV_eqv rx h hd e.1]
theorem eqV_eqvD {K : PySem.W.Frag} {H : Hp} {x y : V} {d e : PyData} (rx : Pp K H x d) (ry : Dp K H y e) (hd : isFlat d = true) (he : isFlat e = true) : eqV y x = PyData.eqv e d ∧ flatV y = true := by
  cases rx <;> cases ry <;> simp [isFlat] at hd he <;> simp [eqV, PyData.eqv, flatV]
theorem isFlat_allD {K : PySem.W.Frag} {H : Hp} {x : V} {d : PyData} (rx : Pp K H x d) (hd : isFlat d = true) : ∀ {ys : List V} {ds : List PyData}, DpAll K H ys ds → ds.all isFlat = true → ys.all flatV = true ∧ inV x ys = ds.any fun z => PyData.eqv z d
  | _, _, .nil, _ => ⟨rfl, rfl⟩
  | _, _, .cons h hs, e => by
    rw [List.all_cons, Bool.and_eq_true] at e
    obtain ⟨h1, h2⟩ := isFlat_allD rx hd hs e.2
    obtain ⟨h3, h4⟩ := eqV_eqvD rx h hd e.1
    refine ⟨by rw [List.all_cons, h4, h1]; rfl, ?_⟩
    unfold inV at h2 ⊢
    rw [List.any_cons, List.any_cons, h2, h3]
theorem flat_noDict : ∀ {ds : List PyData}, ds.all isFlat = true → PyData.hasDictAll ds = false
  | [], _ => PyData.hasDictAll.eq_1
  | d :: ds, h => by
    rw [List.all_cons, Bool.and_eq_true] at h
    rw [PyData.hasDictAll.eq_2, flat_noDict h.2]
    cases d <;> simp [isFlat] at h <;> simp [PyData.hasDict]
theorem Room.units65 {k : Nat} {A : Around} (h : Room k A) : A.units + 65 < cLine := by have := h.un; omega
theorem deep_py {K : PySem.W.Frag} {ι : List Addr} {H : Hp} {S : Sto} {x : V} {d : D} {p : PyData} (rx : Rd K ι H x d) (h : deep S 8 d = some p) : Pp K H x p ∨ ∃ ds, p = .list ds := by
  cases rx with
  | py rx =>
    have e := Option.some.inj h
    subst e
    exact .inl rx
  | raw a => cases h
  | obj e0 =>
    simp only [deep] at h
    split at h
    · rename_i es _
      cases hm : es.mapM (deep S 7) with
      | none => rw [hm] at h; cases h
      | some z => rw [hm] at h; cases h; exact .inr ⟨_, rfl⟩
    · cases h
theorem st_noDict : ∀ {ds : List PyData}, ds.all isSt = true → PyData.hasDictAll ds = false
  | [], _ => PyData.hasDictAll.eq_1
  | d :: ds, h => by
    rw [List.all_cons, Bool.and_eq_true] at h
    rw [PyData.hasDictAll.eq_2, st_noDict h.2]
    cases d <;> simp [isSt] at h
    simp [PyData.hasDict]
theorem st_all {K : PySem.W.Frag} {H : Hp} : ∀ {vs : List V} {ds : List PyData}, DpAll K H vs ds → ds.all isSt = true → ∀ v ∈ vs, ∃ z, v = V.str z
  | _, _, .nil, _, v, hv => by cases hv
  | _, _, .cons r rs, h, v, hv => by
    rw [List.all_cons, Bool.and_eq_true] at h
    rcases List.mem_cons.mp hv with rfl | hv
    · cases r <;> simp [isSt] at h
      exact ⟨_, rfl⟩
    · exact st_all rs h.2 v hv
theorem in_key {K : PySem.W.Frag} {ι : List Addr} {H : Hp} {S : Sto} {x y : V} {d e : D} {k : Bool} (hS : StR K ι H S) (rx : Rd K ι H x d) (ry : Rd K ι H y e) (h : inS S d e = some k) :
    (∃ p q, Dp K H x p ∧ Dp K H y (.list q) ∧ SeqAt.shaped p = true ∧ SeqAt.shaped (.list q) = true ∧ k = (q.any fun z => PyData.eqv z p)) ∨
    (∃ p xs, y = .ref p ∧ (SqL K H p xs ∨ SqT K H p xs) ∧ flatV x = true ∧ xs.all flatV = true ∧ k = inV x xs) ∨
    (∃ (c : Nat) (z : Str), x = .str ⟨#[c]⟩ ∧ y = .str z ∧ k = decide (c ∈ z.cps.toList)) ∨ (DkIn K H x y ∧ k = false) := by
  unfold inS at h
  split at h
  · rename_i p q hp hq
    cases q with
    | list ds =>
      simp only [inB] at h
      split at h
      · rename_i hs
        cases h
        have dx := deep_dp hS _ rx hp (noDict_of hs.1)
        have dy := deep_dp hS _ ry hq (noDict_of hs.2)
        exact .inl ⟨_, _, dx, dy, hs.1, hs.2, rfl⟩
      · split at h
        · rename_i hs
          cases h
          have dy := deep_dp hS _ ry hq (by rw [PyData.hasDict.eq_5]; exact st_noDict hs.2)
          have ax : ∃ a, x = V.ref a ∧ ((∃ o kvs, H a = some (.frz o (.dK kvs))) ∨ ∃ zs, SqL K H a zs ∨ SqT K H a zs) := by
            cases rx with
            | raw a => cases hp
            | obj e0 =>
              simp only [deep] at hp
              split at hp
              · rename_i es he
                cases hS.at_ _ _ _ he e0 with
                | lst ha rr => exact ⟨_, rfl, .inr ⟨_, .inl (.of ha)⟩⟩
              · cases hp
            | py rx =>
              have e := Option.some.inj hp
              subst e
              cases rx with
              | dic e _ _ => exact ⟨_, rfl, .inl ⟨_, _, e⟩⟩
              | lst e _ _ => exact ⟨_, rfl, .inr ⟨_, .inl e.sq⟩⟩
              | tup e _ _ => exact ⟨_, rfl, .inr ⟨_, .inr e.sq⟩⟩
              | _ => simp [isSq] at hs
          obtain ⟨a, rfl, ax⟩ := ax
          cases dy with
          | lst hL al => exact .inr (.inr (.inr ⟨⟨_, _, _, rfl, ax, rfl, hL, st_all al hs.2⟩, rfl⟩))
        · split at h
          · rename_i hs
            cases h
            have dy := deep_dp hS _ ry hq (by rw [PyData.hasDict.eq_5]; exact flat_noDict hs.2)
            have rx := (deep_py rx hp).resolve_right (by rintro ⟨ws, rfl⟩; simp [isFlat] at hs)
            cases dy with
            | lst hL al =>
              obtain ⟨z1, z2⟩ := isFlat_allD rx hs.1 al hs.2
              exact .inr (.inl ⟨_, _, rfl, .inl hL, isFlat_V rx hs.1, z1, z2.symm⟩)
          · cases h
    | tuple ds =>
      simp only [inB] at h
      split at h
      · rename_i hs
        cases h
        have ry := (deep_py ry hq).resolve_right (by rintro ⟨ws, e⟩; cases e)
        cases ry with
        | tup hT hz al =>
          have rx := (deep_py rx hp).resolve_right (by rintro ⟨ws, rfl⟩; simp [isFlat] at hs)
          obtain ⟨z1, z2⟩ := isFlat_all rx hs.1 al hs.2
          exact .inr (.inl ⟨_, _, rfl, .inr hT.sq, isFlat_V rx hs.1, z1, z2.symm⟩)
      · cases h
    | str y' =>
      cases p with
      | str x' =>
        simp only [inB] at h
        split at h
        · rename_i c hc
          cases h
          have rx := (deep_py rx hp).resolve_right (by rintro ⟨ws, e⟩; cases e)
          have ry := (deep_py ry hq).resolve_right (by rintro ⟨ws, e⟩; cases e)
          cases rx
          cases ry
          refine .inr (.inr (.inl ⟨c, y', ?_, rfl, rfl⟩))
          obtain ⟨a⟩ := x'
          obtain ⟨l⟩ := a
          have : l = [c] := hc
          subst this
          rfl
        · cases h
      | _ => cases h
    | _ => cases h
  · cases h
theorem do_in {k : Nat} {E : XK} (o : Okx k X E) : DOp X (compareOp .In) inD := by
  refine ⟨_, (op_inD (X := X) (Room.units65 o.room)).or ((op_in_seq (X := X)).or ((op_in_sign (X := X)).or (op_inSD (X := X) (Room.units65 o.room)))), fun x y d e H S ι E Q hS rx ry hw => ?_⟩
  unfold inD at hw
  split at hw
  · rename_i k hk
    have hq := hw _ _ _ (.refl hS) (.py (.bl k))
    rcases in_key hS rx ry hk with ⟨p, q, a, b, c, d, rfl⟩ | ⟨p, xs, a, b, c, d, rfl⟩ | ⟨c, z, a, b, rfl⟩ | ⟨a, rfl⟩
    · exact .inl ⟨p, q, a, b, c, d, hq⟩
    · exact .inr (.inl ⟨p, xs, a, b, c, d, hq⟩)
    · exact .inr (.inr (.inl ⟨c, z, a, b, hq⟩))
    · exact .inr (.inr (.inr ⟨a, hq⟩))
  · exact hw.elim
theorem do_notin {k : Nat} {E : XK} (o : Okx k X E) : DOp X (compareOp .NotIn) notInD := by
  refine ⟨_, (op_notInD (X := X) (Room.units65 o.room)).or ((op_notIn_seq (X := X)).or ((op_notIn_sign (X := X)).or (op_notInSD (X := X) (Room.units65 o.room)))), fun x y d e H S ι E Q hS rx ry hw => ?_⟩
  unfold notInD at hw
  split at hw
  · rename_i k hk
    have hq := hw _ _ _ (.refl hS) (.py (.bl (!k)))
    rcases in_key hS rx ry hk with ⟨p, q, a, b, c, d, rfl⟩ | ⟨p, xs, a, b, c, d, rfl⟩ | ⟨c, z, a, b, rfl⟩ | ⟨a, rfl⟩
    · exact .inl ⟨p, q, a, b, c, d, hq⟩
    · exact .inr (.inl ⟨p, xs, a, b, c, d, hq⟩)
    · exact .inr (.inr (.inl ⟨c, z, a, b, hq⟩))
    · exact .inr (.inr (.inr ⟨a, hq⟩))
  · exact hw.elim
/-! ### isinstance -/
theorem ty_pp {K : PySem.W.Frag} {H : Hp} {x : V} {d : PyData} (r : Pp K H x d) : TyX K H x (.type (tyN d)) := by
  cases r with
  | non => exact .base .non
  | bl b => exact .base (.bl b)
  | int i => exact .base (.int i)
  | str x => exact .base (.str x)
  | lst h _ _ =>
    rcases h with ⟨o, h⟩ | ⟨o, its, n, h1, h2, _⟩
    · exact .base (.frz h)
    · exact .kList h1 h2
  | tup h _ _ =>
    rcases h with ⟨o, h, _⟩ | ⟨o, its, n, h1, h2, _⟩
    · exact .fTuple h
    · exact .kTuple h1 h2
  | dic h _ _ => exact .fDict h
theorem kit_base (K : PySem.W.Frag) (d : PyData) (T : String) (hT : T ∈ ["int", "bool", "str", "tuple", "list", "dict"]) : PySem.W.kitOne K (.type (tyN d)) (.type T) = some (isB (tyN d) T) := by
  simp only [List.mem_cons, List.not_mem_nil, or_false] at hT
  rcases hT with rfl | rfl | rfl | rfl | rfl | rfl <;> cases d <;> rfl
section
variable {E : XK} {e : Expr} {f : Ex} {pos p p2 : Pos}
theorem de_isi {T : String} (hm : X.mg "isinstance" = none) (hm2 : X.mg (Str.ofString T) = none) (ha : DE X E e f) (hT : T ∈ ["int", "bool", "str", "tuple", "list", "dict"] := by decide) (hg : Gl X "isinstance" := by rfl) (hg2 : Gl X (Str.ofString T) := by rfl) (hb : bootBuiltins (Str.ofString T) = some (.type T) := by rfl)
    (hnn : Str.ofString T ≠ "__name__" := by decide) (hdb : (Str.ofString T == ("__debug__" : Str)) = false := by decide)
    (he : starEach [e, .Name (Str.ofString T) p2] X.env = (false, eval e X.env) :: starEach [.Name (Str.ofString T) p2] X.env := by rfl) (he2 : starEach [.Name (Str.ofString T) p2] X.env = (false, eval (.Name (Str.ofString T) p2) X.env) :: starEach [] X.env := by rfl) (hpl : (backTo pos (starEach [.Name (Str.ofString T) p2] X.env)).any (·.1) = false := by rfl) :
    DE X E (.Call (.Name "isinstance" p) [e, .Name (Str.ofString T) p2] [] pos) (op1 (isiD T) f) := by
  obtain ⟨t, pt, q⟩ := ha
  refine ⟨_, pe_callB call_isi hg hm rfl (pa_cons pt (pa_cons (pe_bltn (v := .ty T) hg2 hm2 hb rfl hnn hdb) pa_nil he2) he) (by decide) (by decide) he hpl, fun σ H σd S ι Q hE hS h => ?_⟩
  refine q σ H σd S ι _ hE hS (Wp.bind0 h fun d S1 e1 v H1 ι1 p1 r1 h1 => ?_)
  show rIsi X.K [v, .ty T] H1 Q
  unfold isiD at h1
  split at h1
  · rename_i d'
    cases r1 with
    | py r1 => exact ⟨v, .ty T, _, _, _, rfl, .ty T, ty_pp r1, kit_base X.K d' T hT, h1 _ _ _ p1 (.py (.bl _))⟩
  · split at h1
    · rename_i n S es hes
      cases r1 with
      | obj ea =>
        cases p1.sto.at_ _ _ _ hes ea with
        | lst hl _ => exact ⟨_, .ty T, _, _, _, rfl, .ty T, .base (.lst hl), kit_base X.K (.list []) T hT, h1 _ _ _ p1 (.py (.bl _))⟩
    · exact h1.elim
  · exact h1.elim
end
/-! ### all, any, sum -/
theorem bools_V {K : PySem.W.Frag} {H : Hp} : ∀ {xs : List V} {ds : List PyData} {bs : List Bool}, PpAll K H xs ds → boolsOf ds = some bs → xs = bs.map V.bl
  | _, _, bs, .nil, h => by cases h; rfl
  | _, _, bs, @PpAll.cons _ _ v vs d ds r rs, h => by
    cases r with
    | bl b =>
      have h : Option.map (b :: ·) (boolsOf ds) = some bs := h
      cases hb : boolsOf ds with
      | none => rw [hb] at h; cases h
      | some bs' =>
        rw [hb] at h
        cases h
        rw [bools_V rs hb]
        rfl
    | _ => exact absurd h (by simp [boolsOf])
theorem ints_V {K : PySem.W.Frag} {H : Hp} : ∀ {xs : List V} {ds : List PyData} {bs : List Int}, PpAll K H xs ds → intsOf ds = some bs → xs = bs.map V.int
  | _, _, bs, .nil, h => by cases h; rfl
  | _, _, bs, @PpAll.cons _ _ v vs d ds r rs, h => by
    cases r with
    | int b =>
      have h : Option.map (b :: ·) (intsOf ds) = some bs := h
      cases hb : intsOf ds with
      | none => rw [hb] at h; cases h
      | some bs' =>
        rw [hb] at h
        cases h
        rw [ints_V rs hb]
        rfl
    | _ => exact absurd h (by simp [intsOf])
theorem dc_all {k : Nat} {E : XK} (o : Okx k X E) : DC X (.builtin "all") allD := by
  refine ⟨_, cr_all o.calm, fun xs ds H S ι E Q hS r hw => ?_⟩
  unfold allD at hw
  split at hw
  · split at hw
    · rename_i bs hbs
      cases r with
      | cons r rs =>
        cases rs
        cases r with
        | py r =>
          cases r with
          | lst h hz al => exact ⟨_, bs, rfl, bools_V al hbs ▸ h.sq, hw _ _ _ (.refl hS) (.py (.bl _))⟩
    · exact hw.elim
  · exact hw.elim
theorem dc_any {k : Nat} {E : XK} (o : Okx k X E) : DC X (.builtin "any") anyD := by
  refine ⟨_, cr_any o.calm, fun xs ds H S ι E Q hS r hw => ?_⟩
  unfold anyD at hw
  split at hw
  · split at hw
    · rename_i bs hbs
      cases r with
      | cons r rs =>
        cases rs
        cases r with
        | py r =>
          cases r with
          | lst h hz al => exact ⟨_, bs, rfl, bools_V al hbs ▸ h.sq, hw _ _ _ (.refl hS) (.py (.bl _))⟩
    · exact hw.elim
  · exact hw.elim
/-! ### the module's constants -/
theorem de_gint {E : XK} {x : Str} {i : Int} {t : Tok} {pos : Pos} (hm : X.mg x = some (.int i t)) (hg : Gl X x := by rfl) (hdb : (x == ("__debug__" : Str)) = false := by decide) : DE X E (.Name x pos) (cE (.int i)) :=
  ⟨_, pe_glob (v := .int i) hg hm ⟨t, rfl⟩ hdb, fun σ H σd S ι Q hE hS h => h _ _ _ (.refl hS) (.py (.int i))⟩
theorem de_gstr {E : XK} {x : Str} {i : Str} {t : Tok} {pos : Pos} (hm : X.mg x = some (.str i t)) (hg : Gl X x := by rfl) (hdb : (x == ("__debug__" : Str)) = false := by decide) : DE X E (.Name x pos) (cE (.str i)) :=
  ⟨_, pe_glob (v := .str i) hg hm ⟨t, rfl⟩ hdb, fun σ H σd S ι Q hE hS h => h _ _ _ (.refl hS) (.py (.str i))⟩
end DV

set_option maxHeartbeats 4000000
namespace DV
open PySem PySem.Spec PyProof.Rows L2
/-! An error of the program's own whose base is an error of the program's own upon ValueError. -/
def allStr (es : Array DictEntry) : Bool := es.toList.all fun e => match e.key with
  | .str _ _ => true
  | _ => false
/-- a class's own dict has text keys and no __init__ -/
theorem nsOk_of {K : PySem.W.Frag} {N : Addr} {c : Value} {dd : Option Addr} {es : Array DictEntry} {ep : Nat} {sl : Array (Option Value)} (h : K.lookup N = some ⟨c, dd, .dict es ep, sl⟩) (ha : allStr es = true) : PySem.W.nsOkIn K N = true := by
  unfold PySem.W.nsOkIn
  rw [h]
  show (es.all _) = true
  rw [← Array.all_toList]
  exact ha
theorem exc_two {K : PySem.W.Frag} {C B N M : Addr} {cd cb : ClassData} {d1 d2 d3 d4 : Option Addr} {sl sb sn sm : Array (Option Value)} {c3 c4 : Value} {es em : Array DictEntry} {ep eq : Nat} {bm : List Value} {id : String} {a1 a2 a3 a4 a6 : Option Value}
    (h1 : K.lookup C = some ⟨.type "type", d1, .cls cd, sl⟩) (q1 : cd.mro = .ref C :: .ref B :: bm) (q2 : sl.toList = [a1, a2, a3, a4, some (.builtin id), a6]) (q3 : cd.hasDel = false) (q4 : cd.ns = N)
    (h2 : K.lookup N = some ⟨c3, d3, .dict es ep, sn⟩) (q5 : allStr es = true) (n1 : PySem.W.nsIn K N "__init__" = some none)
    (h3 : K.lookup B = some ⟨.type "type", d2, .cls cb, sb⟩) (q6 : cb.ns = M) (h4 : K.lookup M = some ⟨c4, d4, .dict em eq, sm⟩) (q7 : allStr em = true) (n2 : PySem.W.nsIn K M "__init__" = some none) (hb : PySem.W.tailIn K bm bm = true) : PySem.W.excIn K C bm id = true := by
  unfold PySem.W.excIn
  rw [h1]
  simp only [q1, q2, q3, q4]
  rw [nsOk_of h2 q5, n1, PySem.W.tailIn.eq_2, h3]
  simp only [q6]
  rw [nsOk_of h4 q7, n2, hb]
  simp
end DV

set_option maxHeartbeats 4000000
namespace DV
open PySem PySem.Spec PyProof.Rows L2
/-! Still more operators: slices, list(range(..)), sorted, join, tuples compared. -/
variable {X : Cx} {E : XK}
/-! ### slices -/
abbrev Px := En → Sto → R (Option Int)
def noP : Px := fun _ S => .ok none S
def someP (e : Ex) : Px := fun σ S => (e σ S).bind fun d S1 => match d with
  | .py (.int i) => .ok (some i) S1
  | _ => .no
def cutP {α : Type} (xs : List α) (lo hi : Option Int) : List α := (xs.drop (HT.sIx xs.length 0 lo)).take (HT.sIx xs.length xs.length hi - HT.sIx xs.length 0 lo)
/-- of tuples and texts -/
def sliceV (x : D) (lo hi : Option Int) (S : Sto) : R D := match x with
  | .py (.tuple ds) => .ok (.py (.tuple (cutP ds lo hi))) S
  | .py (.str z) => if z.length ≤ sizeLine then .ok (.py (.str (cutS z lo hi))) S else .no
  | _ => .no
def sliceE (a : Ex) (lo hi : Px) : Ex := fun σ S => (a σ S).bind fun x S1 => (lo σ S1).bind fun l S2 => (hi σ S2).bind fun h S3 => sliceV x l h S3
/-- of lists: a new list -/
def sliceL (a : Ex) (lo hi : Px) : Ax := fun σ S => (a σ S).bind fun x S1 => (lo σ S1).bind fun l S2 => (hi σ S2).bind fun h S3 => match seqOf S3 x with
  | some ds => (match x with
    | .py (.tuple _) => .no
    | _ => if ds.length ≤ sizeLine then .ok (cutP ds l h) S3 else .no)
  | none => .no
abbrev relP : List Addr → Hp → Option Int → Option Int → Prop := fun _ _ a b => a = b
def DP (X : Cx) (E : XK) (e : Option Expr) (f : Px) : Prop := ∃ t, PO X e t ∧ ∀ σ H σd S ι Q, EnR X.K ι H σ σd → StR X.K ι H S → Wp X.K X.mg E ι H relP (f σd S) Q → t σ H Q
theorem dp_none : DP X E none noP := ⟨_, po_none, fun σ H σd S ι Q hE hS h => h _ _ _ (.refl hS) rfl⟩
theorem dp_some {e : Expr} {f : Ex} (he : DE X E e f) : DP X E (some e) (someP f) := by
  obtain ⟨t, p, q⟩ := he
  refine ⟨_, po_some p, fun σ H σd S ι Q hE hS h => ?_⟩
  refine q σ H σd S ι _ hE hS (Wp.bind0 h fun d S1 _ v H1 ι1 p1 r1 h1 => ?_)
  split at h1
  · exact ⟨_, int_of r1, h1 _ _ _ p1 rfl⟩
  · exact h1.elim
theorem PpAll.drop {K : PySem.W.Frag} {H : Hp} : ∀ {vs : List V} {ds : List PyData} (n : Nat), PpAll K H vs ds → PpAll K H (vs.drop n) (ds.drop n)
  | _, _, 0, h => h
  | _, _, _ + 1, .nil => .nil
  | _, _, n + 1, .cons _ hs => PpAll.drop n hs
theorem PpAll.take {K : PySem.W.Frag} {H : Hp} : ∀ {vs : List V} {ds : List PyData} (n : Nat), PpAll K H vs ds → PpAll K H (vs.take n) (ds.take n)
  | _, _, 0, _ => .nil
  | _, _, _ + 1, .nil => .nil
  | _, _, n + 1, .cons h hs => .cons h (PpAll.take n hs)
theorem RdAll.drop {K : PySem.W.Frag} {ι : List Addr} {H : Hp} : ∀ {vs : List V} {ds : List D} (n : Nat), RdAll K ι H vs ds → RdAll K ι H (vs.drop n) (ds.drop n)
  | _, _, 0, h => h
  | _, _, _ + 1, .nil => .nil
  | _, _, n + 1, .cons _ hs => RdAll.drop n hs
theorem RdAll.take {K : PySem.W.Frag} {ι : List Addr} {H : Hp} : ∀ {vs : List V} {ds : List D} (n : Nat), RdAll K ι H vs ds → RdAll K ι H (vs.take n) (ds.take n)
  | _, _, 0, _ => .nil
  | _, _, _ + 1, .nil => .nil
  | _, _, n + 1, .cons h hs => .cons h (RdAll.take n hs)
theorem cut_len {α : Type} (xs : List α) (lo hi : Option Int) : (cutP xs lo hi).length ≤ xs.length := by
  unfold cutP
  rw [List.length_take, List.length_drop]
  omega
theorem cut_pp {K : PySem.W.Frag} {H : Hp} {vs : List V} {ds : List PyData} (h : PpAll K H vs ds) (lo hi : Option Int) : PpAll K H (cutV vs lo hi) (cutP ds lo hi) := by
  unfold cutV cutP
  rw [h.length]
  exact (h.drop _).take _
theorem cut_rd {K : PySem.W.Frag} {ι : List Addr} {H : Hp} {vs : List V} {ds : List D} (h : RdAll K ι H vs ds) (lo hi : Option Int) : RdAll K ι H (cutV vs lo hi) (cutP ds lo hi) := by
  unfold cutV cutP
  rw [h.length]
  exact (h.drop _).take _
theorem cut_all {α : Type} (xs : List α) (lo hi : Option Int) (h : HT.sIx xs.length 0 lo = 0 ∧ HT.sIx xs.length xs.length hi = xs.length) : cutP xs lo hi = xs := by
  unfold cutP
  rw [h.1, h.2]
  simp
section
variable {e : Expr} {lo hi : Option Expr} {f : Ex} {fl fh : Px} {pos p2 : Pos}
theorem de_slice (he : DE X E e f) (hl : DP X E lo fl) (hh : DP X E hi fh) : DE X E (.Subscript e (.Slice lo hi none p2) pos) (sliceE f fl fh) := by
  obtain ⟨t, p, q⟩ := he
  obtain ⟨tl, pl, ql⟩ := hl
  obtain ⟨th, ph, qh⟩ := hh
  refine ⟨_, pe_slice ((sl_tupS (X := X)).or sl_str) p pl ph, fun σ H σd S ι Q hE hS h => ?_⟩
  refine q σ H σd S ι _ hE hS (Wp.bind h fun x S1 _ v H1 ι1 p1 r1 h1 => ?_)
  refine ql σ H1 σd S1 ι1 _ (hE.mono p1.pre p1.keep) p1.sto (Wp.bind h1 fun l S2 _ l' H2 ι2 p2 rl h2 => ?_)
  refine qh σ H2 σd S2 ι2 _ ((hE.mono p1.pre p1.keep).mono p2.pre p2.keep) p2.sto (Wp.bind h2 fun u S3 _ u' H3 ι3 p3 ru h3 => ?_)
  cases rl
  cases ru
  have r3 := (r1.mono p2.pre p2.keep).mono p3.pre p3.keep
  unfold sliceV at h3
  split at h3
  · rename_i ds _
    cases r3 with
    | py r3 =>
      cases r3 with
      | tup hT hz al =>
        have hc := cut_pp al l u
        have hcl := cut_len ds l u
        refine .inl ⟨_, _, rfl, hT.sq, fun ha => h3 _ _ _ (.refl p3.sto) (.py ?_), fun _ p o ho hp => h3 _ _ _ (.new p3.sto hp) (.py (.tup (.new ho) (Nat.le_trans hcl hz) (hc.keep (.new hp))))⟩
        rw [al.length] at ha
        rw [cut_all ds l u ha]
        exact .tup hT hz al
  · split at h3
    · rename_i hz
      exact .inr ⟨_, str_of r3, hz, h3 _ _ _ (.refl p3.sto) (.py (.str _))⟩
    · exact h3.elim
  · exact h3.elim
theorem dl_slice (he : DE X E e f) (hl : DP X E lo fl) (hh : DP X E hi fh) : DL X E (.Subscript e (.Slice lo hi none p2) pos) (sliceL f fl fh) := by
  obtain ⟨t, p, q⟩ := he
  obtain ⟨tl, pl, ql⟩ := hl
  obtain ⟨th, ph, qh⟩ := hh
  refine ⟨_, pe_slice sl_list p pl ph, fun σ H σd S ι Q hE hS h => ?_⟩
  refine q σ H σd S ι _ hE hS (Wp.bind0 h fun x S1 _ v H1 ι1 p1 r1 h1 => ?_)
  refine ql σ H1 σd S1 ι1 _ (hE.mono p1.pre p1.keep) p1.sto (Wp.bind0 (Wp.re p1 h1) fun l S2 _ l' H2 ι2 p2 rl h2 => ?_)
  cases rl
  refine qh σ H2 σd S2 ι2 _ ((hE.mono p1.pre p1.keep).mono p2.pre p2.keep) p2.sto (Wp.bind0 (Wp.re p2 h2) fun u S3 _ u' H3 ι3 p3 ru h3 => ?_)
  cases ru
  have r3 := (r1.mono p2.pre p2.keep).mono p3.pre p3.keep
  have pp := (p1.trans p2).trans p3
  have old : ∀ {b : Addr}, H3 b = none → H b = none := fun {b} hb => by
    cases q0 : H b with
    | none => rfl
    | some w => exact absurd hb (pp.dom b (by rw [q0]; simp))
  have fin : ∀ (a : Addr) (vs : List V) (ds : List D), v = .ref a → SqL X.K H3 a vs → RdAll X.K ι3 H3 vs ds → vs.length ≤ sizeLine → Wp X.K X.mg E ι2 H2 (relL X.K H) (R.ok (cutP ds l u) S3) Q → rSlL X.K v l u H3 Q := fun a vs ds e hL rr hz hw => by
    refine ⟨a, vs, e, hL, fun p hp => hw _ _ _ (p3.trans (.new p3.sto hp)) ⟨p, _, old hp, rfl, upd_same, p3.sto.notin hp, ?_, RdAll.mono (List.prefix_refl _) (.new hp) (cut_rd rr l u)⟩⟩
    refine Nat.le_trans ?_ hz
    unfold cutV
    rw [List.length_take, List.length_drop]
    omega
  cases r3 with
  | py r3 =>
    cases r3 with
    | lst hF hz al => exact fin _ _ _ rfl hF.sq (.of_pys al) (by rw [al.length]; exact hz) (by simpa [seqOf, hz] using h3)
    | tup hT hz al => exact h3.elim
    | _ => exact h3.elim
  | raw a => exact h3.elim
  | obj e0 =>
    simp only [seqOf] at h3
    split at h3
    · rename_i ds hds
      split at hds
      · rename_i ds' hs
        cases hds
        cases p3.sto.at_ _ _ _ hs e0 with
        | lst ha rr =>
          split at h3
          · rename_i hz
            exact fin _ _ _ rfl (.inl (.inl ha)) rr (by rw [rr.length]; exact hz) h3
          · exact h3.elim
      · cases hds
    · exact h3.elim
end
/-! ### list(range(..)) -/
section
variable {a b : Expr} {f g : Ex} {pos p pos2 p2 : Pos}
end
/-! ### sorted -/
theorem dints_V {K : PySem.W.Frag} {H : Hp} : ∀ {xs : List V} {ds : List PyData} {bs : List Int}, DpAll K H xs ds → intsOf ds = some bs → xs = bs.map V.int
  | _, _, bs, .nil, h => by cases h; rfl
  | _, _, bs, @DpAll.cons _ _ v vs d ds r rs, h => by
    cases r with
    | int b =>
      have h : Option.map (b :: ·) (intsOf ds) = some bs := h
      cases hb : intsOf ds with
      | none => rw [hb] at h; cases h
      | some bs' =>
        rw [hb] at h
        cases h
        rw [dints_V rs hb]
        rfl
    | _ => exact absurd h (by simp [intsOf])
theorem ints_noDict : ∀ {ds : List PyData} {bs : List Int}, intsOf ds = some bs → PyData.hasDictAll ds = false
  | [], _, _ => PyData.hasDictAll.eq_1
  | d :: ds, bs, h => by
    cases d with
    | int b =>
      have h : Option.map (b :: ·) (intsOf ds) = some bs := h
      cases hb : intsOf ds with
      | none => rw [hb] at h; cases h
      | some bs' =>
        rw [PyData.hasDictAll.eq_2, ints_noDict hb]
        simp [PyData.hasDict]
    | _ => exact absurd h (by simp [intsOf])
/-! ### join -/
def strsOf : List PyData → Option (List Str)
  | [] => some []
  | .str b :: ds => (strsOf ds).map (b :: ·)
  | _ => none
def joinD : D → List D → Sto → R D
  | .py (.str a), [.py (.list ds)], S => (match strsOf ds with
    | some ys => if (ys.map (·.length)).sum + ys.length * a.length ≤ 16777216 then .ok (.py (.str (Txt.join a ys))) S else .no
    | none => .no)
  | .py (.str a), [.py (.tuple ds)], S => (match strsOf ds with
    | some ys => if (ys.map (·.length)).sum + ys.length * a.length ≤ 16777216 then .ok (.py (.str (Txt.join a ys))) S else .no
    | none => .no)
  | _, _, _ => .no
theorem strs_V {K : PySem.W.Frag} {H : Hp} : ∀ {xs : List V} {ds : List PyData} {bs : List Str}, PpAll K H xs ds → strsOf ds = some bs → xs = bs.map V.str
  | _, _, bs, .nil, h => by cases h; rfl
  | _, _, bs, @PpAll.cons _ _ v vs d ds r rs, h => by
    cases r with
    | str b =>
      have h : Option.map (b :: ·) (strsOf ds) = some bs := h
      cases hb : strsOf ds with
      | none => rw [hb] at h; cases h
      | some bs' =>
        rw [hb] at h
        cases h
        rw [strs_V rs hb]
        rfl
    | _ => exact absurd h (by simp [strsOf])
theorem dm_join : DM X "str" "str.join" joinD := by
  refine ⟨_, mt_join (X := X), fun x xs d ds H S ι E Q hS rx r hw => ?_⟩
  unfold joinD at hw
  split at hw
  · split at hw
    · rename_i ys hys
      split at hw
      · rename_i hz
        cases r with
        | cons r rs =>
          cases rs
          cases r with
          | py r =>
            cases r with
            | lst h hz2 al => exact ⟨_, _, ys, str_of rx, rfl, .inl (strs_V al hys ▸ h.sq), hz, hw _ _ _ (.refl hS) (.py (.str _))⟩
      · exact hw.elim
    · exact hw.elim
  · split at hw
    · rename_i ys hys
      split at hw
      · rename_i hz
        cases r with
        | cons r rs =>
          cases rs
          cases r with
          | py r =>
            cases r with
            | tup h hz2 al => exact ⟨_, _, ys, str_of rx, rfl, .inr (strs_V al hys ▸ h.sq), hz, hw _ _ _ (.refl hS) (.py (.str _))⟩
      · exact hw.elim
    · exact hw.elim
  · exact hw.elim
/-! ### < of whole numbers and of tuples of them -/
def ltD : D → D → Sto → R D
  | .py (.int i), .py (.int j), S => .ok (.py (.bool (decide (i < j)))) S
  | .py (.tuple a), .py (.tuple b), S => (match intsOf a, intsOf b with
    | some ns, some ms => .ok (.py (.bool (HT.lexLt ns ms))) S
    | _, _ => .no)
  | _, _, _ => .no
theorem do_ltX {k : Nat} (o : Okx k X E) : DOp X (compareOp .Lt) ltD := by
  refine ⟨_, (op_lt (X := X)).or (op_ltT (X := X) (by have := o.room.units; omega)), fun x y d e H S ι E Q hS rx ry hw => ?_⟩
  unfold ltD at hw
  split at hw
  · exact .inl ⟨_, _, int_of rx, int_of ry, hw _ _ _ (.refl hS) (.py (.bl _))⟩
  · split at hw
    · rename_i ns ms h1 h2
      cases rx with
      | py rx =>
        cases ry with
        | py ry =>
          cases rx with
          | tup hx hz al =>
            cases ry with
            | tup hy hz2 bl => exact .inr ⟨_, _, ns, ms, rfl, rfl, ints_V al h1 ▸ hx.sq, ints_V bl h2 ▸ hy.sq, hw _ _ _ (.refl hS) (.py (.bl _))⟩
    · exact hw.elim
  · exact hw.elim
/-! ### max and min of a list of whole numbers -/
def maxI : List Int → Int
  | [] => 0
  | x :: xs => xs.foldl max x
theorem fold_max : ∀ (xs : List Int) (x : Int), (xs.foldl max x = x ∨ xs.foldl max x ∈ xs) ∧ x ≤ xs.foldl max x ∧ ∀ y ∈ xs, y ≤ xs.foldl max x
  | [], x => ⟨.inl rfl, Int.le_refl _, by simp⟩
  | z :: xs, x => by
    obtain ⟨h1, h2, h3⟩ := fold_max xs (max x z)
    rw [List.foldl_cons]
    refine ⟨?_, by omega, fun y hy => ?_⟩
    · rcases h1 with h1 | h1
      · rw [h1]
        by_cases h : x ≤ z
        · right
          rw [show max x z = z by omega]
          exact List.mem_cons_self ..
        · left
          omega
      · exact .inr (List.mem_cons_of_mem _ h1)
    · rcases List.mem_cons.mp hy with rfl | hy
      · omega
      · exact h3 y hy
theorem maxI_eq {ns : List Int} {m : Int} (h0 : 0 < ns.length) (h1 : m ∈ ns) (h2 : ∀ y, y ∈ ns → y ≤ m) : m = maxI ns := by
  cases ns with
  | nil => cases h1
  | cons x xs =>
    obtain ⟨a, b, c⟩ := fold_max xs x
    have hm : maxI (x :: xs) ∈ x :: xs := by
      rcases a with a | a
      · show xs.foldl max x ∈ _
        rw [a]
        exact List.mem_cons_self ..
      · exact List.mem_cons_of_mem _ a
    have h3 := h2 _ hm
    have h4 : m ≤ xs.foldl max x := by
      rcases List.mem_cons.mp h1 with rfl | h
      · exact b
      · exact c m h
    exact Int.le_antisymm h4 h3
def maxD : List D → Sto → R D
  | [.py (.list ds)], S => (match intsOf ds with
    | some ns => if 0 < ns.length then .ok (.py (.int (maxI ns))) S else .no
    | none => .no)
  | _, _ => .no
theorem dc_max {k : Nat} (o : Okx k X E) : DC X (.builtin "max") maxD := by
  refine ⟨_, cr_max o.calm, fun xs ds H S ι E Q hS r hw => ?_⟩
  unfold maxD at hw
  split at hw
  · split at hw
    · rename_i bs hbs
      split at hw
      · rename_i h0
        cases r with
        | cons r rs =>
          cases rs
          cases r with
          | py r =>
            cases r with
            | lst h hz al => exact ⟨_, bs, rfl, ints_V al hbs ▸ h.sq, h0, fun m h1 h2 => maxI_eq h0 h1 h2 ▸ hw _ _ _ (.refl hS) (.py (.int _))⟩
      · exact hw.elim
    · exact hw.elim
  · exact hw.elim
end DV

set_option maxHeartbeats 4000000
namespace DV
open PySem PySem.Spec PyProof.Rows L2
/-! Methods of texts that make new lists; insert. -/
variable {X : Cx} {E : XK}
def methSL (g : D → List D → Sto → R (List D)) (o : Ex) (a : Ax) : Ax := fun σ S => (o σ S).bind fun x S1 => match x with
  | .py (.str _) => (a σ S1).bind fun ds S2 => g x ds S2
  | _ => .no
/-- a method that makes a new list -/
def DML (X : Cx) (id : String) (g : D → List D → Sto → R (List D)) : Prop := ∃ r, MtR X id r ∧ ∀ x xs d ds H S ι E Q, StR X.K ι H S → Rd X.K ι H x d → RdAll X.K ι H xs ds → Wp X.K X.mg E ι H (relL X.K H) (g d ds S) Q → r x xs H Q
theorem relL_old {K : PySem.W.Frag} {mg : Str → Option Value} {ι ι1 : List Addr} {H H1 : Hp} {S1 : Sto} {r : R (List D)} {Q : VK} (p1 : Post K ι H ι1 H1 S1) (h1 : Wp K mg E ι H (relL K H) r Q) : Wp K mg E ι1 H1 (relL K H1) r Q := by
  cases r with
  | no => exact h1.elim
  | ex c S2 => exact (Wp.re (rel := relL K H1) (Q := Q) p1 (show Wp K mg E ι H (relL K H1) (R.ex c S2) Q from h1))
  | ok ys S2 =>
    intro v H2 ι2 p2 r2
    obtain ⟨a, vs2, h0, rest⟩ := r2
    refine h1 v H2 ι2 (p1.trans p2) ⟨a, vs2, ?_, rest⟩
    cases q0 : H a with
    | none => rfl
    | some u => exact absurd h0 (p1.dom a (by rw [q0]; simp))
section
variable {o e : Expr} {es : List Expr} {f : Ex} {fs : Ax} {name : Str} {id : String} {apos cpos : Pos} {gg : D → List D → Sto → R (List D)}
theorem dl_methS (slot : Slot "str" name id) (hty : typeOf (.builtin id) = pure (.type "method_descriptor")) (hm : DML X id gg) (ho : DE X E o f) (ha : DA X E (e :: es) fs)
    (hbase : attributeBase o name X.env (eval o X.env) = eval o X.env := by rfl)
    (hfew : ((backTo cpos (starEach (e :: es) X.env)).all (fun x => !x.1) && (backToKw cpos (keywordEach [] X.env)).all (fun x => x.1.isSome)
      && decide ((e :: es).length + ([] : List Keyword).length + (if ([] : List Keyword).isEmpty then 0 else 1) < 30)) = true := by rfl)
    (hline : (apos.endLine == cpos.line) = true := by rfl) (hs : starEach (e :: es) X.env = (false, eval e X.env) :: starEach es X.env := by rfl) (hplain : (backTo cpos (starEach es X.env)).any (·.1) = false := by rfl) :
    DL X E (.Call (.Attribute o name apos) (e :: es) [] cpos) (methSL gg f fs) := by
  obtain ⟨t, p, q⟩ := ho
  obtain ⟨l, u, pu, qu⟩ := ha
  obtain ⟨r, hr, qr⟩ := hm
  refine ⟨_, pe_bm PySem.F.plainAttrs_str slot hty hr p pu hbase hfew hline hs hplain, fun σ H σd S ι Q hE hS h => ?_⟩
  refine q σ H σd S ι _ hE hS (Wp.bind0 h fun d S1 _ v H1 ι1 p1 r1 h1 => ?_)
  split at h1
  · rename_i z _
    refine ⟨by cases r1 with | py r1 => cases r1; rfl, ?_⟩
    refine qu σ H1 σd S1 ι1 _ (hE.mono p1.pre p1.keep) p1.sto (Wp.bind0 (Wp.re p1 h1) fun d2 S2 _ v2 H2 ι2 p2 r2 h2 => ?_)
    have h3 : Wp X.K X.mg E ι1 H1 (relL X.K H1) (gg (.py (.str z)) d2 S2) Q := by
      cases hg : gg (.py (.str z)) d2 S2 with
      | no => rw [hg] at h2; exact h2.elim
      | ex c S3 => rw [hg] at h2; exact h2
      | ok ys S3 =>
        rw [hg] at h2
        intro v H3 ι3 p3 r3
        obtain ⟨a, vs2, h0, rest⟩ := r3
        refine h2 v H3 ι3 p3 ⟨a, vs2, ?_, rest⟩
        cases q0 : H a with
        | none => rfl
        | some u => exact absurd h0 (p1.dom a (by rw [q0]; simp))
    exact qr _ _ _ _ _ _ _ E _ p2.sto (r1.mono p2.pre p2.keep) r2 (relL_old p2 h3)
  · exact h1.elim
end
def splitD : D → List D → Sto → R (List D)
  | .py (.str a), [.py (.str b)], S => if (b.length == 0) = false ∧ a.length + 2 ≤ sizeLine ∧ (Txt.split a b).length ≤ sizeLine then .ok ((Txt.split a b).map fun x => D.py (.str x)) S else .no
  | _, _, _ => .no
theorem strs_rd {K : PySem.W.Frag} {ι : List Addr} {H : Hp} : ∀ l : List Str, RdAll K ι H (l.map V.str) (l.map fun i => D.py (.str i))
  | [] => .nil
  | i :: l => .cons (.py (.str _)) (strs_rd l)
theorem dml_split : DML X "str.split" splitD := by
  refine ⟨_, mt_split (X := X), fun x xs d ds H S ι E Q hS rx r hw => ?_⟩
  unfold splitD at hw
  split at hw
  · split at hw
    · rename_i hz
      cases r with
      | cons r rs =>
        cases rs
        refine ⟨_, _, str_of rx, by rw [str_of r], hz.1, hz.2.1, fun p hp => hw _ _ _ (.new hS hp) ⟨p, _, hp, rfl, upd_same, hS.notin hp, by rw [List.length_map]; exact hz.2.2, strs_rd _⟩⟩
    · exact hw.elim
  · exact hw.elim
end DV

set_option maxHeartbeats 4000000
namespace PySem
open Sem (wp)
section
variable {prog : Program} {w : World} {A : Around} {R : Result → Shared → Prop} {I : Addr} {fp wr : List Addr} {n : Nat} {P : Nat → Value → Prop} {St : Nat → Heap → Prop}
def preLists (lst : Nat → List Value) : Nat → List Value
  | 0 => []
  | n + 1 => preLists lst n ++ lst n
def TotL (h0 : Heap) (lst : Nat → List Value) (t0 : Addr) (i : Nat) (h : Heap) (t : Addr) : Prop :=
  (i = 0 ∧ t = t0) ∨ (h0.get? t = none ∧ h.get? t = some { cls := .type "list", data := .seq (preLists lst i).toArray })
theorem TotL.isList {h0 h : Heap} {lst : Nat → List Value} {t0 t : Addr} {i : Nat} (x : TotL h0 lst t0 i h t) (h1 : h.IsList t0 #[]) : h.IsList t (preLists lst i).toArray := by
  rcases x with ⟨rfl, rfl⟩ | ⟨_, e⟩
  · exact h1
  · exact ⟨_, e, rfl, _, rfl⟩
theorem TotL.kept {h0 h h' : Heap} {lst : Nat → List Value} {t0 t : Addr} {i : Nat} (x : TotL h0 lst t0 i h t) (k : ∀ o, h.get? t = some o → h'.get? t = some o) : TotL h0 lst t0 i h' t := by
  rcases x with ⟨rfl, rfl⟩ | ⟨e0, e⟩
  · exact .inl ⟨rfl, rfl⟩
  · exact .inr ⟨e0, k _ e⟩
end
section
variable {prog : Program} {w : World} {A : Around} {E : Value → Shared → Prop} {s : Shared}
end
end PySem
namespace DV
open PySem PySem.Spec PyProof.Rows L2
variable {X : Cx} {E : XK}
/-- sum(lists, []) -/
def listsOf : List PyData → Option (List (List PyData))
  | [] => some []
  | .list l :: ds => (listsOf ds).map (l :: ·)
  | _ => none
def sumL (f : Ex) : Ax := fun σ S => (f σ S).bind fun d S1 => match d with
  | .py (.list ds) => (match listsOf ds with
    | some Ls => if Ls.flatten.length ≤ sizeLine then .ok (Ls.flatten.map .py) S1 else .no
    | none => .no)
  | _ => .no
end DV

set_option maxHeartbeats 4000000
namespace DV
open PySem PySem.Spec PyProof.Rows L2
/-! A list turned about; insert. -/
variable {X : Cx} {E : XK}
section
variable {e : Expr} {f : Ex} {k : Nat} {pos p1 p2 p3 : Pos}
end
end DV

set_option maxHeartbeats 4000000
namespace DV
open PySem PySem.Spec PyProof.Rows L2
/-! is True; int of a truth; in of a tuple of tuples; not in range. -/
variable {X : Cx} {E : XK}
theorem bl_of {K : PySem.W.Frag} {ι : List Addr} {H : Hp} {v : V} {b : Bool} (r : DV.Rd K ι H v (.py (.bool b))) : v = .bl b := by
  cases r with
  | py r => cases r; rfl
def intD : List D → Sto → R D
  | [.py (.bool b)], S => .ok (.py (.int (if b then 1 else 0))) S
  | [.py (.int i)], S => .ok (.py (.int i)) S
  | _, _ => .no
theorem dc_int : DC X (.type "int") intD := by
  refine ⟨_, call_int1 (X := X), fun xs ds H S ι E Q hS r hw => ?_⟩
  unfold intD at hw
  split at hw
  · cases r with
    | cons r rs =>
      cases rs
      exact .inr ⟨_, by rw [bl_of r], hw _ _ _ (.refl hS) (.py (.int _))⟩
  · cases r with
    | cons r rs =>
      cases rs
      exact .inl ⟨_, by rw [int_of r], hw _ _ _ (.refl hS) (.py (.int _))⟩
  · exact hw.elim
/-! ### in of a tuple, deep -/
/-! ### not in range -/
section
variable {a : Expr} {f : Ex} {j : Int} {kk : Nat} {p p1 pos pos2 : Pos}
end
end DV

set_option maxHeartbeats 4000000
namespace L2
open PySem PySem.Spec PyProof.Rows
end L2
namespace DV
open PySem PySem.Spec PyProof.Rows L2
variable {X : Cx} {E : XK}
/-- range(e, -1, -1) -/
def dwnI (e : Ex) : DV.It := fun σ S => (e σ S).bind fun d S1 => match d with
  | .py (.int j) => if -1 ≤ j ∧ j < 16777216 then .ok (rngV 0 (j + 1).toNat).reverse S1 else .no
  | _ => .no
section
variable {a : Expr} {f : Ex} {k1 k2 : Nat} {p p1 p2 p3 p4 pos : Pos}
end
end DV

set_option maxHeartbeats 4000000
namespace DV
open PySem PySem.Spec PyProof.Rows L2
/-! Dicts that are never changed: dict(pairs), d[k]. -/
variable {X : Cx} {E : XK}
def keyOf : PyData → Option Key
  | .int i => some (.inl i)
  | .str x => some (.inr x)
  | _ => none
@[simp] theorem keyOf_keyP (k : Key) : keyOf (keyP k) = some k := by cases k <;> rfl
def pairsOf : List PyData → Option (List (Key × PyData))
  | [] => some []
  | .tuple [k, v] :: ds => (match keyOf k, pairsOf ds with
    | some k, some r => some ((k, v) :: r)
    | _, _ => none)
  | _ => none
def dictF (f : Ex) : Ex := fun σ S => (f σ S).bind fun d S1 => match d with
  | .py (.list ds) => (match pairsOf ds with
    | some kv => if (kv.map Prod.fst).Nodup then .ok (.py (.dict (kv.map fun p => (keyP p.1, p.2)))) S1 else .no
    | none => .no)
  | _ => .no
section
variable {e i : Expr} {f g : Ex} {p pos : Pos}
def dlook : List (PyData × PyData) → Key → Option PyData
  | [], _ => none
  | (p, d) :: r, k => if keyOf p = some k then some d else dlook r k
def dgetF (a b : Ex) : Ex := fun σ S => (a σ S).bind fun x S1 => (b σ S1).bind fun y S2 => match x, y with
  | .py (.dict kvs), .py k => (match keyOf k with
    | some k => (match dlook kvs k with
      | some d => .ok (.py d) S2
      | none => .no)
    | none => .no)
  | _, _ => .no
end
end DV

set_option maxHeartbeats 4000000
namespace DV
open PySem PySem.Spec PyProof.Rows L2
/-! insert; == of lists that may be changed; count of whole numbers and truths. -/
variable {X : Cx} {E : XK}
def insertD : D → List D → Sto → R D
  | .obj n, [.py (.int i), d], S => (match S[n]? with
    | some (.lst ds) => if ds.length < sizeLine ∧ 0 ≤ i ∧ i < 2 ^ 62 then .ok (.py .none) (S.set n (.lst (ds.take i.toNat ++ [d] ++ ds.drop i.toNat))) else .no
    | _ => .no)
  | _, _, _ => .no
theorem dm_insert : DM X "list" "list.insert" insertD := by
  refine ⟨_, mt_insert, fun x xs d ds H S ι E Q hS rx r hw => ?_⟩
  unfold insertD at hw
  split at hw
  · split at hw
    · rename_i ds' hds
      split at hw
      · rename_i hz
        cases rx with
        | obj e =>
          cases hS.at_ _ _ _ hds e with
          | lst ha rr =>
            cases r with
            | cons r rs =>
              cases rs with
              | cons r2 rs =>
                cases rs
                refine ⟨_, _, _, _, rfl, by rw [int_of r], ha, by rw [rr.length]; exact hz.1, hz.2.1, by omega, hw _ _ _ (.wr e ha (hS.set e ha ?_)) (.py .non)⟩
                exact Paired.app (Paired.app (RdAll.take _ rr) (.cons r2 .nil)) (RdAll.drop _ rr)
      · exact hw.elim
    · exact hw.elim
  · exact hw.elim
/-- == of lists of the store -/
def eqOD (x y : D) (S : Sto) : R D := match deep S 8 x, deep S 8 y with
  | some d, some e => if SeqAt.shaped d = true ∧ SeqAt.shaped e = true then .ok (.py (.bool (PyData.eqv d e))) S else .no
  | _, _ => .no
def neOD (x y : D) (S : Sto) : R D := match deep S 8 x, deep S 8 y with
  | some d, some e => if SeqAt.shaped d = true ∧ SeqAt.shaped e = true then .ok (.py (.bool (!PyData.eqv d e))) S else .no
  | _, _ => .no
theorem do_neO {k : Nat} (o : Okx k X E) : DOp X (compareOp .NotEq) neOD := by
  refine ⟨_, op_neD (X := X) o.room.units, fun x y d e H S ι E Q hS rx ry hw => ?_⟩
  unfold neOD at hw
  split at hw
  · rename_i p q hp hq
    split at hw
    · rename_i hs
      exact ⟨_, _, deep_dp hS _ rx hp (noDict_of hs.1), deep_dp hS _ ry hq (noDict_of hs.2), hs.1, hs.2, hw _ _ _ (.refl hS) (.py (.bl _))⟩
    · exact hw.elim
  · exact hw.elim
end DV

set_option maxHeartbeats 4000000
namespace DV
open PySem PySem.Spec PyProof.Rows L2
/-! < of data that are alike, place by place, nested. -/
section
variable {X : Cx} {E : XK}
def ltOk (d e : PyData) : Prop := PySem.W.alike d e = true ∧ isNon d = false ∧ d.hasDict = false ∧ e.hasDict = false ∧ d.depth ≤ 60
instance (d e : PyData) : Decidable (ltOk d e) := by unfold ltOk; infer_instance
end
end DV

set_option maxHeartbeats 4000000
namespace DV
open PySem PySem.Spec PyProof.Rows L2
/-! A def that is called upon an error that is handled: what it tells by the error's class. -/
section
variable {X : Cx}
end
/-! ### isinstance of the error that is handled -/
/-- the name in slot i holds the thing at a: the answer is b -/
def isaE (a i : Nat) (b : Bool) : Ex := fun σ S => match σ[i]? with
  | some (some (.raw a')) => if a' = a then .ok (.py (.bool b)) S else .no
  | _ => .no
section
variable {X : Cx} {E : XK} {a D : Addr} {oe : Obj} {pos p p1 p2 : Pos} {x y : Str}
end
/-! ### such a def's promise -/
section
variable {P : Program} {w : World} {K : PySem.W.Frag} {mg : Str → Option Value} {base : Heap}
end
end DV

set_option maxHeartbeats 4000000
namespace DV
open PySem PySem.Spec PyProof.Rows L2
/-! A lambda without parameters, handed to a def that calls it and tells what its value shows, or a word of its error. -/
/-- the table of a def that makes lambdas stands in the store -/
def tabIn (P : Nat) (q : Str) (S : Sto) : Prop := ∃ i : Nat, S[i]? = some (.tab P q)
/-! ### the lambda's body -/
section
variable {X : Cx} {E : XK} {k : Nat}
end
/-! ### the lambda is made -/
/-- what the heap knows behind a lambda's making: as much as ahead, or its code object, newly told by the table at P -/
def MadeL (H H1 : Hp) (P c' : Addr) (q : Str) : Prop := H1 = H ∨ ∃ ps more, H P = some (.tbl ps) ∧ H c' = none ∧ H1 = upd (upd H P (.tbl (ps ++ more))) c' (LamX.CodeO c' q)
theorem MadeL.at_ {H H1 : Hp} {P c' : Addr} {q : Str} (m : MadeL H H1 P c' q) {b : Addr} {o : HO} (e : H b = some o) : H1 b = some o ∨ (b = P ∧ ∃ ps, H1 b = some (.tbl ps)) := by
  rcases m with rfl | ⟨ps, more, h1, h2, rfl⟩
  · exact .inl e
  · have ne : b ≠ c' := ne_of_none e h2
    rw [upd_ne ne]
    by_cases hb : b = P
    · subst hb
      exact .inr ⟨rfl, _, upd_same⟩
    · rw [upd_ne hb]
      exact .inl e
section
variable {X : Cx} {pins : List (Addr × Obj)} {σ : L2.St} {H : Hp} {s : Shared}
end
/-- what was told of the heap is told behind it -/
theorem MadeL.keep {H H1 : Hp} {P c' : Addr} {q : Str} (m : MadeL H H1 P c' q) (tb : LamX.TabS H P q) : Keep H H1 := by
  obtain ⟨ps, hP, _, _⟩ := tb
  refine ⟨fun b xs e => ?_, fun b o u e => ?_⟩
  · rcases m.at_ e with z | ⟨rfl, _⟩
    · exact z
    · rw [hP] at e
      cases e
  · rcases m.at_ e with z | ⟨rfl, _⟩
    · exact z
    · rw [hP] at e
      cases e
theorem MadeL.post {K : PySem.W.Frag} {ι : List Addr} {S : Sto} {H H1 : Hp} {P c' : Addr} {q : Str} (m : MadeL H H1 P c' q) (hS : StR K ι H S) (h0 : tabIn P q S) (tb1 : LamX.TabS H1 P q) : Post K ι H ι H1 S := by
  obtain ⟨i0, h0⟩ := h0
  have tb := hS.tb i0 P q h0
  have kp := m.keep tb
  obtain ⟨ps, hP, _, _⟩ := tb
  have lst : ∀ (b : Addr) (vs : MO), H b = some vs.ho → H1 b = some vs.ho := fun b vs e => by
    rcases m.at_ e with z | ⟨rfl, _⟩
    · exact z
    · rw [hP] at e
      cases vs <;> cases e
  have dom : ∀ b, H b ≠ none → H1 b ≠ none := fun b e => by
    obtain ⟨o, e⟩ := Option.ne_none_iff_exists'.mp e
    rcases m.at_ e with z | ⟨_, _, z⟩
    · rw [z]
      simp
    · rw [z]
      simp
  refine ⟨List.prefix_refl _, kp, ⟨hS.len, hS.nd, fun n a e => dom a (hS.there n a e), fun n o a e1 e2 => (hS.at_ n o a e1 e2).mono (List.prefix_refl _) kp (lst a), fun n P' q' e => ?_⟩, fun b vs n e => ⟨lst b (.lst vs) e, n⟩, dom⟩
  by_cases hn : n = i0
  · subst hn
    rw [h0] at e
    cases e
    exact tb1
  have ad : ∀ (m P0 : Nat) (q0 : Str), S[m]? = some (.tab P0 q0) → ι[m]? = some P0 := fun m P0 q0 e => by
    have hm : m < ι.length := by rw [hS.len]; exact (List.getElem?_eq_some_iff.mp e).1
    have e1 := List.getElem?_eq_getElem hm
    have z := hS.at_ m _ _ e e1
    generalize ι[m] = a at z e1
    cases z
    exact e1
  have ne : P' ≠ P := fun z => hn (nodup_at hS.nd (ad n P' q' e) (z ▸ ad i0 P q h0))
  obtain ⟨ps, h1, h2, h3⟩ := hS.tb n P' q' e
  have to : ∀ (b : Addr) (o : HO), H b = some o → b ≠ P → H1 b = some o := fun b o e hb => by
    rcases m.at_ e with z | ⟨z, _⟩
    · exact z
    · exact absurd z hb
  refine ⟨ps, to _ _ h1 ne, h2, fun pos cv hc => ?_⟩
  obtain ⟨c, e1, e2⟩ := h3 pos cv hc
  refine ⟨c, e1, to _ _ e2 fun z => ?_⟩
  rw [z, hP] at e2
  exact LamX.codeO_ne _ (Option.some.inj e2).symm
/-! ### the def that calls it -/
section
variable {X : Cx} {E : XK} {k kw : Nat}
end
end DV

set_option maxHeartbeats 4000000
namespace DV
open PySem PySem.Spec PyProof.Rows L2
/-! The end of a law whose def makes lambdas: its table of code objects is number 0 of the store. -/
section
variable {P : Program} {w : World} {K : PySem.W.Frag} {mg : Str → Option Value} {base : Heap}
end
end DV

set_option maxHeartbeats 4000000
namespace L2
open PySem PySem.Spec PyProof.Rows
section
variable {X : Cx}
end
end L2
namespace DV
open PySem PySem.Spec PyProof.Rows L2
section
variable {X : Cx} {E : XK} {a b e : Expr} {f g : Ex} {pos p1 p2 p3 : Pos}
/-- a text turned about -/
def revS (a : Ex) : Ex := fun σ S => (a σ S).bind fun x S1 => match x with
  | .py (.str z) => if z.length ≤ sizeLine then .ok (.py (.str ⟨z.cps.toList.reverse.toArray⟩)) S1 else .no
  | _ => .no
/-- the items of a list -/
def lstOf (S : Sto) : D → Option (List D)
  | .py (.list ds) => some (ds.map .py)
  | .obj n => match S[n]? with
    | some (.lst ds) => some ds
    | _ => none
  | _ => none
/-- a new list: two lists put together -/
def catL (a b : Ex) : Ax := fun σ S => (a σ S).bind fun x S1 => (b σ S1).bind fun y S2 => match lstOf S2 x, lstOf S2 y with
  | some xs, some ys => if xs.length + ys.length ≤ sizeLine then .ok (xs ++ ys) S2 else .no
  | _, _ => .no
/-- a new list: a list so many times -/
def repL (a b : Ex) : Ax := fun σ S => (a σ S).bind fun x S1 => (b σ S1).bind fun y S2 => match lstOf S2 x, y with
  | some xs, .py (.int k) => if -1000 ≤ k ∧ k ≤ 1000 ∧ xs.length ≤ 1000 then .ok (List.replicate k.toNat xs).flatten S2 else .no
  | _, _ => .no
@[simp] theorem isaE_raw {a : Nat} {b : Bool} {r : En} {S : Sto} : isaE a 0 b (some (.raw a) :: r) S = .ok (.py (.bool b)) S := by simp [isaE]
end
end DV

set_option maxHeartbeats 4000000
namespace DV
open PySem
/-! Lists of truths, counted and gone through. -/
end DV

set_option maxHeartbeats 4000000
namespace DV
open PySem PySem.Spec PyProof.Rows L2
/-! The text of a thing in which there are dicts. -/
mutual
inductive Dd (K : PySem.W.Frag) (H : Hp) : V → PyData → Prop
  | non : Dd K H .non .none
  | bl (b : Bool) : Dd K H (.bl b) (.bool b)
  | int (i : Int) : Dd K H (.int i) (.int i)
  | str (x : Str) : Dd K H (.str x) (.str x)
  | lst {a : Addr} {xs : List V} {ds : List PyData} : SqL K H a xs → DdAll K H xs ds → Dd K H (.ref a) (.list ds)
  | tup {a : Addr} {xs : List V} {ds : List PyData} : SqT K H a xs → DdAll K H xs ds → Dd K H (.ref a) (.tuple ds)
  | dic {a : Addr} {o : Obj} {kvs : List (Key × V)} {ds : List PyData} : H a = some (.frz o (.dK kvs)) → DdAll K H (kvs.map Prod.snd) ds → Dd K H (.ref a) (.dict ((kvs.map fun kv => keyP kv.1).zip ds))
inductive DdAll (K : PySem.W.Frag) (H : Hp) : List V → List PyData → Prop
  | nil : DdAll K H [] []
  | cons {v : V} {vs : List V} {d : PyData} {ds : List PyData} : Dd K H v d → DdAll K H vs ds → DdAll K H (v :: vs) (d :: ds)
end
section
variable {K : PySem.W.Frag} {H : Hp}
mutual
theorem Pp.dd : ∀ {v : V} {d : PyData}, Pp K H v d → Dd K H v d
  | _, _, .non => .non
  | _, _, .bl b => .bl b
  | _, _, .int i => .int i
  | _, _, .str x => .str x
  | _, _, .lst h _ hs => .lst h.sq (PpAll.dd hs)
  | _, _, .tup h _ hs => .tup h.sq (PpAll.dd hs)
  | _, _, .dic h _ hs => .dic h (PpAll.dd hs)
theorem PpAll.dd : ∀ {vs : List V} {ds : List PyData}, PpAll K H vs ds → DdAll K H vs ds
  | _, _, .nil => .nil
  | _, _, .cons h hs => .cons (Pp.dd h) (PpAll.dd hs)
end
mutual
theorem deep_dd {ι : List Addr} {S : Sto} (hS : StR K ι H S) : ∀ (n : Nat) {v : V} {d : D} {p : PyData}, Rd K ι H v d → deep S n d = some p → Dd K H v p
  | 0, _, _, _, _, h => by cases h
  | n + 1, v, .py d, p, r, h => by
    cases r with
    | py r => cases h; exact r.dd
  | n + 1, v, .raw m, p, r, h => by cases h
  | n + 1, v, .obj m, p, r, h => by
    cases r with
    | obj e =>
      simp only [deep] at h
      split at h
      · rename_i ds hd
        rw [Option.map_eq_some_iff] at h
        obtain ⟨ps, h1, h2⟩ := h
        subst h2
        cases hS.at_ _ _ _ hd e with
        | lst ha rr => exact .lst (.of ha) (deep_ddall hS n rr h1)
      · cases h
theorem deep_ddall {ι : List Addr} {S : Sto} (hS : StR K ι H S) (n : Nat) : ∀ {vs : List V} {ds : List D} {ps : List PyData}, RdAll K ι H vs ds → ds.mapM (deep S n) = some ps → DdAll K H vs ps
  | _, [], _, .nil, h => by
    simp at h
    subst h
    exact .nil
  | _, d :: ds, ps, .cons r rs, h => by
    rw [List.mapM_cons] at h
    simp only [Option.bind_eq_bind, Option.bind_eq_some_iff, Option.pure_def, Option.some.injEq] at h
    obtain ⟨p, h1, qs, h2, rfl⟩ := h
    exact .cons (deep_dd hS n r h1) (deep_ddall hS n rs h2)
end
end
section
variable {X : Cx} {pins : List (Addr × Obj)} {σ : L2.St} {H : Hp} {s : Shared}
theorem keys_show {P : Program} {w : World} {h : Heap} : ∀ {es : List DictEntry} {vs : List (Key × Value)} {kvs : List (Key × V)}, Pairs (mixKind P w) es vs → KV kvs vs →
    Vals (kvs.map Prod.snd) (es.map (·.val)) ∧ (∃ as, ReadsAll h (es.map (·.key)) (kvs.map fun kv => keyP kv.1) as) ∧
    (PyData.showableAll (kvs.map fun kv => keyP kv.1) = true → (∀ t ∈ PyData.shownAll (kvs.map fun kv => keyP kv.1), t.length ≤ sizeLine) → ∀ d, ReprAllK P w [] h d (es.map (·.key)) (PyData.shownAll (kvs.map fun kv => keyP kv.1)))
  | _, _, _, .nil, .nil => ⟨.nil, ⟨_, .nil⟩, fun _ _ d => by
    show ReprAllK P w [] h d [] (PyData.shownAll [])
    rw [PyData.shownAll.eq_1]
    exact .nil⟩
  | _, _, _, .cons hk hv hs, .cons r rs => by
    obtain ⟨h1, ⟨as, h2⟩, h3⟩ := keys_show hs rs
    obtain ⟨e1, e2⟩ := r
    rename_i e kv es vs p kvs
    refine ⟨.cons (by show RelV p.2 e.val; rw [hv]; exact e2) h1, ?_⟩
    rw [← e1, mixKind_is] at hk
    rcases keyIs_shape hk with ⟨i, t, hp, he⟩ | ⟨x, t, hp, he⟩
    · obtain ⟨p1, p2⟩ := p
      replace hp : p1 = _ := hp
      subst hp
      refine ⟨⟨_, .cons (by show Reads h e.key (.int i) _; rw [he]; exact .int i t) h2⟩, fun q1 q2 d => ?_⟩
      rw [List.map_cons, PyData.showableAll.eq_2] at q1
      obtain ⟨q3, q4⟩ := Bool.and_eq_true_iff.mp q1
      have q5 : ∀ t ∈ PyData.shownAll (kvs.map fun kv => keyP kv.1), t.length ≤ sizeLine := fun t ht => q2 t (by rw [List.map_cons, PyData.shownAll.eq_2]; exact List.mem_cons_of_mem _ ht)
      rw [List.map_cons, List.map_cons, PyData.shownAll.eq_2]
      refine .cons ?_ (h3 q4 q5 d)
      rw [he]
      simp only [keyP, PyData.shown]
      exact .of_is (ReprIs.int t (by simpa [keyP, PyData.showable] using q3)) _ _ _
    · obtain ⟨p1, p2⟩ := p
      replace hp : p1 = _ := hp
      subst hp
      refine ⟨⟨_, .cons (by show Reads h e.key (.str x) _; rw [he]; exact .str x t) h2⟩, fun q1 q2 d => ?_⟩
      rw [List.map_cons, PyData.showableAll.eq_2] at q1
      obtain ⟨q3, q4⟩ := Bool.and_eq_true_iff.mp q1
      have q5 : ∀ t ∈ PyData.shownAll (kvs.map fun kv => keyP kv.1), t.length ≤ sizeLine := fun t ht => q2 t (by rw [List.map_cons, PyData.shownAll.eq_2]; exact List.mem_cons_of_mem _ ht)
      have q6 := q2 (keyP (.inr x)).shown (by rw [List.map_cons, PyData.shownAll.eq_2]; exact List.mem_cons_self ..)
      rw [List.map_cons, List.map_cons, PyData.shownAll.eq_2]
      refine .cons ?_ (h3 q4 q5 d)
      rw [he]
      simp only [keyP, PyData.shown] at q6 ⊢
      exact .of_is (ReprIs.str x t q6) _ _ _
theorem zip_fst {α β : Type} {as : List α} {bs : List β} (h : as.length = bs.length) : (as.zip bs).map (·.1) = as := List.map_fst_zip (by omega)
theorem zip_snd {α β : Type} {as : List α} {bs : List β} (h : as.length = bs.length) : (as.zip bs).map (·.2) = bs := List.map_snd_zip (by omega)
theorem DdAll.length {K : PySem.W.Frag} {H : Hp} : ∀ {vs : List V} {ds : List PyData}, DdAll K H vs ds → vs.length = ds.length
  | _, _, .nil => rfl
  | _, _, .cons _ hs => by rw [List.length_cons, List.length_cons, DdAll.length hs]
mutual
theorem Dd.ok (I : Inv X pins σ H s) : ∀ {v : V} {d : PyData} {u : Value}, Dd X.K H v d → RelV v u → (∃ as, Reads s.heap u d as) ∧
    (d.showable = true → d.shown.length ≤ sizeLine → ∃ bs, ReadAtMost s.heap d.depth bs ∧ ReprK X.prog X.w bs s.heap d.depth u d.shown)
  | _, _, _, .non, r => by
    cases r
    exact ⟨⟨_, .none⟩, fun _ _ => ⟨[], (fun _ h => nomatch h), by simp only [PyData.shown]; exact .of_is ReprIs.none _ _ _⟩⟩
  | _, _, _, .bl b, r => by
    cases r
    exact ⟨⟨_, .bool b⟩, fun _ _ => ⟨[], (fun _ h => nomatch h), by simp only [PyData.shown]; exact .of_is (ReprIs.bool b) _ _ _⟩⟩
  | _, _, _, .int i, r => by
    obtain ⟨t, rfl⟩ := r
    exact ⟨⟨_, .int i t⟩, fun hs _ => ⟨[], (fun _ h => nomatch h), by simp only [PyData.shown]; exact .of_is (ReprIs.int t (by simpa [PyData.showable] using hs)) _ _ _⟩⟩
  | _, _, _, .str x, r => by
    obtain ⟨t, rfl⟩ := r
    exact ⟨⟨_, .str x t⟩, fun _ hz => ⟨[], (fun _ h => nomatch h), by simp only [PyData.shown]; exact .of_is (ReprIs.str x t (by simpa only [PyData.shown] using hz)) _ _ _⟩⟩
  | _, _, _, .lst (a := a) (ds := ds) hs ha, r => by
    cases r
    obtain ⟨its, rv, ⟨o, n, ho, hc, _, hd⟩, _⟩ := I.list hs
    obtain ⟨⟨as, hr⟩, hK⟩ := DdAll.ok I ha rv
    have r : Reads s.heap (.ref a) (.list ds) _ := .list ho hc hd hr
    refine ⟨⟨_, r⟩, fun hs hz => ?_⟩
    have hz' : (listText (PyData.shownAll ds)).length ≤ sizeLine := by simpa only [PyData.shown] using hz
    obtain ⟨bs, hb, hk⟩ := hK (by simpa [PyData.showable] using hs) (fun t ht => Nat.le_trans (listText_mem_le ht) hz')
    have hna : a ∉ bs := not_mem_of_deeper r (by simp only [PyData.depth]; omega) hb
    refine ⟨a :: bs, ReadAtMost.cons r (by simp only [PyData.depth]; omega) hb, ?_⟩
    simp only [PyData.depth, PyData.shown]
    cases its with
    | nil =>
      cases ha with
      | nil =>
        simp only [PyData.shownAll, listText_nil]
        exact ReprK.listEmpty ho hc hd
      | cons => cases rv
    | cons x l => exact ReprK.list ho hc hd hna (by simpa using hk.length_eq) (fun i y e => hk.item i y (by simpa using e))
  | _, _, _, .tup (a := a) (ds := ds) hs ha, r => by
    cases r
    obtain ⟨its, rv, ⟨o, ho, hc, n, hd⟩, _⟩ := I.tuple hs
    obtain ⟨⟨as, hr⟩, hK⟩ := DdAll.ok I ha rv
    have r : Reads s.heap (.ref a) (.tuple ds) _ := .tuple ho hc hd hr
    refine ⟨⟨_, r⟩, fun hs hz => ?_⟩
    have hz' : (tupleText (PyData.shownAll ds)).length ≤ sizeLine := by simpa only [PyData.shown] using hz
    obtain ⟨bs, hb, hk⟩ := hK (by simpa [PyData.showable] using hs) (fun t ht => Nat.le_trans (tupleText_mem_le ht) hz')
    have hna : a ∉ bs := not_mem_of_deeper r (by simp only [PyData.depth]; omega) hb
    refine ⟨a :: bs, ReadAtMost.cons r (by simp only [PyData.depth]; omega) hb, ?_⟩
    simp only [PyData.depth, PyData.shown]
    exact ReprK.tuple ho hc hd hna hk
  | _, _, _, .dic (a := a) (o := o) (kvs := kvs) (ds := ds) he ha, r => by
    cases r
    obtain ⟨_, hsys, vs, rel, ⟨o, es, ep, ho, hc, hd, _, hp, _⟩⟩ := dk_rd I.hok (.inr ⟨o, he⟩)
    obtain ⟨rv, ⟨as, hrk⟩, hkk⟩ := keys_show (h := s.heap) hp rel
    obtain ⟨⟨bs, hr⟩, hK⟩ := DdAll.ok I ha rv
    have hl : (kvs.map fun kv => keyP kv.1).length = ds.length := by rw [List.length_map, ← ha.length, List.length_map]
    generalize hD : (kvs.map fun kv => keyP kv.1).zip ds = D
    have e1 : D.map (·.1) = kvs.map fun kv => keyP kv.1 := by rw [← hD]; exact zip_fst hl
    have e2 : D.map (·.2) = ds := by rw [← hD]; exact zip_snd hl
    rw [← e1] at hrk hkk
    rw [← e2] at hr hK
    have r : Reads s.heap (.ref a) (.dict D) _ := .dict ho hc.1 hd hrk hr
    refine ⟨⟨_, r⟩, fun hs hz => ?_⟩
    have hz' : (dictText (PyData.shownKv D)).length ≤ sizeLine := by simpa only [PyData.shown] using hz
    obtain ⟨hs1, hs2⟩ := PyData.showableKv_split D (by simpa [PyData.showable] using hs)
    have k1 := hkk hs1 (fun t ht => let ⟨p, hp, hl⟩ := PyData.shownKv_key_le D t ht; Nat.le_trans hl (Nat.le_trans (dictText_mem_le hp) hz')) (PyData.depthKv D)
    obtain ⟨b2, hb2, k2⟩ := hK hs2 (fun t ht => let ⟨p, hp, hl⟩ := PyData.shownKv_val_le D t ht; Nat.le_trans hl (Nat.le_trans (dictText_mem_le hp) hz'))
    have hb : ReadAtMost s.heap (PyData.depthKv D) b2 := hb2.mono (PyData.depthAll_vals_le D)
    have hna : a ∉ b2 := not_mem_of_deeper r (by simp only [PyData.depth]; omega) hb
    refine ⟨a :: b2, ReadAtMost.cons r (by simp only [PyData.depth]; omega) hb, ?_⟩
    simp only [PyData.depth, PyData.shown, PyData.shownKv_eq]
    exact ReprK.dict ho hc.1 hd hsys hna (ReprEntriesK.of_two es.toList _ _ (k1.more_le (as := []) (as' := b2) (fun b hb => absurd hb List.not_mem_nil) (Nat.le_refl _)) (k2.more_le (fun b hb => hb) (PyData.depthAll_vals_le D)))
theorem DdAll.ok (I : Inv X pins σ H s) : ∀ {vs : List V} {ds : List PyData} {us : List Value}, DdAll X.K H vs ds → Vals vs us → (∃ as, ReadsAll s.heap us ds as) ∧
    (PyData.showableAll ds = true → (∀ t ∈ PyData.shownAll ds, t.length ≤ sizeLine) → ∃ bs, ReadAtMost s.heap (PyData.depthAll ds) bs ∧ ReprAllK X.prog X.w bs s.heap (PyData.depthAll ds) us (PyData.shownAll ds))
  | _, _, _, .nil, r => by
    cases r
    exact ⟨⟨_, .nil⟩, fun _ _ => ⟨[], (fun _ h => nomatch h), by simp only [PyData.shownAll]; exact .nil⟩⟩
  | _, _, _, .cons (d := d) (ds := ds) h hs, r => by
    cases r with
    | cons r1 r2 =>
      obtain ⟨⟨as, q1⟩, k1⟩ := Dd.ok I h r1
      obtain ⟨⟨bs, q2⟩, k2⟩ := DdAll.ok I hs r2
      refine ⟨⟨_, .cons q1 q2⟩, fun hs hz => ?_⟩
      have hs' : d.showable = true ∧ PyData.showableAll ds = true := by simpa [PyData.showableAll] using hs
      obtain ⟨b1, hb1, k1⟩ := k1 hs'.1 (hz _ (by simp only [PyData.shownAll]; exact List.mem_cons_self ..))
      obtain ⟨b2, hb2, k2⟩ := k2 hs'.2 (fun t ht => hz t (by simp only [PyData.shownAll]; exact List.mem_cons_of_mem _ ht))
      refine ⟨b1 ++ b2, ?_, ?_⟩
      · simp only [PyData.depthAll]
        exact (hb1.mono (Nat.le_max_left _ _)).append (hb2.mono (Nat.le_max_right _ _))
      · simp only [PyData.depthAll, PyData.shownAll]
        exact .cons ((k1.more fun b hb => List.mem_append_left _ hb).level_le (Nat.le_max_left _ _)) (k2.more_le (fun b hb => List.mem_append_right _ hb) (Nat.le_max_right _ _))
end
end
end DV

set_option maxHeartbeats 4000000
namespace DV
open PySem PySem.Spec PyProof.Rows L2
/-! Texts in order. -/
variable {X : Cx}
end DV

set_option maxHeartbeats 4000000
namespace DV
open PySem PySem.Spec PyProof.Rows L2
/-! str(int), tuple[::-1], len(set(ints)). -/
/-! ### a tuple turned about -/
section
variable {prog : Program} {w : World} {A : Around} {E : Value → Shared → Prop} {s : Shared}
end
section
variable {X : Cx} {E : XK} {a b e : Expr} {f g : Ex} {k : Nat} {pos p p1 p2 p3 q : Pos}
def revTE (a : Ex) : Ex := fun σ S => (a σ S).bind fun x S1 => match x with
  | .py (.tuple ds) => .ok (.py (.tuple ds.reverse)) S1
  | _ => .no
/-! ### str(int) -/
/-! ### len(set(ints)) -/
/-! ### pairs of ints in order -/
/-! ### a part of a tuple, of a list -/
def tFzO (t : TE) : TE := fun σ H Q => t σ H fun v H1 => (∃ a xs, v = .ref a ∧ H1 a = some (.lst xs) ∧ ∀ o, Q v (upd H1 a (.frz o (.lst xs)))) ∨ Q v H1
theorem pe_frzO {t : TE} (p : PE X e t) : PE X e (tFzO t) := by
  refine ⟨fun pins s σ H Q I h => thn (p.run pins s σ H _ I h) fun u s1 ⟨v, H1, I1, r, q⟩ => ?_⟩
  rcases q with ⟨a, xs, ev, ha, q⟩ | q
  · obtain ⟨o, I2⟩ := I1.lock ha trivial
    exact ⟨v, _, I2, r, q o⟩
  · exact ⟨v, H1, I1, r, q⟩
def sliceAV (x : D) (lo hi : Option Int) (S : Sto) : R D := match x with
  | .py (.tuple ds) => .ok (.py (.tuple (cutP ds lo hi))) S
  | .py (.list ds) => .ok (.py (.list (cutP ds lo hi))) S
  | _ => .no
def sliceA (a : Ex) (lo hi : Px) : Ex := fun σ S => (a σ S).bind fun x S1 => (lo σ S1).bind fun l S2 => (hi σ S2).bind fun h S3 => sliceAV x l h S3
theorem de_sliceA {lo hi : Option Expr} {fl fh : Px} (he : DE X E e f) (hl : DP X E lo fl) (hh : DP X E hi fh) : DE X E (.Subscript e (.Slice lo hi none p2) pos) (sliceA f fl fh) := by
  obtain ⟨t, p, q⟩ := he
  obtain ⟨tl, pl, ql⟩ := hl
  obtain ⟨th, ph, qh⟩ := hh
  refine ⟨_, pe_frzO (pe_slice ((sl_tupS (X := X)).or sl_list) p pl ph), fun σ H σd S ι Q hE hS h => ?_⟩
  refine q σ H σd S ι _ hE hS (Wp.bind h fun x S1 _ v H1 ι1 p1 r1 h1 => ?_)
  refine ql σ H1 σd S1 ι1 _ (hE.mono p1.pre p1.keep) p1.sto (Wp.bind h1 fun l S2 _ l' H2 ι2 p2 rl h2 => ?_)
  refine qh σ H2 σd S2 ι2 _ ((hE.mono p1.pre p1.keep).mono p2.pre p2.keep) p2.sto (Wp.bind h2 fun u S3 _ u' H3 ι3 p3 ru h3 => ?_)
  cases rl
  cases ru
  have r3 := (r1.mono p2.pre p2.keep).mono p3.pre p3.keep
  unfold sliceAV at h3
  split at h3
  · rename_i ds _
    cases r3 with
    | py r3 =>
      cases r3 with
      | tup hT hz al =>
        have hc := cut_pp al l u
        have hcl := cut_len ds l u
        refine .inl ⟨_, _, rfl, hT.sq, fun ha => .inr (h3 _ _ _ (.refl p3.sto) (.py ?_)), fun _ p o ho hp => .inr (h3 _ _ _ (.new p3.sto hp) (.py (.tup (.new ho) (Nat.le_trans hcl hz) (hc.keep (.new hp)))))⟩
        rw [al.length] at ha
        rw [cut_all ds l u ha]
        exact .tup hT hz al
  · rename_i ds _
    cases r3 with
    | py r3 =>
      cases r3 with
      | lst hF hz al =>
        have hc := cut_pp al l u
        have hcl := cut_len ds l u
        refine .inr ⟨_, _, rfl, hF.sq, fun p hp => .inl ⟨p, _, rfl, upd_same, fun o => ?_⟩⟩
        rw [upd_upd]
        exact h3 _ _ _ (.new p3.sto hp) (.py (.lst (.inl ⟨o, upd_same⟩) (Nat.le_trans hcl hz) (hc.keep (.new hp))))
  · exact h3.elim
end
end DV

set_option maxHeartbeats 2000000
namespace DV
open PySem PySem.Spec PyProof.Rows L2
/-! some list, or another where it is empty -/
section
variable {X : Cx} {E : XK} {a b : Expr} {f g : Ex} {rest : List Expr} {pos : Pos}
end
end DV

set_option maxHeartbeats 4000000
namespace DV
open PySem PySem.Spec PyProof.Rows L2
open Sem (wp)
/-! (a, b, ..) = a list by value -/
section
variable {prog : Program} {w : World} {A : Around} {E : Value → Shared → Prop} {s : Shared}
end
section
variable {X : Cx} {E : XK} {pos : Pos}
end
end DV

set_option maxHeartbeats 4000000
namespace DV
open PySem PySem.Spec PyProof.Rows L2
/-! len(set(texts)) with repetitions; len(set(tuples of ints)). -/
def stepS (acc : List Str) (v : Str) : List Str := if acc.any (· == v) then acc else acc ++ [v]
def dedS (xs : List Str) : List Str := xs.foldl stepS []
def metS (xs : List Str) (i : Nat) : List Str := dedS (xs.take i)
theorem metS_succ {xs : List Str} {i : Nat} (h : i < xs.length) : metS xs (i + 1) = stepS (metS xs i) (xs.getD i Str.empty) := by
  unfold metS dedS
  rw [List.take_succ_eq_append_getElem h, List.foldl_append]
  simp [List.getD_eq_getElem?_getD, h]
theorem metS_all (xs : List Str) : metS xs xs.length = dedS xs := by unfold metS; rw [List.take_length]
theorem stepS_any (σ : List Str) (v k : Str) : (stepS σ v).any (· == k) = (σ.any (· == k) || decide (k = v)) := by
  unfold stepS
  by_cases h : σ.any (· == v) = true
  · rw [if_pos h]
    by_cases e : k = v
    · subst e; rw [h]; simp
    · simp [e]
  · rw [if_neg h, List.any_append]
    by_cases e : k = v
    · subst e; simp
    · have hb : (v == k) = false := by simpa [beq_iff_eq] using (fun h' : v = k => e h'.symm)
      simp [hb, e]
theorem stepS_length (σ : List Str) (v : Str) : (stepS σ v).length = if σ.any (· == v) then σ.length else σ.length + 1 := by
  unfold stepS; split <;> simp
theorem foldS_le : ∀ (xs acc : List Str), (xs.foldl stepS acc).length ≤ acc.length + xs.length
  | [], acc => by simp
  | x :: xs, acc => by
    have h := foldS_le xs (stepS acc x)
    have h2 := stepS_length acc x
    rw [List.foldl_cons]
    split at h2 <;> simp <;> omega
theorem dedS_le (xs : List Str) : (dedS xs).length ≤ xs.length := by simpa [dedS] using foldS_le xs []
theorem metS_le (xs : List Str) (i : Nat) : (metS xs i).length ≤ i := Nat.le_trans (dedS_le _) (by rw [List.length_take]; exact Nat.min_le_left _ _)
section
variable {prog : Program} {w : World} {A : Around} {R : Result → Shared → Prop} {I : Addr} {fp wr : List Addr} {G : Array GenState → Array GenState → Prop} {n : Nat} {P : Nat → Value → Prop} {St : Nat → Shared → Prop}
theorem set_loop_texts (W : WalksS prog w A.in1 I fp wr G n P St) (S : Addr) (hSf : S ∉ fp) (xs : List Str) (hsz : xs.length = n) (hb : n + 1 < scanBound)
    (hval : ∀ i v, P i v → ∃ t, v = .str (xs.getD i Str.empty) t) :
    ∀ (k i : Nat) (s : Shared), n - i = k → i ≤ n → St i s →
      s.heap.SetOf (PySem.strKind prog w) S (fun k' => (metS xs i).any (· == k')) (metS xs i).length →
      (∀ s', Moved (S :: wr) G s s' → s'.heap.SetOf (PySem.strKind prog w) S (fun k' => (metS xs n).any (· == k')) (metS xs n).length → R (.ok (.ret .none)) s') →
      codeAny (model prog w) A (.builtin "set.update.loop" ⟨[.ref S, .ref I], []⟩) R s := by
  have hSw : S ∉ wr := fun h => hSf (W.sub _ h)
  have hsub : ∀ b ∈ wr, b ∈ S :: wr := fun b hb => List.mem_cons_of_mem _ hb
  intro k
  induction k with
  | zero =>
    intro i s hk hi hst hS hR
    obtain rfl : i = n := by omega
    refine codeAny_builtin PyProof.Rows.F.entry_set_update_loop ?_
    rw [Around.under_plainId PyProof.Rows.F.plain_set_update_loop _]
    show wpAny _ A.in1 (pyNext (.ref I) >>= _) _ _ s
    refine wpAny_bind (W.done s _ _ hst fun s' hm => ?_)
    show wpAny _ A.in1 (ret Value.none) _ _ s'
    obtain ⟨o, es, ep, t, ho, rest⟩ := hS
    exact wpAny_pure (hR s' (hm.mono hsub) ⟨o, es, ep, t, hm.heap S _ hSw ho, rest⟩)
  | succ k ih =>
    intro i s hk hi hst hS hR
    have hlt : i < n := by omega
    refine codeAny_builtin PyProof.Rows.F.entry_set_update_loop ?_
    rw [Around.under_plainId PyProof.Rows.F.plain_set_update_loop _]
    show wpAny _ A.in1 (pyNext (.ref I) >>= _) _ _ s
    refine wpAny_bind (W.item i s _ _ hlt hst fun v s' hP hst' hm => ?_)
    obtain ⟨t, rfl⟩ := hval i v hP
    obtain ⟨o, es, ep, tb, ho, rest⟩ := hS
    have hS' : s'.heap.SetOf (PySem.strKind prog w) S (fun k' => (metS xs i).any (· == k')) (metS xs i).length := ⟨o, es, ep, tb, hm.heap S _ hSw ho, rest⟩
    have hroom : (metS xs i).length + 1 < scanBound := by have := metS_le xs i; omega
    show wpAny _ A.in1 (holding [Value.str (xs.getD i Str.empty) t] (setAdd S (.str (xs.getD i Str.empty) t)) >>= _) _ _ s'
    refine wpAny_bind (wpAny_holding ?_)
    unfold setAdd
    refine wpAny_holding ?_
    refine wpAny_bind ((PySem.strKind prog w).pyHash (k := xs.getD i Str.empty) (strKind_is _ _ _ _) ?_)
    refine wpAny_setAddHashed_of (knd := PySem.strKind prog w) (s := { s' with toks := s'.toks + 1 }) (strKind_is _ _ _ _) rfl hS' hroom fun h' hsb hS2 => ?_
    have hl : i < xs.length := by omega
    have hSi : h'.SetOf (PySem.strKind prog w) S (fun k' => (metS xs (i + 1)).any (· == k')) (metS xs (i + 1)).length :=
      SetOf_congr hS2 (fun k' => by rw [metS_succ hl, stepS_any]) (by rw [metS_succ hl, stepS_length])
    refine wpAny_pure ⟨plainId_quiet PyProof.Rows.F.plain_set_update_loop _, ih (i + 1) _ (by omega) hlt (W.frame _ s' _ _ hst' (Nat.le_succ _) fun b hb o e => ?_) hSi fun s'' hm'' hS'' => ?_⟩
    · rw [hsb.2 b (fun h : b = S => hSf (by rw [← h]; exact hb))]; exact e
    · refine hR s'' (Moved.trans W.gtrans ((hm.mono hsub).then_heap (Nat.le_succ _) fun b o hb e => ?_) hm'') hS''
      rw [hsb.2 b (fun h : b = S => hb (by rw [h]; exact List.mem_cons_self))]; exact e
end
section
variable {prog : Program} {w : World} {A : Around} {E : Value → Shared → Prop} {s : Shared}
open PySem.F in
theorem call_set_texts {l : Addr} {items : Array Value} {xs : List Str} {Q : Value → Shared → Prop}
    (hh : A.handled = none) (hl : s.heap.IsList l items) (hi : PyProof.Rows.StrsAre items.toList xs) (hb : items.size + 1 < scanBound)
    (h : ∀ (h' : Heap) (tk : Nat), h'.SetOf (PySem.strKind prog w) s.heap.objs.size (fun k' => (metS xs items.size).any (· == k')) (metS xs items.size).length →
      (∀ b o, b < s.heap.objs.size → s.heap.get? b = some o → h'.get? b = some o) → Q (.ref s.heap.objs.size) { s with heap := h', toks := tk }) :
    wpAny (model prog w) A (call (.type "set") [.ref l]) Q E s := by
  obtain ⟨c, tl, hmro⟩ := PySem.F.called_set.mro
  have hmade := PySem.F.called_set.made
  have hsub := PySem.F.called_set.sub
  refine wpAny_call (codeAny_of_tree ?_)
  show wpAny _ _ (callAny (.type "set") _) _ _ _
  refine wpAny_pure ⟨Code.quiet_builtin _ (by decide +kernel), codeAny_builtin PySem.F.entry_type_call ?_⟩
  rw [Around.under_plain (weight_type_call_type "set" [.ref l] []) rfl]
  have h1 := PySem.F.called_set.notType
  have h2 := PySem.F.called_set.canCreate
  have hct := PySem.F.typeCall_set_1 (.ref l)
  repeat (any_goals (first | assumption | wp_step))
  refine codeAny_mono (code_set_new_1 (.ref l) (E := E) (Q₁ := fun obj s₁ => ∃ led : Bool, obj = .ref s.heap.objs.size ∧ s₁ = { s with heap := s.heap.push { cls := .type "set", dict := none, data := .set #[] 0 (.fresh 0 0 led) } }) fun led => ⟨led, rfl, rfl⟩) fun r s₁ hr => ?_
  match r, hr with
  | .error e, hr => exact hr
  | .ok .next, hr => exact hr.elim
  | .ok .brk, hr => exact hr.elim
  | .ok .cont, hr => exact hr.elim
  | .ok (.ret obj), hr =>
    obtain ⟨led, rfl, rfl⟩ := hr
    have hS : (s.heap.push { cls := .type "set", dict := none, data := .set #[] 0 (.fresh 0 0 led) }).get? s.heap.objs.size = some { cls := .type "set", dict := none, data := .set #[] 0 (.fresh 0 0 led) } := Heap.get?_push_size _ rfl
    have hT : Shared.TypeIs { s with heap := s.heap.push { cls := .type "set", dict := none, data := .set #[] 0 (.fresh 0 0 led) } } (.ref s.heap.objs.size) "set" := ⟨_, hS, rfl⟩
    have hli := PySem.F.called_set.init.lookup
    have hbi := PySem.F.called_set.init.bind (.ref s.heap.objs.size)
    repeat (any_goals (first | assumption | wp_step))
    refine codeAny_mono (codeAny_call_builtin (R := wants (fun r s₂ => r = .none ∧ ∃ h' tk, s₂ = { s with heap := h', toks := tk } ∧
        h'.SetOf (PySem.strKind prog w) s.heap.objs.size (fun k' => (metS xs items.size).any (· == k')) (metS xs items.size).length ∧
        (∀ b o, b < s.heap.objs.size → s.heap.get? b = some o → h'.get? b = some o)) E) PySem.F.called_set.init.plain PySem.F.entry_set_init (check_set_init_1 hT ?_)) fun r₂ s₂ hr₂ => ?_
    · obtain ⟨ol, hol, hcl, nl, hdl⟩ := hl
      obtain ⟨ocls, odict, odata, oslots⟩ := ol
      simp only at hcl hdl
      subst hcl; subst hdl
      have hol' : (s.heap.push { cls := .type "set", dict := none, data := .set #[] 0 (.fresh 0 0 led) }).get? l = some { cls := .type "list", dict := odict, data := .seq items nl, slots := oslots } := Heap.get?_push_of_some _ hol
      have hsls := PySem.F.sub_list_set
      have hslf := PySem.F.sub_list_frozenset
      have hne : (Value.type "list" == Value.type "dict") = false := by decide
      have hl1 : (s.heap.push { cls := .type "set", dict := none, data := .set #[] 0 (.fresh 0 0 led) }).IsList l items := ⟨_, hol', rfl, nl, rfl⟩
      unfold Builtin.«set.__init__» noKeywords Builtin.Frozenset.updateFrom
      generalize hPI : pyIter = PI
      wp_walk
      subst hPI
      refine wpAny_pyIter_list hl1 ?_
      refine wpAny_bind (wpAny_runValue ?_)
      have hlS : l < s.heap.objs.size := Heap.lt_size hol
      have hh3 : A.in1.in1.in1.handled = none := by simp [hh]
      have hneI : l ≠ (s.heap.push { cls := .type "set", dict := none, data := .set #[] 0 (.fresh 0 0 led) }).objs.size := by
        rw [Heap.size_push]; exact Nat.ne_of_lt (Nat.lt_succ_of_lt hlS)
      have hSf : s.heap.objs.size ∉ [(s.heap.push { cls := .type "set", dict := none, data := .set #[] 0 (.fresh 0 0 led) }).objs.size, l] := by
        rw [Heap.size_push]; simp only [List.mem_cons, List.mem_singleton, List.not_mem_nil, or_false, not_or]
        exact ⟨Nat.ne_of_lt (Nat.lt_succ_self _), Nat.ne_of_gt hlS⟩
      have hsz : xs.length = items.size := by rw [← StrsAre.len_eq hi, Array.length_toList]
      have hval : ∀ (i : Nat) (v : Value), items[i]? = some v → ∃ t, v = .str (xs.getD i Str.empty) t := fun i v hv => SS.strs_at hi i v (by rw [Array.getElem?_toList]; exact hv)
      refine set_loop_texts ((Walks.list hh3 _ l hneI items).toS) s.heap.objs.size
        hSf xs hsz hb hval (items.size - 0) 0 _ (by omega) (Nat.zero_le _)
        ⟨⟨_, Heap.get?_push_size _ rfl, rfl, rfl⟩, (hl1.push _)⟩ ?hS0 ?hR
      case hS0 =>
        have hget : ((s.heap.push { cls := .type "set", dict := none, data := .set #[] 0 (.fresh 0 0 led) }).push { cls := .type "list_iterator", data := .fields #[.ref l, .int 0 0] }).get? s.heap.objs.size
            = some { cls := .type "set", dict := none, data := .set #[] 0 (.fresh 0 0 led) } := Heap.get?_push_of_some _ hS
        exact PyProof.Rows.SetOf_congr ((PyProof.Rows.setObjOf_fresh (knd := PySem.strKind prog w) led).setOf hget (by unfold scanBound; omega)) (fun _ => by simp [metS, dedS]) (by simp [metS, dedS])
      case hR =>
        intro s' hm hS'
        obtain ⟨h', g', d', tk', os'⟩ := s'
        have eg : g' = s.gens := hm.gens
        have ed : d' = s.drawn := hm.drawn
        have eo : os' = s.os := hm.os
        subst eg; subst ed; subst eo
        show wpAny _ _ _ _ _ _
        refine wpAny_pure ?_
        show wpAny _ _ (ret Value.none) _ _ _
        refine wpAny_pure ⟨rfl, h', tk', rfl, hS', fun b o hb e => ?_⟩
        have hb1 : b ≠ s.heap.objs.size := Nat.ne_of_lt hb
        have hb2 : b ≠ (s.heap.push { cls := .type "set", dict := none, data := .set #[] 0 (.fresh 0 0 led) }).objs.size := by
          rw [Heap.size_push]; exact Nat.ne_of_lt (Nat.lt_succ_of_lt hb)
        exact hm.heap b o (by simp only [List.mem_cons, List.mem_singleton, List.not_mem_nil, or_false, not_or]; exact ⟨hb1, hb2⟩) (Heap.get?_push_of_some _ (Heap.get?_push_of_some _ e))
    · match r₂, hr₂ with
      | .error e, hr₂ => exact hr₂
      | .ok .next, hr₂ => exact hr₂.elim
      | .ok .brk, hr₂ => exact hr₂.elim
      | .ok .cont, hr₂ => exact hr₂.elim
      | .ok (.ret r), hr₂ =>
        obtain ⟨rfl, h', tk, rfl, hS', hk'⟩ := hr₂
        repeat (any_goals (first | assumption | wp_step))
        exact h _ _ hS' hk'
end
def textsOf : List PyData → Option (List Str)
  | [] => some []
  | .str b :: ds => (textsOf ds).map (b :: ·)
  | _ :: _ => none
def tupsOf : List PyData → Option (List (List Int))
  | [] => some []
  | .tuple b :: ds => (intsOf b).bind fun x => (tupsOf ds).map (x :: ·)
  | _ :: _ => none
theorem dtexts_V {K : PySem.W.Frag} {H : Hp} : ∀ {xs : List V} {ds : List PyData} {bs : List Str}, DpAll K H xs ds → textsOf ds = some bs → xs = bs.map V.str
  | _, _, bs, .nil, h => by
    cases h
    rfl
  | _, d :: ds, bs, .cons r rs, h => by
    cases r with
    | str x =>
      have h : Option.map (x :: ·) (textsOf ds) = some bs := h
      cases hb : textsOf ds with
      | none =>
        rw [hb] at h
        cases h
      | some cs =>
        rw [hb] at h
        cases h
        rw [dtexts_V rs hb]
        rfl
    | _ => exact absurd h (by simp [textsOf])
theorem texts_noDict : ∀ {ds : List PyData} {bs : List Str}, textsOf ds = some bs → PyData.hasDictAll ds = false
  | [], _, _ => rfl
  | d :: ds, bs, h => by
    cases d with
    | str x =>
      have h : Option.map (x :: ·) (textsOf ds) = some bs := h
      cases hb : textsOf ds with
      | none =>
        rw [hb] at h
        cases h
      | some cs => exact (texts_noDict hb : PyData.hasDictAll ds = false)
    | _ => exact absurd h (by simp [textsOf])
theorem tups_noDict : ∀ {ds : List PyData} {bs : List (List Int)}, tupsOf ds = some bs → PyData.hasDictAll ds = false
  | [], _, _ => rfl
  | d :: ds, bs, h => by
    cases d with
    | tuple b =>
      have h : ((intsOf b).bind fun x => (tupsOf ds).map (x :: ·)) = some bs := h
      cases hi : intsOf b with
      | none =>
        rw [hi] at h
        cases h
      | some x =>
        rw [hi] at h
        have h : Option.map (x :: ·) (tupsOf ds) = some bs := h
        cases hb : tupsOf ds with
        | none =>
          rw [hb] at h
          cases h
        | some cs =>
          have e1 : PyData.hasDict (.tuple b) = PyData.hasDictAll b := by simp [PyData.hasDict]
          have e2 : PyData.hasDictAll (.tuple b :: ds) = (PyData.hasDict (.tuple b) || PyData.hasDictAll ds) := by simp [PyData.hasDictAll]
          rw [e2, e1, ints_noDict hi, tups_noDict hb]
          rfl
    | _ => exact absurd h (by simp [tupsOf])
theorem dtups_V {K : PySem.W.Frag} {H : Hp} : ∀ {xs : List V} {ds : List PyData} {bs : List (List Int)}, DpAll K H xs ds → tupsOf ds = some bs →
    ∃ ks : List (Addr × List Int), xs = ks.map (fun p => V.ref p.1) ∧ (∀ p ∈ ks, SqT K H p.1 (p.2.map V.int)) ∧ ks.map Prod.snd = bs
  | _, _, bs, .nil, h => by
    cases h
    exact ⟨[], rfl, fun p hp => (by cases hp), rfl⟩
  | _, d :: ds, bs, .cons r rs, h => by
    cases r with
    | @tup a xs b hx al =>
      have h : ((intsOf b).bind fun x => (tupsOf ds).map (x :: ·)) = some bs := h
      cases hi : intsOf b with
      | none =>
        rw [hi] at h
        cases h
      | some x =>
        rw [hi] at h
        have h : Option.map (x :: ·) (tupsOf ds) = some bs := h
        cases hb : tupsOf ds with
        | none =>
          rw [hb] at h
          cases h
        | some cs =>
          rw [hb] at h
          cases h
          obtain ⟨ks, e1, e2, e3⟩ := dtups_V rs hb
          have ex := dints_V al hi
          subst ex
          refine ⟨(a, x) :: ks, by rw [e1]; rfl, fun p hp => ?_, by rw [← e3]; rfl⟩
          rcases List.mem_cons.mp hp with rfl | hp
          · exact hx
          · exact e2 p hp
    | _ => exact absurd h (by simp [tupsOf])
/-- each thing once, as first met -/
def stepT (acc : List (List Int)) (v : List Int) : List (List Int) := if v ∈ acc then acc else acc ++ [v]
def dedT (xs : List (List Int)) : List (List Int) := xs.foldl stepT []
theorem foldT_mem : ∀ (xs acc : List (List Int)) (v : List Int), v ∈ xs.foldl stepT acc ↔ v ∈ acc ∨ v ∈ xs
  | [], acc, v => by simp
  | x :: xs, acc, v => by
    rw [List.foldl_cons, foldT_mem xs]
    unfold stepT
    split
    · rename_i h
      constructor
      · rintro (q | q)
        · exact .inl q
        · exact .inr (List.mem_cons_of_mem _ q)
      · rintro (q | q)
        · exact .inl q
        · rcases List.mem_cons.mp q with rfl | q
          · exact .inl h
          · exact .inr q
    · simp [or_assoc]
theorem mem_dedT (xs : List (List Int)) (v : List Int) : v ∈ dedT xs ↔ v ∈ xs := by simp [dedT, foldT_mem]
theorem foldT_nodup : ∀ (xs acc : List (List Int)), acc.Nodup → (xs.foldl stepT acc).Nodup
  | [], acc, h => h
  | x :: xs, acc, h => by
    rw [List.foldl_cons]
    refine foldT_nodup xs _ ?_
    unfold stepT
    split
    · exact h
    · rename_i q
      exact List.nodup_append.mpr ⟨h, by simp, fun a ha b hb e => by
        rw [List.mem_singleton.mp hb] at e
        exact q (e ▸ ha)⟩
theorem nodup_dedT (xs : List (List Int)) : (dedT xs).Nodup := foldT_nodup xs [] List.nodup_nil
theorem len_dedT {xs ys : List (List Int)} (hn : ys.Nodup) (h1 : ∀ v ∈ ys, v ∈ xs) (h2 : ∀ v ∈ xs, v ∈ ys) : ys.length = (dedT xs).length :=
  Nat.le_antisymm (hn.length_le_of_subset fun v hv => (mem_dedT _ _).mpr (h1 v hv)) ((nodup_dedT xs).length_le_of_subset fun v hv => h2 v ((mem_dedT _ _).mp hv))
section
variable {X : Cx} {E : XK} {a : Expr} {f : Ex} {p p2 q pos : Pos}
def tLenSetS (K : PySem.W.Frag) (ta : TE) : TE := fun σ H Q => ta σ H fun x H1 => ∃ l : Addr, x = V.ref l ∧
  ((∃ ns : List Str, SqL K H1 l (ns.map V.str) ∧ ns.length ≤ 4000 ∧ Q (.int (dedS ns).length) H1) ∨
   ∃ ks : List (Addr × List Int), SqL K H1 l (ks.map fun p => V.ref p.1) ∧ (∀ p ∈ ks, SqT K H1 p.1 (p.2.map V.int)) ∧ ks.length < 64 ∧ Q (.int (dedT (ks.map Prod.snd)).length) H1)
theorem pe_lenSetS {k : Nat} {ta : TE} (hr : Room k X.A) (hc : X.calm = true) (hm : X.mg "len" = none) (hm2 : X.mg "set" = none) (ha : PE X a ta) (hg : Gl X "len" := by rfl) (hg2 : Gl X "set" := by rfl)
    (na : starEach [a] X.env = (false, eval a X.env) :: starEach [] X.env := by rfl) : PE X (.Call (.Name "len" p) [.Call (.Name "set" p2) [a] [] q] [] pos) (tLenSetS X.K ta) := by
  refine ⟨fun pins s σ H Q I h => ?_⟩
  refine Call_ (ld_blt I hg hm PySem.boot_len ?_)
  refine PyProof.Rows.callWith_builtin1 (PyProof.Rows.args_cons ?_ rfl) rfl rfl
  refine Call_ (ld_blt I hg2 hm2 PyProof.Rows.boot_set ?_)
  refine PyProof.Rows.callWith_type1 (PyProof.Rows.args_cons (thn (ha.run pins s σ H _ I h) fun v s1 ⟨x, H1, I1, r1, q1⟩ => PyProof.Rows.args_nil ?_) na) na rfl
  obtain ⟨l, rfl, q1⟩ := q1
  cases r1
  have sl : (sizeLine : Nat) = 16777216 := sizeLine_eq
  rcases q1 with ⟨ns, hq, h1, q1⟩ | ⟨ks, hq, hk, h1, q1⟩
  · obtain ⟨its, r, pl, hz⟩ := I1.list hq
    have hl : its.toArray.size = ns.length := by rw [List.size_toArray, ← r.length, List.length_map]
    refine call_set_texts (I1.ok.hd hc) pl.isList (xs := ns) (by simpa using strsAre_of r) (by unfold scanBound; omega) fun h' tk hS hk => ?_
    rw [hl, metS_all] at hS
    have hle := dedS_le ns
    refine PyProof.Rows.args_nil ?_
    obtain ⟨o, es, ep, t, ho, hex, hd, _, _, _, hf, hn⟩ := hS
    have I2 : Inv X pins σ H1 { s1 with heap := h', toks := tk } := I1.kept fun b o e => hk b o (Heap.lt_size e) e
    refine call_len_set ho hex hd hf (by rw [hn] <;> omega) ⟨.int (dedS ns).length, H1, I2.tok _, ⟨_, by rw [hn]⟩, q1⟩
  · obtain ⟨its, r, pl, hz⟩ := I1.list hq
    refine call_set_tups (P := X.prog) (w := X.w) ks (I1.ok.hd hc) pl.isList (by simpa using refs_of_vals r) (fun p hp => I1.isT (hk p hp)) h1 (by have := hr.units; omega) fun h' tk L es ep t R g kp => ?_
    refine PyProof.Rows.args_nil ?_
    have I2 : Inv X pins σ H1 { s1 with heap := h', toks := tk } := I1.kept kp
    have e : L.length = (dedT (ks.map Prod.snd)).length := by
      rw [← len_dedT (ys := L.map (·.2)) R.nd (fun v hv => ?_) (fun v hv => ?_), List.length_map]
      · obtain ⟨p, hp, rfl⟩ := List.mem_map.mp hv
        exact List.mem_map.mpr ⟨p, List.mem_of_mem_take (g.sub p hp), rfl⟩
      · obtain ⟨p, hp, rfl⟩ := List.mem_map.mp hv
        exact g.all p (by rw [List.take_length]; exact hp)
    have hsz : es.size = (dedT (ks.map Prod.snd)).length := (R.size (s := { s1 with heap := h', toks := tk })).trans e
    obtain ⟨o, ho, hex, hd⟩ := R.ob
    refine call_len_set ho hex hd (R.fits (s := { s1 with heap := h', toks := tk })) ?_ ⟨.int (dedT (ks.map Prod.snd)).length, H1, I2.tok _, ⟨_, by rw [hsz]⟩, q1⟩
    have := R.few
    rw [R.size (s := { s1 with heap := h', toks := tk })]
    omega
def lenSetX (d : D) (S : Sto) : R D := match deep S 8 d with
  | some (.list ds) => (match textsOf ds with
    | some ns => if ns.length ≤ 4000 then .ok (.py (.int ((dedS ns).length : Nat))) S else .no
    | none => (match tupsOf ds with
      | some ns => if ns.length < 64 then .ok (.py (.int ((dedT ns).length : Nat))) S else .no
      | none => .no))
  | _ => .no
theorem de_lensetX {kk : Nat} (o : Okx kk X E) (hm : X.mg "len" = none) (hm2 : X.mg "set" = none) (ha : DE X E a f) (hg : Gl X "len" := by rfl) (hg2 : Gl X "set" := by rfl)
    (na : starEach [a] X.env = (false, eval a X.env) :: starEach [] X.env := by rfl) : DE X E (.Call (.Name "len" p) [.Call (.Name "set" p2) [a] [] q] [] pos) (op1 lenSetX f) := by
  obtain ⟨t, pt, qt⟩ := ha
  refine ⟨_, pe_lenSetS o.room o.calm hm hm2 pt hg hg2 na, fun σ H σd S ι Q hE hS h => ?_⟩
  refine qt σ H σd S ι _ hE hS (Wp.bind h fun d S1 _ v H1 ι1 p1 r1 h1 => ?_)
  unfold lenSetX at h1
  split at h1
  · rename_i ds hd
    split at h1
    · rename_i ns hns
      split at h1
      · rename_i hz
        have dx := deep_dp p1.sto _ r1 hd (by rw [PyData.hasDict.eq_5]; exact texts_noDict hns)
        cases dx with
        | lst hL al => exact ⟨_, rfl, .inl ⟨ns, dtexts_V al hns ▸ hL, hz, h1 _ _ _ (.refl p1.sto) (.py (.int _))⟩⟩
      · exact h1.elim
    · split at h1
      · rename_i ns hns
        split at h1
        · rename_i hz
          have dx := deep_dp p1.sto _ r1 hd (by rw [PyData.hasDict.eq_5]; exact tups_noDict hns)
          cases dx with
          | lst hL al =>
            obtain ⟨ks, e1, e2, e3⟩ := dtups_V al hns
            subst e1
            subst e3
            exact ⟨_, rfl, .inr ⟨ks, hL, e2, by rwa [List.length_map] at hz, h1 _ _ _ (.refl p1.sto) (.py (.int _))⟩⟩
        · exact h1.elim
      · exact h1.elim
  · exact h1.elim
end
end DV

set_option maxHeartbeats 4000000
namespace DV
open PySem PySem.Spec PyProof.Rows L2
/-! [f, g, ..][i](..): a def out of a written list, called. -/
inductive Pk (X : Cx) (k n : Nat) : List Expr → List Addr → List (List D → Sto → R D) → Prop
  | nil : Pk X k n [] [] []
  | cons {x : Str} {p : Pos} {f : Addr} {fd : FuncData} {ps : List Str} {F : List D → Sto → R D} {j : Nat} {es : List Expr} {as : List Addr} {Fs : List (List D → Sto → R D)} :
      FnD X.prog X.w X.K X.mg X.base j f fd ps F → At X.K X.mg x f fd ps → j ≤ k → ps.length = n → Gl X x → (x == ("__debug__" : Str)) = false → Pk X k n es as Fs → Pk X k n (.Name x p :: es) (f :: as) (F :: Fs)
section
variable {X : Cx} {E : XK} {k n : Nat}
theorem Pk.pa {es : List Expr} {as : List Addr} {Fs : List (List D → Sto → R D)} (h : Pk X k n es as Fs) : PA X es (fun σ H Q => Q (as.map V.ref) H) := by
  induction h with
  | nil => exact ⟨fun pos pins s σ H Q I h => pa_nil.run pos pins s σ H Q I h⟩
  | cons hF at_ hj hn hg hd _ ih => exact ⟨fun pos pins s σ H Q I h => (pa_cons (pe_glob (v := .ref _) hg at_.g rfl hd) ih (by rfl)).run pos pins s σ H Q I h⟩
theorem Pk.len {es : List Expr} {as : List Addr} {Fs : List (List D → Sto → R D)} (h : Pk X k n es as Fs) : as.length = es.length := by
  induction h with
  | nil => rfl
  | cons _ _ _ _ _ _ _ ih => simp [ih]
def Callable (X : Cx) (k n : Nat) (f : Addr) (F : List D → Sto → R D) : Prop := ∃ (fd : FuncData) (ps : List Str) (j : Nat), FnD X.prog X.w X.K X.mg X.base j f fd ps F ∧ PySem.W.keepIn X.K (.ref f) = true ∧ Binds X.K fd ps [] ∧ j ≤ k ∧ ps.length = n
theorem Pk.get {es : List Expr} {as : List Addr} {Fs : List (List D → Sto → R D)} (h : Pk X k n es as Fs) : ∀ (i : Nat) (F : List D → Sto → R D), Fs[i]? = some F → ∃ f, as[i]? = some f ∧ Callable X k n f F := by
  induction h with
  | nil => intro i F h; simp at h
  | cons hF at_ hj hn hg hd _ ih =>
    intro i G h
    cases i with
    | zero =>
      cases h
      exact ⟨_, rfl, _, _, _, hF, at_.kp, at_.b, hj, hn⟩
    | succ i => exact ih i G (by simpa using h)
end
end DV

set_option maxHeartbeats 4000000
namespace DV
open PySem PySem.Spec PyProof.Rows L2
/-! sum of a tuple; min and max of lists and tuples by value whose items are alike (numbers, texts, tuples of these). -/
section
variable {prog : Program} {w : World} {A : Around} {E : Value → Shared → Prop} {s : Shared}
end
section
variable {X : Cx}
end
end DV

set_option maxHeartbeats 4000000
namespace DV
open PySem PySem.Spec PyProof.Rows L2
/-! A lambda with one parameter: its body's context, its call. -/
structure LamP (x : Str) (sc scope : Scope) : Prop where
  kind : scope.kind = .function
  co : scope.isCoroutine = false
  gen : scope.isGenerator = false
  par : scope.names.lookup x = some .local
  cel : ∀ y ∈ scope.names, y.2 ≠ .cell
  loc : ∀ y ∈ scope.names, y.2 = .local → y.1 = x
  free : ∀ y ∈ scope.names, y.2 = .free → sc.names.lookup y.1 = some .cell ∨ sc.names.lookup y.1 = some .free
  no : scope.names.lookup Str.empty = none
  ne : x ≠ Str.empty
theorem LamP.has {X : Cx} {x : Str} {scope : Scope} (L : LamP x X.env.scope scope) (ok : X.Ok) : ∀ y ∈ scope.names, y.2 = .free → ∃ c, X.env.cells.lookup y.1 = some c := fun y hy e => by
  rcases L.free y hy e with k | k
  · exact ok.has _ (.inl k)
  · exact ok.has _ (.inr k)
section
variable {X : Cx} {pins : List (Addr × Obj)} {σ : L2.St} {H HZ : Hp} {s s1 : Shared}
end
end DV

set_option maxHeartbeats 4000000
namespace DV
open PySem PySem.Spec PyProof.Rows L2
/-! sorted(xs, key=lambda x: ..) -/
section
variable {P : Program} {w : World} {H H' : Hp} {h h' : Heap}
end
section
variable {X : Cx} {pins : List (Addr × Obj)} {σ : L2.St} {H : Hp} {s : Shared}
end
/-! ### the sort -/
section
variable {prog : Program} {w : World} {A : Around} {E : Value → Shared → Prop} {s : Shared} {a kS : Addr} {e e1 : Nat} {vs : List Value} {keys : Array Value} {R : PySem.Fin → Shared → Prop}
end
end DV

set_option maxHeartbeats 4000000
namespace DV
open PySem PySem.Spec PyProof.Rows L2
/-! The walk of sorted(xs, key=lambda x: ..). -/
section
variable {X : Cx} {pins : List (Addr × Obj)} {σ : L2.St} {H : Hp} {s : Shared}
/-- what stands while the keys are made -/
structure MidK (X : Cx) (s : Shared) (H : Hp) (ι : List Addr) (kS a : Addr) (e1 : Nat) (kA : Array Value) (e : Nat) (Hi : Hp) (ιi : List Addr) (Si : Sto) (vks : List V) (kz : List PyData) (s' : Shared) : Prop where
  os : s'.os = s.os
  bare : AllBare s'.gens
  un : Un (frs X.stack) [] H Hi s.heap s'.heap
  hok : HOk X.prog X.w Hi s'.heap
  post : Post X.K ι H ιi Hi Si
  hk : s'.heap.get? kS = some (seqObj "list" kA e)
  ha : s'.heap.get? a = some (seqObj "list" #[] e1)
  nk : Hi kS = none
  na : Hi a = none
  vals : Vals vks kA.toList
  pp : PpAll X.K Hi vks kz
end
end DV

set_option maxHeartbeats 4000000
namespace DV
open PySem PySem.Spec PyProof.Rows L2
/-! len(set(a tuple of whole numbers)) -/
section
variable {X : Cx} {E : XK} {a b e : Expr} {f g : Ex} {k : Nat} {pos p p1 p2 p3 q : Pos}
end
end DV

set_option maxHeartbeats 4000000
namespace DV
open PySem PySem.Spec PyProof.Rows L2
/-! dicts with tuple keys that are changed: {}, d[a, b] = v, (a, b) in d -/
section
variable {K : PySem.W.Frag} {ι ι' : List Addr} {H H' : Hp} {S S' : Sto}
theorem KeepA.dt {H : Hp} {p : Addr} {kvs : List (List Key × V)} {o : HO} (h : H p = some (.dT kvs)) : KeepA H (upd H p o) := by
  have ne : ∀ (b : Addr) (u : HO), H b = some u → (∀ kvs, u ≠ .dT kvs) → upd H p o b = some u := fun b u e n => by
    rw [upd_ne (fun z => by subst z; rw [h] at e; cases e; exact n kvs rfl)]
    exact e
  exact ⟨⟨fun b xs e => ne b _ e (fun _ z => by cases z), fun b o u e => ne b _ e (fun _ z => by cases z)⟩, fun P q ⟨ps, h1, h2, h3⟩ => ⟨ps, ne _ _ h1 (fun _ z => by cases z), h2, fun pos cv hc => by
    obtain ⟨c, e1, e2⟩ := h3 pos cv hc
    exact ⟨c, e1, ne _ _ e2 (fun _ z => by unfold LamX.CodeO at z; cases z)⟩⟩⟩
end
section
variable {X : Cx} {E : XK} {v x : Ex} {k : Ax} {ve xe : Expr} {ks : List Expr} {x1 : Nat} {pos pos' tpos : Pos}
end
end DV

set_option maxHeartbeats 4000000
/-! t.index(x), dict(t) of tuples made in the run. -/
namespace DV
open PySem PySem.Spec PyProof.Rows L2
section
variable {X : Cx} {E : XK} {pins : List (Addr × Obj)} {σ : L2.St} {H : Hp} {s : Shared}
theorem FT.at_ {a : Addr} {xs : List V} (I : Inv X pins σ H s) (h : FT X.K H a xs) : ∃ o its n, s.heap.get? a = some o ∧ o.cls = .type "tuple" ∧ o.dict = none ∧ o.data = .seq its n ∧ its.size ≤ sizeLine ∧ Vals xs its.toList := by
  rcases h with ⟨o, h, d⟩ | ⟨o, its, n, h1, h2, h3, h4, h5, h6⟩
  · obtain ⟨e, hz, us, r, o2, e2, hc, n, hd⟩ := I.hok a _ h
    cases e.symm.trans e2
    exact ⟨o, us.toArray, n, e, hc, d, hd, by rw [List.size_toArray, ← r.length]; exact hz, by simpa using r⟩
  · exact ⟨o, its, n, I.kIn a o h1, h2, h3, h4, h5, h6⟩
variable {o e : Expr} {es : List Expr} {to : TE} {t : TA} {name : Str} {apos cpos pos p : Pos} {id : String} {r : V → List V → Hp → VK → Prop} {f : Ex} {fs : Ax}
theorem pe_tm (slot : Slot "tuple" name id) (hty : typeOf (.builtin id) = pure (.type "method_descriptor")) (hm : MtR X id r) (ho : PE X o to) (ha : PA X (e :: es) t)
    (hbase : attributeBase o name X.env (eval o X.env) = eval o X.env := by rfl)
    (hfew : ((backTo cpos (starEach (e :: es) X.env)).all (fun x => !x.1) && (backToKw cpos (keywordEach [] X.env)).all (fun x => x.1.isSome)
      && decide ((e :: es).length + ([] : List Keyword).length + (if ([] : List Keyword).isEmpty then 0 else 1) < 30)) = true := by rfl)
    (hline : (apos.endLine == cpos.line) = true := by rfl) (hs : starEach (e :: es) X.env = (false, eval e X.env) :: starEach es X.env := by rfl) (hplain : (backTo cpos (starEach es X.env)).any (·.1) = false := by rfl) :
    PE X (.Call (.Attribute o name apos) (e :: es) [] cpos) (fun σ H Q => to σ H fun x H1 => (∃ a xs, x = .ref a ∧ FT X.K H1 a xs) ∧ t σ H1 fun xs H2 => r x xs H2 Q) := by
  refine ⟨fun pins s σ H Q I h => ?_⟩
  refine wpAny_Call_method_late hbase hfew hline rfl (thn (ho.run pins s σ H _ I h) fun v s1 ⟨x, H1, I1, r1, ⟨a, xs, ex, hF⟩, q1⟩ => ?_)
  subst ex
  cases r1
  obtain ⟨ob, _, _, e1, e2, e3, _⟩ := hF.at_ I1
  refine ⟨"tuple", id, PySem.F.plainAttrs_tuple, slot, hty, ⟨ob, e1, e2⟩, fun b z => by cases z; exact ⟨ob, e1, e3⟩, ?_⟩
  have hA := ha.run cpos pins s1 σ H1 _ I1 q1
  rw [hs] at hA ⊢
  refine Calls.callWith_builtin (by show (false || (backTo cpos (starEach es X.env)).any (·.1)) = false; rw [hplain] <;> rfl) (Calls.evalArgs_plain ?_)
  exact thn hA fun us s2 ⟨vs, H2, I2, r2, q2⟩ => hm pins s2 σ H2 (.ref a) vs (.ref a) us Q I2 rfl r2 q2
def methT (g : D → List D → Sto → R D) (o : Ex) (a : Ax) : Ex := fun σ S => (o σ S).bind fun x S1 => match x with
  | .py (.tuple _) => (a σ S1).bind fun ds S2 => g x ds S2
  | _ => .no
def indexTD : D → List D → Sto → R D
  | .py (.tuple ds), [.py (.str z)], S => (match strsOf ds with
    | some ys => (match ys.findIdx? (fun y => decide (y = z)) with
      | some j => .ok (.py (.int (j : Nat))) S
      | none => .no)
    | none => .no)
  | _, _, _ => .no
/-- t.index(x), texts in a tuple -/
theorem de_indexT (ho : DE X E o f) (ha : DA X E [e] fs)
    (hbase : attributeBase o "index" X.env (eval o X.env) = eval o X.env := by rfl)
    (hfew : ((backTo cpos (starEach [e] X.env)).all (fun x => !x.1) && (backToKw cpos (keywordEach [] X.env)).all (fun x => x.1.isSome)
      && decide ([e].length + ([] : List Keyword).length + (if ([] : List Keyword).isEmpty then 0 else 1) < 30)) = true := by rfl)
    (hline : (apos.endLine == cpos.line) = true := by rfl) (hs : starEach [e] X.env = (false, eval e X.env) :: starEach [] X.env := by rfl) (hplain : (backTo cpos (starEach [] X.env)).any (·.1) = false := by rfl) :
    DE X E (.Call (.Attribute o "index" apos) [e] [] cpos) (methT indexTD f fs) := by
  obtain ⟨t, p, q⟩ := ho
  obtain ⟨l, u, pu, qu⟩ := ha
  refine ⟨_, pe_tm PySem.F.slot_tuple_index PySem.F.type_tuple_index mt_tup_index p pu hbase hfew hline hs hplain, fun σ H σd S ι Q hE hS h => ?_⟩
  refine q σ H σd S ι _ hE hS (Wp.bind h fun d S1 _ v H1 ι1 p1 r1 h1 => ?_)
  split at h1
  · cases r1 with
    | py r1 =>
      cases r1 with
      | tup hF hz al =>
        refine ⟨⟨_, _, rfl, hF⟩, ?_⟩
        refine qu σ H1 σd S1 ι1 _ (hE.mono p1.pre p1.keep) p1.sto (Wp.bind h1 fun d2 S2 _ v2 H2 ι2 p2 r2 h2 => ?_)
        unfold indexTD at h2
        split at h2
        · rename_i _ _ ds0 z heq _
          cases heq
          split at h2
          · rename_i ys hys
            split at h2
            · rename_i j hj
              cases r2 with
              | cons r2 rs =>
                cases rs
                obtain ⟨hl, hj2, hno⟩ := List.findIdx?_eq_some_iff_getElem.mp hj
                refine ⟨_, ys, z, j, rfl, by rw [str_of r2], ?_, ?_, fun m hm e => ?_, h2 _ _ _ (.refl p2.sto) (.py (.int _))⟩
                · rw [← strs_V al hys]
                  exact (hF.keep p2.keep).sq
                · rw [List.getElem?_eq_getElem hl]
                  exact congrArg some (of_decide_eq_true hj2)
                · have := hno m hm
                  obtain ⟨h4, h5⟩ := List.getElem?_eq_some_iff.mp e
                  rw [h5] at this
                  simp at this
            · exact h2.elim
          · exact h2.elim
        · exact h2.elim
  · exact h1.elim
/-! ### dict(t) -/
def dictT (f : Ex) : Ex := fun σ S => (f σ S).bind fun d S1 => match d with
  | .py (.tuple ds) => (match pairsOf ds with
    | some kv => if (kv.map Prod.fst).Nodup then .ok (.py (.dict (kv.map fun p => (keyP p.1, p.2)))) S1 else .no
    | none => .no)
  | _ => .no
end
end DV

set_option maxHeartbeats 4000000
/-! sorted(set(xs)), xs a list of whole numbers. -/
namespace L2
open PySem PySem.Spec PyProof.Rows
section
variable {P : Program} {w : World} {A : Around} {E : Value → Shared → Prop} {s : Shared}
end
end L2
namespace DV
open PySem PySem.Spec PyProof.Rows L2
section
variable {X : Cx} {E : XK} {e : Expr} {f : Ex} {p p2 q pos : Pos}
end
end DV

set_option maxHeartbeats 4000000
namespace DV
open PySem PySem.Spec PyProof.Rows L2
/-! The end of a law where two defs make lambdas: their tables are numbers 0 and 1 of the store. -/
section
variable {P : Program} {w : World} {K : PySem.W.Frag} {mg : Str → Option Value} {base : Heap}
end
end DV

set_option maxHeartbeats 4000000
namespace DV
open PySem PySem.Spec PyProof.Rows L2
/-! for x in [f, g]: .. x(..): defs of the program out of a written list, called by the name that walks it. -/
section
variable {X : Cx} {E : XK} {k n : Nat}
inductive Ck (X : Cx) (k n : Nat) : List Addr → List (List D → Sto → R D) → Prop
  | nil : Ck X k n [] []
  | cons {x : Str} {f : Addr} {fd : FuncData} {ps : List Str} {F : List D → Sto → R D} {j : Nat} {as : List Addr} {Fs : List (List D → Sto → R D)} :
      FnD X.prog X.w X.K X.mg X.base j f fd ps F → At X.K X.mg x f fd ps → j ≤ k → ps.length = n → Ck X k n as Fs → Ck X k n (f :: as) (F :: Fs)
theorem Ck.find {as : List Addr} {Fs : List (List D → Sto → R D)} (h : Ck X k n as Fs) {a : Addr} {F : List D → Sto → R D} (e : (as.zip Fs).lookup a = some F) : Callable X k n a F := by
  induction h with
  | nil => cases e
  | @cons x f fd ps G j as Fs hF at_ hj hn _ ih =>
    rw [List.zip_cons_cons, List.lookup_cons] at e
    by_cases q : a = f
    · subst q
      simp at e
      subst e
      exact ⟨_, _, _, hF, at_.kp, at_.b, hj, hn⟩
    · have : (a == f) = false := by simpa using q
      rw [this] at e
      exact ih e
end
end DV

set_option maxHeartbeats 4000000
namespace DV
open PySem PySem.Spec PyProof.Rows L2
/-! xs.extend(ys), ys a list that is never changed. -/
variable {X : Cx} {E : XK}
theorem FL.obj {pins : List (Addr × Obj)} {σ : List (Option V)} {H : Hp} {s : Shared} {a : Addr} {xs : List V} (I : Inv X pins σ H s) (h : FL X.K H a xs) :
    ∃ (its : List Value) (n : Nat), Vals xs its ∧ xs.length ≤ sizeLine ∧ s.heap.get? a = some { cls := .type "list", data := .seq its.toArray n } := by
  rcases h with ⟨o, h⟩ | ⟨o, its, n, h1, h2, h3, h4, h5, h6, h7⟩
  · obtain ⟨_, z, its, n, r, e⟩ := (show ObjOk X.prog X.w H s.heap a (.frz o (.lst xs)) from I.hok a _ h)
    exact ⟨its, n, r, z, e⟩
  · refine ⟨its.toList, n, h7, by have := h7.length; simp at this; omega, ?_⟩
    have e := I.kIn a o h1
    obtain ⟨c, d, dt, sl⟩ := o
    simp only at h2 h3 h4 h5
    subst h2 h3 h4 h5
    simpa using e
end DV

set_option maxHeartbeats 4000000
namespace DV
open PySem PySem.Spec PyProof.Rows L2
/-! a, b, c = x, y, z; and four of them. -/
section
variable {X : Cx} {E : XK} {a b c d : Expr} {fs : Ax} {pos : Pos}
end
end DV

set_option maxHeartbeats 4000000
namespace DV
open PySem PySem.Spec PyProof.Rows L2
/-! text.partition(sep); int(text). -/
section
variable {X : Cx} {pins : List (Addr × Obj)} {σ : L2.St} {H : Hp} {s : Shared} {xs : List V} {us : List Value} {Q : VK}
end
section
variable {X : Cx} {E : XK}
end
end DV

set_option maxHeartbeats 4000000
namespace DV
open PySem PySem.Spec PyProof.Rows L2
/-! sorted(xs), xs a list of data that are alike. -/
section
variable {X : Cx} {E : XK}
end
end DV


set_option maxHeartbeats 4000000
/-! A comprehension over a zip with a list of the store, of whole numbers, that its turns leave as it is. -/
namespace DV
open PySem PySem.Spec PyProof.Rows L2
section
variable {X : Cx} {pins : List (Addr × Obj)} {σ : L2.St} {H : Hp} {s : Shared}
end
section
variable {X : Cx} {E : XK} {e a b c : Expr} {f g h : Ex} {pos p : Pos}
/-- a walk that wants the list as it is -/
structure WalkZ (K : PySem.W.Frag) (H0 : Hp) (d : Addr) (ys : List V) (J : L2.It) (xs : List D) : Prop where
  len : xs.length ≤ sizeLine
  go : ∀ i H, Keep H0 H → H d = some (.lst ys) → i < xs.length → J.go i H
  stop : ∀ H, Keep H0 H → H d = some (.lst ys) → J.stop xs.length H
  yld : ∀ i H v H' x, Keep H0 H → xs[i]? = some x → J.yld i H v H' → KeepA H H' ∧ (∀ (b : Addr) (vs : MO), H b = some vs.ho → H' b = some vs.ho) ∧ (∀ b, H b ≠ none → H' b ≠ none) ∧ ∀ ι, Rd K ι H' v x
end
end DV

set_option maxHeartbeats 4000000
/-! A loop over a zip with a list of the store, whose turns leave that list as it is. -/
namespace DV
open PySem PySem.Spec PyProof.Rows L2
section
variable {X : Cx} {E : XK} {a b : Expr} {f g : Ex} {p pos pos2 : Pos}
/-- a walk that wants the list as it is; each turn gives a new tuple -/
structure WalkQ (K : PySem.W.Frag) (ι0 : List Addr) (H0 : Hp) (d : Addr) (ys : List V) (J : L2.It) (ps : List (List D)) : Prop where
  go : ∀ i H, Keep H0 H → H d = some (.lst ys) → i < ps.length → J.go i H
  stop : ∀ H, Keep H0 H → H d = some (.lst ys) → J.stop ps.length H
  yld : ∀ i H v H' q, Keep H0 H → ps[i]? = some q → J.yld i H v H' → KeepA H H' ∧ (∀ (b : Addr) (vs : MO), H b = some vs.ho → H' b = some vs.ho) ∧ (∀ b, H b ≠ none → H' b ≠ none) ∧
    ∃ T ws, v = .ref T ∧ SqT K H' T ws ∧ ws.length = 2 ∧ ∀ ι, ι0 <+: ι → RdAll K ι H' ws q
end
end DV

set_option maxHeartbeats 4000000
namespace DV
open PySem PySem.Spec PyProof.Rows L2 DV
noncomputable def b_place_of : Sx := (seqS (forS (enumI (opE itemD (varE 0) (cE (.int 1)))) (tupG 2 (consG (nmG 2) (consG (nmG 3) nilG))) (ifS (valT (opE eqD (opE itemD (varE 3) (cE (.int 0))) (varE 1))) (retS (varE 2)) passS)) (retS (cE .none)))
noncomputable def F_place_of : List D → Sto → R D := fnF 4 b_place_of
noncomputable def b_need_letter : Sx := (seqS (asgS (callE F_place_of (consA (varE 0) (consA (varE 1) nilA))) (nmG 2)) (seqS (ifS (valT (opE isND (varE 2) (cE .none))) (raiseS "NoLetter") passS) (retS (varE 2))))
noncomputable def F_need_letter : List D → Sto → R D := fnF 3 b_need_letter
noncomputable def b_law_box : Sx := (seqS (asgS (opE addD (opE mulD (cE (.int 6151)) (varE 1)) (cE (.int 29))) (nmG 2)) (seqS (ifS (valT (opE ltD (varE 1) (callE lenD (consA (varE 0) nilA)))) (asgS (opE itemD (varE 0) (varE 1)) (nmG 2)) passS) (seqS (ifS (valT (opE eqD (opE modD (varE 2) (cE (.int 2))) (cE (.int 0)))) (retS (thwE (consA (opE fdivD (callE absD (consA (varE 2) nilA)) (cE (.int 2))) (consA (opE addD (opE addD (opE modD (varE 2) (cE (.int 1000003))) (opE mulD (cE (.int 7919)) (varE 1))) (cE (.int 1))) nilA)))) passS) (retS (thwE (consA (cE (.int 0)) (consA (opE addD (opE addD (opE modD (varE 2) (cE (.int 2147483563))) (opE mulD (cE (.int 7919)) (varE 1))) (cE (.int 1))) nilA)))))))
noncomputable def F_law_box : List D → Sto → R D := fnF 3 b_law_box
noncomputable def b_law_take : Sx := (seqS (ifS (valT (opE (cmpI fun i j => decide (j < i)) (opE itemD (varE 0) (cE (.int 0))) (cE (.int 0)))) (seqS (asgS (callE divmodD (consA (opE itemD (varE 0) (cE (.int 0))) (consA (varE 1) nilA))) (tupG 2 (consG (ixG (varE 0) (cE (.int 0))) (consG (nmG 2) nilG)))) (retS (varE 2))) passS) (seqS (asgS (opE modD (opE addD (opE mulD (opE itemD (varE 0) (cE (.int 1))) (cE (.int 48271))) (cE (.int 11))) (cE (.int 2147483647))) (ixG (varE 0) (cE (.int 1)))) (seqS (asgS (opE addD (opE fdivD (opE itemD (varE 0) (cE (.int 1))) (cE (.int 1009))) (cE (.int 1))) (nmG 3)) (retS (opE modD (opE fdivD (opE modD (opE mulD (opE mulD (varE 3) (varE 3)) (varE 3)) (cE (.int 2147483629))) (cE (.int 61))) (varE 1))))))
noncomputable def F_law_take : List D → Sto → R D := fnF 4 b_law_take
noncomputable def b_is_from_to : Sx := (retS (andE (op1 (isiD "int") (varE 0)) (andE (notE (op1 (isiD "bool") (varE 0))) (chainE (cmpI fun i j => decide (i ≤ j)) (cmpI fun i j => decide (i ≤ j)) (varE 1) (varE 0) (varE 2)))))
noncomputable def F_is_from_to : List D → Sto → R D := fnF 3 b_is_from_to
noncomputable def b_is_letter : Sx := (retS (andE (op1 (isiD "str") (varE 0)) (andE (opE eqD (callE lenD (consA (varE 0) nilA)) (cE (.int 1))) (opE inD (varE 0) (cE (.str "abcdefghijklmnopqrstuvwxyz"))))))
noncomputable def F_is_letter : List D → Sto → R D := fnF 1 b_is_letter
noncomputable def b_letters_of : Sx := (retS (callE tupleD (consA (frzE (lcX (seqI (opE itemD (varE 0) (cE (.int 1)))) [1] (nmG 1) yesT (opE itemD (varE 1) (cE (.int 0))))) nilA)))
noncomputable def F_letters_of : List D → Sto → R D := fnF 2 b_letters_of
noncomputable def b_law_face : Sx := (seqS (asgS (thwE (callL listD (consA (cE (.str "abcdefghijklmnopqrstuvwxyz")) nilA))) (nmG 3)) (seqS (asgS (opE addD (varE 1) (callE F_law_take (consA (varE 0) (consA (opE addD (opE subD (varE 2) (varE 1)) (cE (.int 1))) nilA)))) (nmG 4)) (seqS (asgS (frzE (lcX (rng1I (varE 4)) [6] (nmG 6) yesT (tupE (consA (methL popD (varE 3) (consA (callE F_law_take (consA (varE 0) (consA (callE lenD (consA (varE 3) nilA)) nilA))) nilA)) (consA (opE addD (cE (.int 10)) (callE F_law_take (consA (varE 0) (consA (cE (.int 90)) nilA)))) nilA))))) (nmG 5)) (retS (tupE (consA (opE addD (cE (.int 1)) (callE F_law_take (consA (varE 0) (consA (cE (.int 99)) nilA)))) (consA (callE tupleD (consA (varE 5) nilA)) nilA)))))))
noncomputable def F_law_face : List D → Sto → R D := fnF 7 b_law_face
noncomputable def b_law_letters : Sx := (retS (frzE (lcX (seqI (opE itemD (varE 0) (cE (.int 1)))) [1] (nmG 1) yesT (opE itemD (varE 1) (cE (.int 0))))))
noncomputable def F_law_letters : List D → Sto → R D := fnF 2 b_law_letters
noncomputable def b_is_gap : Sx := (retS (callE F_is_from_to (consA (varE 0) (consA (opE subD (cE (.int 0)) (cE (.int 9))) (consA (cE (.int 9)) nilA)))))
noncomputable def F_is_gap : List D → Sto → R D := fnF 1 b_is_gap
noncomputable def b_law_rows : Sx := (seqS (asgS (frzE (lcX (rng1I (varE 1)) [8] (nmG 8) yesT (callE F_law_take (consA (varE 0) (consA (cE (.int 3)) nilA))))) (nmG 2)) (seqS (asgS (frzE (lcX (rng1I (varE 1)) [8] (nmG 8) yesT (callE F_law_take (consA (varE 0) (consA (cE (.int 3)) nilA))))) (nmG 3)) (seqS (asgS (frzE (consA (cE (.int 0)) (consA (cE (.int 0)) (consA (cE (.int 1)) (consA (op1 negD (cE (.int 1))) (consA (cE (.int 9)) (consA (op1 negD (cE (.int 9))) (consA (cE (.int 4)) nilA)))))))) (nmG 4)) (seqS (asgS (frzE (lcX (rng1I (cE (.int 3))) [9] (nmG 9) yesT (frzE (lcX (rng1I (cE (.int 3))) [10] (nmG 10) yesT (opE itemD (varE 4) (callE F_law_take (consA (varE 0) (consA (cE (.int 7)) nilA)))))))) (nmG 5)) (seqS (asgS (thwE (lcX (seqI (varE 2)) [9] (nmG 9) yesT (thwE (lcX (seqI (varE 3)) [10] (nmG 10) yesT (opE itemD (opE itemD (varE 5) (varE 9)) (varE 10)))))) (nmG 6)) (seqS (forS (rng1I (callE F_law_take (consA (varE 0) (consA (cE (.int 4)) nilA)))) (nmG 7) (asgS (opE subD (callE F_law_take (consA (varE 0) (consA (cE (.int 19)) nilA))) (cE (.int 9))) (ixG (opE itemD (varE 6) (callE F_law_take (consA (varE 0) (consA (varE 1) nilA)))) (callE F_law_take (consA (varE 0) (consA (varE 1) nilA)))))) (seqS (fix2S 6) (retS (varE 6)))))))))
noncomputable def F_law_rows : List D → Sto → R D := fnF 11 b_law_rows
noncomputable def b_law_list : Sx := (seqS (asgS (callE F_law_letters (consA (varE 0) nilA)) (nmG 2)) (seqS (asgS (thwE nilA) (nmG 3)) (seqS (forS (zipI (varE 2) (varE 1)) (tupG 2 (consG (nmG 4) (consG (nmG 5) nilG))) (forS (zipI (varE 2) (varE 5)) (tupG 2 (consG (nmG 6) (consG (nmG 7) nilG))) (ifS (valT (opE neD (varE 7) (cE (.int 0)))) (exprS (methL appendD (varE 3) (consA (tupE (consA (varE 4) (consA (varE 6) (consA (varE 7) nilA)))) nilA))) passS))) (retS (callE tupleD (consA (varE 3) nilA))))))
noncomputable def F_law_list : List D → Sto → R D := fnF 8 b_law_list
noncomputable def b_law_pairs : Sx := (retS (callE F_law_list (consA (varE 1) (consA (callE F_law_rows (consA (varE 0) (consA (callE lenD (consA (opE itemD (varE 1) (cE (.int 1))) nilA)) nilA))) nilA))))
noncomputable def F_law_pairs : List D → Sto → R D := fnF 2 b_law_pairs
noncomputable def b_gap_in : Sx := (seqS (forS (seqI (varE 0)) (tupG 3 (consG (nmG 3) (consG (nmG 4) (consG (nmG 5) nilG)))) (ifS (andT (valT (opE eqD (varE 3) (varE 1))) (valT (opE eqD (varE 4) (varE 2)))) (retS (varE 5)) passS)) (retS (cE (.int 0))))
noncomputable def F_gap_in : List D → Sto → R D := fnF 6 b_gap_in
noncomputable def b_gap_of : Sx := (seqS (exprS (callE F_need_letter (consA (varE 0) (consA (varE 2) nilA)))) (seqS (exprS (callE F_need_letter (consA (varE 0) (consA (varE 3) nilA)))) (retS (callE F_gap_in (consA (varE 1) (consA (varE 2) (consA (varE 3) nilA)))))))
noncomputable def F_gap_of : List D → Sto → R D := fnF 4 b_gap_of
noncomputable def b_rows_of : Sx := (seqS (asgS (callE F_letters_of (consA (varE 0) nilA)) (nmG 2)) (retS (callE tupleD (consA (frzE (lcX (seqI (varE 2)) [3] (nmG 3) yesT (callE tupleD (consA (frzE (lcX (seqI (varE 2)) [4] (nmG 4) yesT (callE F_gap_in (consA (varE 1) (consA (varE 3) (consA (varE 4) nilA)))))) nilA)))) nilA))))
noncomputable def F_rows_of : List D → Sto → R D := fnF 5 b_rows_of
noncomputable def b_from_rows : Sx := (seqS (asgS (callE F_letters_of (consA (varE 0) nilA)) (nmG 2)) (seqS (asgS (thwE nilA) (nmG 3)) (seqS (forS (zipI (varE 2) (varE 1)) (tupG 2 (consG (nmG 4) (consG (nmG 5) nilG))) (exprS (extE (varE 3) (lcX (zipI (varE 2) (varE 5)) [6, 7] (tupG 2 (consG (nmG 6) (consG (nmG 7) nilG))) (valT (opE neD (varE 7) (cE (.int 0)))) (tupE (consA (varE 4) (consA (varE 6) (consA (varE 7) nilA)))))))) (retS (callE tupleD (consA (varE 3) nilA))))))
noncomputable def F_from_rows : List D → Sto → R D := fnF 8 b_from_rows
noncomputable def b_grouped : Sx := (seqS (asgS (thwE nilA) (nmG 2)) (seqS (forS (seqI (varE 1)) (nmG 3) (ifS (valT (opE notInD (varE 3) (varE 2))) (exprS (methL appendD (varE 2) (consA (varE 3) nilA))) passS)) (seqS (fixS 2) (retS (callE tupleD (consA (frzE (lcX (seqI (varE 2)) [3] (nmG 3) yesT (callE tupleD (consA (frzE (lcX (zipI (varE 0) (varE 1)) [4, 5] (tupG 2 (consG (nmG 4) (consG (nmG 5) nilG))) (valT (opE eqD (varE 5) (varE 3))) (varE 4))) nilA)))) nilA))))))
noncomputable def F_grouped : List D → Sto → R D := fnF 6 b_grouped
noncomputable def b_left_parting : Sx := (retS (callE F_grouped (consA (callE F_letters_of (consA (varE 0) nilA)) (consA (callE F_rows_of (consA (varE 0) (consA (varE 1) nilA))) nilA))))
noncomputable def F_left_parting : List D → Sto → R D := fnF 2 b_left_parting
noncomputable def b_twos : Sx := (seqS (asgS (thwE nilA) (nmG 1)) (seqS (forS (enumI (varE 0)) (tupG 2 (consG (nmG 2) (consG (nmG 3) nilG))) (exprS (extE (varE 1) (lcX (seqI (sliceA (varE 0) (someP (opE addD (varE 2) (cE (.int 1)))) noP)) [4] (nmG 4) yesT (tupE (consA (varE 3) (consA (varE 4) nilA))))))) (seqS (fixS 1) (retS (varE 1)))))
noncomputable def F_twos : List D → Sto → R D := fnF 5 b_twos
noncomputable def b_parting_letter : Sx := (seqS (forS (seqI (callE F_letters_of (consA (varE 0) nilA))) (nmG 4) (ifS (valT (opE neD (callE F_gap_in (consA (varE 1) (consA (varE 2) (consA (varE 4) nilA)))) (callE F_gap_in (consA (varE 1) (consA (varE 3) (consA (varE 4) nilA)))))) (retS (varE 4)) passS)) (retS (cE .none)))
noncomputable def F_parting_letter : List D → Sto → R D := fnF 5 b_parting_letter
noncomputable def b_shows_lefts : Sx := (seqS (asgS (callE tupleD (consA (frzE (lcX (seqI (callE F_left_parting (consA (varE 0) (consA (varE 1) nilA)))) [3] (nmG 3) yesT (opE itemD (varE 3) (cE (.int 0))))) nilA)) (nmG 2)) (retS (tupE (consA (varE 2) (consA (callE tupleD (consA (frzE (lcX (seqI (callE F_twos (consA (varE 2) nilA))) [3, 4] (tupG 2 (consG (nmG 3) (consG (nmG 4) nilG))) yesT (callE F_parting_letter (consA (varE 0) (consA (varE 1) (consA (varE 3) (consA (varE 4) nilA))))))) nilA)) nilA)))))
noncomputable def F_shows_lefts : List D → Sto → R D := fnF 5 b_shows_lefts
noncomputable def b_choices : Sx := (seqS (asgS (frzE (consA (tupE nilA) nilA)) (nmG 2)) (seqS (forS (rng1I (varE 1)) (nmG 3) (seqS (asgS (thwE nilA) (nmG 4)) (seqS (forS (seqI (varE 2)) (nmG 5) (exprS (extE (varE 4) (lcX (rng1I (varE 0)) [6] (nmG 6) (orT (valT (opE eqD (varE 5) (tupE nilA))) (valT (opE (cmpI fun i j => decide (j < i)) (varE 6) (opE itemD (varE 5) (op1 negD (cE (.int 1))))))) (opE addD (varE 5) (tupE (consA (varE 6) nilA))))))) (seqS (fixS 4) (asgS (varE 4) (nmG 2)))))) (retS (varE 2))))
noncomputable def F_choices : List D → Sto → R D := fnF 7 b_choices
noncomputable def b_parters : Sx := (seqS (asgS (callE F_letters_of (consA (varE 0) nilA)) (nmG 2)) (seqS (asgS (callE lenD (consA (callE F_left_parting (consA (varE 0) (consA (varE 1) nilA))) nilA)) (nmG 3)) (seqS (forS (rng1I (opE addD (callE lenD (consA (varE 2) nilA)) (cE (.int 1)))) (nmG 4) (forS (seqI (callE F_choices (consA (callE lenD (consA (varE 2) nilA)) (consA (varE 4) nilA)))) (nmG 5) (seqS (asgS (frzE (lcX (seqI (varE 2)) [7] (nmG 7) yesT (callE tupleD (consA (frzE (lcX (seqI (varE 5)) [8] (nmG 8) yesT (callE F_gap_in (consA (varE 1) (consA (varE 7) (consA (opE itemD (varE 2) (varE 8)) nilA)))))) nilA)))) (nmG 6)) (ifS (valT (opE eqD (op1 lenSetX (varE 6)) (varE 3))) (retS (callE tupleD (consA (frzE (lcX (seqI (varE 5)) [8] (nmG 8) yesT (opE itemD (varE 2) (varE 8)))) nilA))) passS)))) (retS (varE 2)))))
noncomputable def F_parters : List D → Sto → R D := fnF 9 b_parters
noncomputable def b_is_sign : Sx := (retS (orE (opE eqD (varE 1) (cE (.str " "))) (opE notND (callE F_place_of (consA (varE 0) (consA (varE 1) nilA))) (cE .none))))
noncomputable def F_is_sign : List D → Sto → R D := fnF 2 b_is_sign
noncomputable def b_is_text : Sx := (retS (andE (op1 (isiD "str") (varE 1)) (callE allD (consA (frzE (lcX (txtI (varE 1)) [2] (nmG 2) yesT (callE F_is_sign (consA (varE 0) (consA (varE 2) nilA))))) nilA))))
noncomputable def F_is_text : List D → Sto → R D := fnF 3 b_is_text
noncomputable def b_need_text : Sx := (ifS (notT (valT (callE F_is_text (consA (varE 0) (consA (varE 1) nilA))))) (raiseS "NoLine") passS)
noncomputable def F_need_text : List D → Sto → R D := fnF 2 b_need_text
noncomputable def b_sign_width : Sx := (seqS (ifS (valT (opE eqD (varE 1) (cE (.str " ")))) (retS (opE itemD (varE 0) (cE (.int 0)))) passS) (retS (opE itemD (opE itemD (opE itemD (varE 0) (cE (.int 1))) (callE F_place_of (consA (varE 0) (consA (varE 1) nilA)))) (cE (.int 1)))))
noncomputable def F_sign_width : List D → Sto → R D := fnF 2 b_sign_width
noncomputable def b_between : Sx := (seqS (ifS (orT (valT (opE eqD (varE 1) (cE (.str " ")))) (valT (opE eqD (varE 2) (cE (.str " "))))) (retS (cE (.int 0))) passS) (retS (callE F_gap_in (consA (varE 0) (consA (varE 1) (consA (varE 2) nilA))))))
noncomputable def F_between : List D → Sto → R D := fnF 3 b_between
noncomputable def b_begins_in : Sx := (seqS (asgS (thwE nilA) (nmG 3)) (seqS (asgS (cE (.int 0)) (nmG 4)) (seqS (forS (enumI (varE 2)) (tupG 2 (consG (nmG 5) (consG (nmG 6) nilG))) (seqS (ifS (valT (opE (cmpI fun i j => decide (j < i)) (varE 5) (cE (.int 0)))) (asgS (opE addD (opE addD (varE 4) (callE F_sign_width (consA (varE 0) (consA (opE itemD (varE 2) (opE subD (varE 5) (cE (.int 1)))) nilA)))) (callE F_between (consA (varE 1) (consA (opE itemD (varE 2) (opE subD (varE 5) (cE (.int 1)))) (consA (varE 6) nilA))))) (nmG 4)) passS) (exprS (methL appendD (varE 3) (consA (varE 4) nilA))))) (retS (callE tupleD (consA (varE 3) nilA))))))
noncomputable def F_begins_in : List D → Sto → R D := fnF 7 b_begins_in
noncomputable def b_wide_in : Sx := (seqS (ifS (valT (opE eqD (varE 2) (cE (.str "")))) (retS (cE (.int 0))) passS) (retS (opE addD (opE itemD (callE F_begins_in (consA (varE 0) (consA (varE 1) (consA (varE 2) nilA)))) (op1 negD (cE (.int 1)))) (callE F_sign_width (consA (varE 0) (consA (opE itemD (varE 2) (op1 negD (cE (.int 1)))) nilA))))))
noncomputable def F_wide_in : List D → Sto → R D := fnF 3 b_wide_in
noncomputable def b_words_of : Sx := (seqS (exprS (callE F_need_text (consA (varE 0) (consA (varE 1) nilA)))) (seqS (ifS (valT (opE eqD (varE 1) (cE (.str "")))) (retS (frzE nilA)) passS) (seqS (asgS (frzE (methSL splitD (varE 1) (consA (cE (.str " ")) nilA))) (nmG 2)) (seqS (ifS (valT (opE inD (cE (.str "")) (varE 2))) (raiseS "NoLine") passS) (retS (varE 2))))))
noncomputable def F_words_of : List D → Sto → R D := fnF 3 b_words_of
noncomputable def b_line_of : Sx := (retS (methS joinD (cE (.str " ")) (consA (frzE (sliceL (varE 0) (someP (varE 1)) (someP (varE 2)))) nilA)))
noncomputable def F_line_of : List D → Sto → R D := fnF 3 b_line_of
noncomputable def b_room_of : Sx := (retS (opE subD (varE 3) (callE F_wide_in (consA (varE 0) (consA (varE 1) (consA (varE 2) nilA))))))
noncomputable def F_room_of : List D → Sto → R D := fnF 4 b_room_of
noncomputable def b_need_wide : Sx := (ifS (notT (valT (callE F_is_from_to (consA (varE 0) (consA (cE (.int 1)) (consA (cE (.int 999)) nilA)))))) (raiseS "NoNumber") passS)
noncomputable def F_need_wide : List D → Sto → R D := fnF 1 b_need_wide
noncomputable def b_need_words : Sx := (seqS (asgS (callE F_words_of (consA (varE 0) (consA (varE 2) nilA))) (nmG 4)) (seqS (exprS (callE F_need_wide (consA (varE 3) nilA))) (seqS (forS (seqI (varE 4)) (nmG 5) (ifS (valT (opE ltD (callE F_room_of (consA (varE 0) (consA (varE 1) (consA (varE 5) (consA (varE 3) nilA))))) (cE (.int 0)))) (raiseS "TooWide") passS)) (retS (varE 4)))))
noncomputable def F_need_words : List D → Sto → R D := fnF 6 b_need_words
noncomputable def b_filled : Sx := (seqS (asgS (callE F_need_words (consA (varE 0) (consA (varE 1) (consA (varE 2) (consA (varE 3) nilA))))) (nmG 4)) (seqS (asgS (thwE nilA) (nmG 5)) (seqS (forS (seqI (varE 4)) (nmG 6) (ifS (andT (valT (opE neOD (varE 5) (frzE nilA))) (valT (opE (cmpI fun i j => decide (j ≤ i)) (callE F_room_of (consA (varE 0) (consA (varE 1) (consA (opE addD (opE addD (opE itemD (varE 5) (op1 negD (cE (.int 1)))) (cE (.str " "))) (varE 6)) (consA (varE 3) nilA))))) (cE (.int 0))))) (asgS (opE addD (opE addD (opE itemD (varE 5) (op1 negD (cE (.int 1)))) (cE (.str " "))) (varE 6)) (ixG (varE 5) (op1 negD (cE (.int 1))))) (exprS (methL appendD (varE 5) (consA (varE 6) nilA))))) (retS (callE tupleD (consA (varE 5) nilA))))))
noncomputable def F_filled : List D → Sto → R D := fnF 7 b_filled
noncomputable def b_cost_in : Sx := (seqS (asgS (callE F_room_of (consA (varE 0) (consA (varE 1) (consA (callE F_line_of (consA (varE 2) (consA (opE itemD (varE 3) (cE (.int 0))) (consA (opE itemD (varE 3) (cE (.int 1))) nilA)))) (consA (varE 4) nilA))))) (nmG 5)) (seqS (ifS (valT (opE ltD (varE 5) (cE (.int 0)))) (retS (cE .none)) passS) (seqS (ifS (valT (opE eqD (opE itemD (varE 3) (cE (.int 1))) (callE lenD (consA (varE 2) nilA)))) (retS (cE (.int 0))) passS) (retS (opE mulD (varE 5) (varE 5))))))
noncomputable def F_cost_in : List D → Sto → R D := fnF 6 b_cost_in
noncomputable def b_prices_of : Sx := (seqS (asgS (thwE (consA (cE (.int 0)) nilA)) (nmG 4)) (seqS (forS (rrng1I (callE lenD (consA (varE 2) nilA))) (nmG 5) (seqS (asgS (cE .none) (nmG 6)) (seqS (forS (rng2I (opE addD (varE 5) (cE (.int 1))) (opE addD (callE lenD (consA (varE 2) nilA)) (cE (.int 1)))) (nmG 7) (seqS (asgS (callE F_cost_in (consA (varE 0) (consA (varE 1) (consA (varE 2) (consA (tupE (consA (varE 5) (consA (varE 7) nilA))) (consA (varE 3) nilA)))))) (nmG 8)) (ifS (andT (valT (opE notND (varE 8) (cE .none))) (orT (valT (opE isND (varE 6) (cE .none))) (valT (opE ltD (opE addD (varE 8) (opE itemD (varE 4) (opE subD (opE subD (varE 7) (varE 5)) (cE (.int 1))))) (varE 6))))) (asgS (opE addD (varE 8) (opE itemD (varE 4) (opE subD (opE subD (varE 7) (varE 5)) (cE (.int 1))))) (nmG 6)) passS))) (exprS (methL insertD (varE 4) (consA (cE (.int 0)) (consA (varE 6) nilA))))))) (seqS (fixS 4) (retS (varE 4)))))
noncomputable def F_prices_of : List D → Sto → R D := fnF 9 b_prices_of
noncomputable def b_evened : Sx := (seqS (asgS (callE F_need_words (consA (varE 0) (consA (varE 1) (consA (varE 2) (consA (varE 3) nilA))))) (nmG 4)) (seqS (asgS (callE F_prices_of (consA (varE 0) (consA (varE 1) (consA (varE 4) (consA (varE 3) nilA))))) (nmG 5)) (seqS (asgS (thwE nilA) (nmG 6)) (seqS (asgS (cE (.int 0)) (nmG 7)) (seqS (whileS 1000000 (valT (opE ltD (varE 7) (callE lenD (consA (varE 4) nilA)))) (seqS (forS (rrngI (opE addD (varE 7) (cE (.int 1))) (opE addD (callE lenD (consA (varE 4) nilA)) (cE (.int 1)))) (nmG 8) (seqS (asgS (callE F_cost_in (consA (varE 0) (consA (varE 1) (consA (varE 4) (consA (tupE (consA (varE 7) (consA (varE 8) nilA))) (consA (varE 3) nilA)))))) (nmG 9)) (ifS (andT (valT (opE notND (varE 9) (cE .none))) (valT (opE eqD (opE addD (varE 9) (opE itemD (varE 5) (varE 8))) (opE itemD (varE 5) (varE 7))))) brkS passS))) (seqS (exprS (methL appendD (varE 6) (consA (callE F_line_of (consA (varE 4) (consA (varE 7) (consA (varE 8) nilA)))) nilA))) (asgS (varE 8) (nmG 7))))) (retS (callE tupleD (consA (varE 6) nilA))))))))
noncomputable def F_evened : List D → Sto → R D := fnF 10 b_evened
noncomputable def b_shows_even : Sx := (retS (callE tupleD (consA (callE F_prices_of (consA (varE 0) (consA (varE 1) (consA (callE F_need_words (consA (varE 0) (consA (varE 1) (consA (varE 2) (consA (varE 3) nilA))))) (consA (varE 3) nilA))))) nilA)))
noncomputable def F_shows_even : List D → Sto → R D := fnF 4 b_shows_even
noncomputable def b_begins : Sx := (seqS (exprS (callE F_need_text (consA (varE 0) (consA (varE 2) nilA)))) (retS (callE F_begins_in (consA (varE 0) (consA (varE 1) (consA (varE 2) nilA))))))
noncomputable def F_begins : List D → Sto → R D := fnF 3 b_begins
noncomputable def b_wide : Sx := (seqS (exprS (callE F_need_text (consA (varE 0) (consA (varE 2) nilA)))) (retS (callE F_wide_in (consA (varE 0) (consA (varE 1) (consA (varE 2) nilA))))))
noncomputable def F_wide : List D → Sto → R D := fnF 3 b_wide
noncomputable def b_need_whole : Sx := (ifS (orT (notT (valT (op1 (isiD "int") (varE 0)))) (valT (op1 (isiD "bool") (varE 0)))) (raiseS "NoNumber") passS)
noncomputable def F_need_whole : List D → Sto → R D := fnF 1 b_need_whole
noncomputable def b_sign_at : Sx := (seqS (exprS (callE F_need_text (consA (varE 0) (consA (varE 2) nilA)))) (seqS (exprS (callE F_need_whole (consA (varE 3) nilA))) (seqS (forS (enumI (callE F_begins_in (consA (varE 0) (consA (varE 1) (consA (varE 2) nilA))))) (tupG 2 (consG (nmG 4) (consG (nmG 5) nilG))) (ifS (valT (chainE (cmpI fun i j => decide (i ≤ j)) ltD (varE 5) (varE 3) (opE addD (varE 5) (callE F_sign_width (consA (varE 0) (consA (opE itemD (varE 2) (varE 4)) nilA)))))) (retS (varE 4)) passS)) (retS (cE .none)))))
noncomputable def F_sign_at : List D → Sto → R D := fnF 6 b_sign_at
noncomputable def b_need_fresh : Sx := (ifS (orT (notT (valT (callE F_is_letter (consA (varE 1) nilA)))) (valT (opE notND (callE F_place_of (consA (varE 0) (consA (varE 1) nilA))) (cE .none)))) (raiseS "NoLetter") passS)
noncomputable def F_need_fresh : List D → Sto → R D := fnF 2 b_need_fresh
noncomputable def b_need_room : Sx := (ifS (valT (opE (cmpI fun i j => decide (j ≤ i)) (callE lenD (consA (opE itemD (varE 0) (cE (.int 1))) nilA)) (cE (.int 10)))) (raiseS "TooMany") passS)
noncomputable def F_need_room : List D → Sto → R D := fnF 1 b_need_room
noncomputable def b_with_like : Sx := (seqS (exprS (callE F_need_fresh (consA (varE 0) (consA (varE 2) nilA)))) (seqS (asgS (callE F_need_letter (consA (varE 0) (consA (varE 3) nilA))) (nmG 4)) (seqS (exprS (callE F_need_room (consA (varE 0) nilA))) (seqS (asgS (tupE (consA (opE itemD (varE 0) (cE (.int 0))) (consA (opE addD (opE itemD (varE 0) (cE (.int 1))) (tupE (consA (tupE (consA (varE 2) (consA (opE itemD (opE itemD (opE itemD (varE 0) (cE (.int 1))) (varE 4)) (cE (.int 1))) nilA))) nilA))) nilA))) (nmG 5)) (seqS (asgS (frzE (lcX (seqI (callE F_letters_of (consA (varE 5) nilA))) [8] (nmG 8) yesT (ifE (valT (opE eqD (varE 8) (varE 2))) (varE 3) (varE 8)))) (nmG 6)) (seqS (asgS (frzE (lcX (seqI (varE 6)) [9] (nmG 9) yesT (frzE (lcX (seqI (varE 6)) [10] (nmG 10) yesT (callE F_gap_in (consA (varE 1) (consA (varE 9) (consA (varE 10) nilA)))))))) (nmG 7)) (retS (tupE (consA (varE 5) (consA (callE F_from_rows (consA (varE 5) (consA (varE 7) nilA))) nilA))))))))))
noncomputable def F_with_like : List D → Sto → R D := fnF 11 b_with_like
noncomputable def b_with_gap : Sx := (seqS (exprS (callE F_need_letter (consA (varE 0) (consA (varE 2) nilA)))) (seqS (exprS (callE F_need_letter (consA (varE 0) (consA (varE 3) nilA)))) (seqS (ifS (notT (valT (callE F_is_gap (consA (varE 4) nilA)))) (raiseS "NoGap") passS) (seqS (asgS (callE F_letters_of (consA (varE 0) nilA)) (nmG 5)) (seqS (asgS (thwE (lcX (seqI (varE 5)) [7] (nmG 7) yesT (thwE (lcX (seqI (varE 5)) [8] (nmG 8) yesT (callE F_gap_in (consA (varE 1) (consA (varE 7) (consA (varE 8) nilA)))))))) (nmG 6)) (seqS (asgS (varE 4) (ixG (opE itemD (varE 6) (methT indexTD (varE 5) (consA (varE 2) nilA))) (methT indexTD (varE 5) (consA (varE 3) nilA)))) (seqS (fix2S 6) (retS (callE F_from_rows (consA (varE 0) (consA (varE 6) nilA)))))))))))
noncomputable def F_with_gap : List D → Sto → R D := fnF 9 b_with_gap
noncomputable def b_is_moved : Sx := (retS (callE anyD (consA (frzE (lcX (zipI (varE 2) (sliceE (varE 2) (someP (cE (.int 1))) noP)) [3, 4] (tupG 2 (consG (nmG 3) (consG (nmG 4) nilG))) yesT (opE neD (callE F_between (consA (varE 0) (consA (varE 3) (consA (varE 4) nilA)))) (callE F_between (consA (varE 1) (consA (varE 3) (consA (varE 4) nilA))))))) nilA)))
noncomputable def F_is_moved : List D → Sto → R D := fnF 5 b_is_moved
noncomputable def b_moved_lines : Sx := (seqS (ifS (notT (valT (op1 (isiD "tuple") (varE 3)))) (raiseS "NoLine") passS) (seqS (forS (seqI (varE 3)) (nmG 4) (exprS (callE F_need_text (consA (varE 0) (consA (varE 4) nilA))))) (retS (callE tupleD (consA (frzE (lcX (enumI (varE 3)) [5, 4] (tupG 2 (consG (nmG 5) (consG (nmG 4) nilG))) (valT (callE F_is_moved (consA (varE 1) (consA (varE 2) (consA (varE 4) nilA))))) (varE 5))) nilA)))))
noncomputable def F_moved_lines : List D → Sto → R D := fnF 6 b_moved_lines
noncomputable def b_spread : Sx := (seqS (asgS (callE F_words_of (consA (varE 0) (consA (varE 2) nilA))) (nmG 4)) (seqS (ifS (valT (opE ltD (callE lenD (consA (varE 4) nilA)) (cE (.int 2)))) (raiseS "NoLine") passS) (seqS (exprS (callE F_need_wide (consA (varE 3) nilA))) (seqS (asgS (callE F_room_of (consA (varE 0) (consA (varE 1) (consA (varE 2) (consA (varE 3) nilA))))) (nmG 5)) (seqS (ifS (valT (opE ltD (varE 5) (cE (.int 0)))) (raiseS "TooWide") passS) (seqS (asgS (callE divmodD (consA (varE 5) (consA (opE subD (callE lenD (consA (varE 4) nilA)) (cE (.int 1))) nilA))) (tupG 2 (consG (nmG 6) (consG (nmG 7) nilG)))) (retS (callE tupleD (consA (frzE (lcX (rng1I (opE subD (callE lenD (consA (varE 4) nilA)) (cE (.int 1)))) [8] (nmG 8) yesT (opE addD (opE addD (opE itemD (varE 0) (cE (.int 0))) (varE 6)) (callE intD (consA (opE ltD (varE 8) (varE 7)) nilA))))) nilA)))))))))
noncomputable def F_spread : List D → Sto → R D := fnF 9 b_spread
noncomputable def b_law_fresh : Sx := (seqS (asgS (callE F_law_letters (consA (varE 1) nilA)) (nmG 2)) (seqS (asgS (frzE (lcX (txtI (cE (.str "abcdefghijklmnopqrstuvwxyz"))) [4] (nmG 4) (valT (opE notInD (varE 4) (varE 2))) (varE 4))) (nmG 3)) (retS (opE itemD (varE 3) (callE F_law_take (consA (varE 0) (consA (callE lenD (consA (varE 3) nilA)) nilA)))))))
noncomputable def F_law_fresh : List D → Sto → R D := fnF 5 b_law_fresh
noncomputable def b_law_word_v1 : Sx := (retS (methS joinD (cE (.str "")) (consA (frzE (lcX (rng1I (opE addD (cE (.int 1)) (callE F_law_take (consA (varE 0) (consA (cE (.int 3)) nilA))))) [2] (nmG 2) yesT (opE itemD (varE 1) (callE F_law_take (consA (varE 0) (consA (callE lenD (consA (varE 1) nilA)) nilA)))))) nilA)))
noncomputable def F_law_word_v1 : List D → Sto → R D := fnF 3 b_law_word_v1
noncomputable def b_law_swapped : Sx := (seqS (asgS (thwE nilA) (nmG 4)) (seqS (forS (txtI (varE 1)) (nmG 5) (ifS (andT (valT (opE eqD (varE 5) (varE 3))) (valT (opE eqD (callE F_law_take (consA (varE 0) (consA (cE (.int 2)) nilA))) (cE (.int 0))))) (exprS (methL appendD (varE 4) (consA (varE 2) nilA))) (exprS (methL appendD (varE 4) (consA (varE 5) nilA))))) (seqS (fixS 4) (retS (methS joinD (cE (.str "")) (consA (varE 4) nilA))))))
noncomputable def F_law_swapped : List D → Sto → R D := fnF 6 b_law_swapped
noncomputable def b_law_same_lines : Sx := (retS (andE (opE eqD (frzE (lcX (seqI (varE 0)) [3] (nmG 3) yesT (callE lenD (consA (varE 3) nilA)))) (frzE (lcX (seqI (varE 1)) [3] (nmG 3) yesT (callE lenD (consA (varE 3) nilA))))) (opE eqD (methS joinD (cE (.str " ")) (consA (varE 1) nilA)) (varE 2))))
noncomputable def F_law_same_lines : List D → Sto → R D := fnF 4 b_law_same_lines
noncomputable def b_law_lines_right : Sx := (seqS (asgS (tupE (consA (varE 0) (consA (varE 1) (consA (varE 2) nilA)))) (tupG 3 (consG (tupG 2 (consG (nmG 4) (consG (nmG 5) nilG))) (consG (tupG 2 (consG (nmG 6) (consG (nmG 7) nilG))) (consG (tupG 2 (consG (nmG 8) (consG (nmG 9) nilG))) nilG))))) (seqS (parS [10, 11] (consA (callE F_evened (consA (varE 4) (consA (varE 5) (consA (varE 8) (consA (varE 3) nilA))))) (consA (callE F_evened (consA (varE 6) (consA (varE 7) (consA (varE 9) (consA (varE 3) nilA))))) nilA))) (seqS (ifS (notT (valT (callE F_law_same_lines (consA (varE 10) (consA (varE 11) (consA (varE 9) nilA)))))) (retS (cE (.bool false))) passS) (seqS (ifS (notT (valT (callE F_law_same_lines (consA (callE F_filled (consA (varE 4) (consA (varE 5) (consA (varE 8) (consA (varE 3) nilA))))) (consA (callE F_filled (consA (varE 6) (consA (varE 7) (consA (varE 9) (consA (varE 3) nilA))))) (consA (varE 9) nilA)))))) (retS (cE (.bool false))) passS) (seqS (ifS (valT (opE neD (callE F_shows_even (consA (varE 4) (consA (varE 5) (consA (varE 8) (consA (varE 3) nilA))))) (callE F_shows_even (consA (varE 6) (consA (varE 7) (consA (varE 9) (consA (varE 3) nilA))))))) (retS (cE (.bool false))) passS) (seqS (ifS (valT (opE inD (cE (.str " ")) (opE itemD (varE 10) (cE (.int 0))))) (retS (opE eqD (callE F_spread (consA (varE 4) (consA (varE 5) (consA (opE itemD (varE 10) (cE (.int 0))) (consA (varE 3) nilA))))) (callE F_spread (consA (varE 6) (consA (varE 7) (consA (opE itemD (varE 11) (cE (.int 0))) (consA (varE 3) nilA))))))) passS) (retS (cE (.bool true)))))))))
noncomputable def F_law_lines_right : List D → Sto → R D := fnF 12 b_law_lines_right
end DV

set_option maxHeartbeats 4000000
namespace DV
open PySem PySem.Spec PyProof.Rows L2
/-! a text in a text. -/
def inStrD : D → D → Sto → R D
  | .py (.str i), .py (.str j), S => .ok (.py (.bool (!(Builtin.Str.occurrences j i 0 j.length 1).isEmpty))) S
  | _, _, _ => .no
theorem do_inStr {X : Cx} : DOp X (compareOp .In) inStrD := by
  refine ⟨_, op_in_str (X := X), fun x y d e H S ι E Q hS rx ry hw => ?_⟩
  unfold inStrD at hw
  split at hw
  · exact ⟨_, _, str_of rx, str_of ry, hw _ _ _ (.refl hS) (.py (.bl _))⟩
  · exact hw.elim
end DV

set_option maxHeartbeats 4000000
namespace DV.k69
open PySem PySem.Spec PyProof.Rows L2 DV
noncomputable def q_law_0 : Sx := (ifS (valT (opE neD (callE F_begins (consA (varE 8) (consA (varE 9) (consA (varE 12) nilA)))) (callE F_begins (consA (varE 3) (consA (varE 5) (consA (varE 11) nilA)))))) (retS (cE (.bool false))) passS)
noncomputable def q_law_1 : Sx := (ifS (valT (opE neD (callE F_wide (consA (varE 8) (consA (varE 9) (consA (varE 12) nilA)))) (callE F_wide (consA (varE 3) (consA (varE 5) (consA (varE 11) nilA)))))) (retS (cE (.bool false))) passS)
noncomputable def q_law_2 : Sx := (ifS (valT (opE neD (callE F_sign_at (consA (varE 8) (consA (varE 9) (consA (varE 12) (consA (varE 13) nilA))))) (callE F_sign_at (consA (varE 3) (consA (varE 5) (consA (varE 11) (consA (varE 13) nilA))))))) (retS (cE (.bool false))) passS)
noncomputable def q_law_3 : Sx := (ifS (notT (valT (callE F_law_lines_right (consA (tupE (consA (varE 3) (consA (varE 5) nilA))) (consA (tupE (consA (varE 8) (consA (varE 9) nilA))) (consA (tupE (consA (varE 11) (consA (varE 12) nilA))) (consA (varE 14) nilA))))))) (retS (cE (.bool false))) passS)
noncomputable def q_law_4 : Sx := (ifS (orT (valT (opE neD (callE F_parters (consA (varE 8) (consA (varE 9) nilA))) (callE F_parters (consA (varE 3) (consA (varE 5) nilA))))) (valT (opE neD (callE F_shows_lefts (consA (varE 8) (consA (varE 9) nilA))) (callE F_shows_lefts (consA (varE 3) (consA (varE 5) nilA)))))) (retS (cE (.bool false))) passS)
noncomputable def q_law_5 : Sx := (ifS (andT (valT (opE inStrD (opE addD (varE 6) (varE 15)) (varE 12))) (valT (opE neD (varE 16) (callE F_gap_of (consA (varE 3) (consA (varE 5) (consA (varE 7) (consA (varE 15) nilA)))))))) (asgS (tupE (consA (cE (.int 1)) nilA)) (nmG 17)) passS)
noncomputable def q_law_6 : Sx := (ifS (valT (opE neD (callE F_moved_lines (consA (varE 8) (consA (varE 9) (consA (varE 18) (consA (tupE (consA (varE 11) (consA (varE 12) (consA (cE (.str "")) nilA)))) nilA))))) (varE 17))) (retS (cE (.bool false))) passS)
noncomputable def q_law_7 : Sx := (forS (rng1I (callE max2D (consA (cE (.int 1)) (consA (callE min2D (consA (callE lenD (consA (varE 0) nilA)) (consA (cE (.int 2)) nilA))) nilA)))) (nmG 1) (seqS (asgS (callE F_law_box (consA (varE 0) (consA (varE 1) nilA))) (nmG 2)) (seqS (asgS (callE F_law_face (consA (varE 2) (consA (cE (.int 1)) (consA (cE (.int 4)) nilA)))) (nmG 3)) (seqS (asgS (tupE (consA (callE F_law_letters (consA (varE 3) nilA)) (consA (callE F_law_pairs (consA (varE 2) (consA (varE 3) nilA))) nilA))) (tupG 2 (consG (nmG 4) (consG (nmG 5) nilG)))) (seqS (parS [6, 7] (consA (callE F_law_fresh (consA (varE 2) (consA (varE 3) nilA))) (consA (opE itemD (varE 4) (callE F_law_take (consA (varE 2) (consA (callE lenD (consA (varE 4) nilA)) nilA)))) nilA))) (seqS (asgS (callE F_with_like (consA (varE 3) (consA (varE 5) (consA (varE 6) (consA (varE 7) nilA))))) (tupG 2 (consG (nmG 8) (consG (nmG 9) nilG)))) (seqS (asgS (frzE (lcX (rng1I (opE addD (cE (.int 1)) (callE F_law_take (consA (varE 2) (consA (cE (.int 4)) nilA))))) [19] (nmG 19) yesT (callE F_law_word_v1 (consA (varE 2) (consA (varE 4) nilA))))) (nmG 10)) (seqS (asgS (methS joinD (cE (.str " ")) (consA (varE 10) nilA)) (nmG 11)) (seqS (asgS (callE F_law_swapped (consA (varE 2) (consA (varE 11) (consA (varE 6) (consA (varE 7) nilA))))) (nmG 12)) (seqS q_law_0 (seqS q_law_1 (seqS (asgS (callE F_law_take (consA (varE 2) (consA (cE (.int 400)) nilA))) (nmG 13)) (seqS q_law_2 (seqS (asgS (opE addD (callE maxD (consA (frzE (lcX (seqI (varE 10)) [20] (nmG 20) yesT (callE F_wide (consA (varE 3) (consA (varE 5) (consA (varE 20) nilA)))))) nilA)) (callE F_law_take (consA (varE 2) (consA (cE (.int 200)) nilA)))) (nmG 14)) (seqS q_law_3 (seqS q_law_4 (seqS (parS [15, 16] (consA (opE itemD (varE 4) (callE F_law_take (consA (varE 2) (consA (callE lenD (consA (varE 4) nilA)) nilA)))) (consA (opE subD (callE F_law_take (consA (varE 2) (consA (cE (.int 19)) nilA))) (cE (.int 9))) nilA))) (seqS (asgS (tupE nilA) (nmG 17)) (seqS q_law_5 (seqS (asgS (callE F_with_gap (consA (varE 8) (consA (varE 9) (consA (varE 6) (consA (varE 15) (consA (varE 16) nilA)))))) (nmG 18)) q_law_6))))))))))))))))))))
noncomputable def b_law : Sx := (seqS q_law_7 (retS (cE (.bool true))))
noncomputable def F_law : List D → Sto → R D := fnF 21 b_law
end DV.k69

set_option maxHeartbeats 4000000
namespace DV.k69
open PySem PySem.Spec PyProof.Rows L2 DV
def topS (i : Nat) : Stmt := PySem.Challenge.pw_stampgaps_k69_whole_likes_in_lines.main.body.getD i (.Pass ⟨0, 0, 0, 0⟩)
abbrev s_is_from_to : Stmt := topS 12
theorem sc_is_from_to : FnScope ["thing", "least", "most"] ["thing", "least", "most"] (defScope s_is_from_to) := ⟨rfl, rfl, rfl, by decide +kernel, rfl, by decide +kernel, by decide +kernel⟩
abbrev s_is_letter : Stmt := topS 13
theorem sc_is_letter : FnScope ["thing"] ["thing"] (defScope s_is_letter) := ⟨rfl, rfl, rfl, by decide +kernel, rfl, by decide +kernel, by decide +kernel⟩
abbrev s_is_gap : Stmt := topS 14
theorem sc_is_gap : FnScope ["thing"] ["thing"] (defScope s_is_gap) := ⟨rfl, rfl, rfl, by decide +kernel, rfl, by decide +kernel, by decide +kernel⟩
abbrev s_letters_of : Stmt := topS 15
theorem sc_letters_of : FnScope ["face", "one"] ["face"] (defScope s_letters_of) := ⟨rfl, rfl, rfl, by decide +kernel, rfl, by decide +kernel, by decide +kernel⟩
abbrev s_place_of : Stmt := topS 16
theorem sc_place_of : FnScope ["face", "thing", "place", "one"] ["face", "thing"] (defScope s_place_of) := ⟨rfl, rfl, rfl, by decide +kernel, rfl, by decide +kernel, by decide +kernel⟩
abbrev s_need_letter : Stmt := topS 17
theorem sc_need_letter : FnScope ["face", "thing", "place"] ["face", "thing"] (defScope s_need_letter) := ⟨rfl, rfl, rfl, by decide +kernel, rfl, by decide +kernel, by decide +kernel⟩
abbrev s_gap_in : Stmt := topS 18
theorem sc_gap_in : FnScope ["pairs", "left", "right", "one", "other", "gap"] ["pairs", "left", "right"] (defScope s_gap_in) := ⟨rfl, rfl, rfl, by decide +kernel, rfl, by decide +kernel, by decide +kernel⟩
abbrev s_gap_of : Stmt := topS 19
theorem sc_gap_of : FnScope ["face", "pairs", "left", "right"] ["face", "pairs", "left", "right"] (defScope s_gap_of) := ⟨rfl, rfl, rfl, by decide +kernel, rfl, by decide +kernel, by decide +kernel⟩
abbrev s_rows_of : Stmt := topS 20
theorem sc_rows_of : FnScope ["face", "pairs", "letters", "left", "right"] ["face", "pairs"] (defScope s_rows_of) := ⟨rfl, rfl, rfl, by decide +kernel, rfl, by decide +kernel, by decide +kernel⟩
abbrev s_from_rows : Stmt := topS 21
theorem sc_from_rows : FnScope ["face", "rows", "letters", "found", "left", "row", "right", "gap"] ["face", "rows"] (defScope s_from_rows) := ⟨rfl, rfl, rfl, by decide +kernel, rfl, by decide +kernel, by decide +kernel⟩
abbrev s_is_sign : Stmt := topS 23
theorem sc_is_sign : FnScope ["face", "thing"] ["face", "thing"] (defScope s_is_sign) := ⟨rfl, rfl, rfl, by decide +kernel, rfl, by decide +kernel, by decide +kernel⟩
abbrev s_is_text : Stmt := topS 24
theorem sc_is_text : FnScope ["face", "thing", "sign"] ["face", "thing"] (defScope s_is_text) := ⟨rfl, rfl, rfl, by decide +kernel, rfl, by decide +kernel, by decide +kernel⟩
abbrev s_need_text : Stmt := topS 25
theorem sc_need_text : FnScope ["face", "thing"] ["face", "thing"] (defScope s_need_text) := ⟨rfl, rfl, rfl, by decide +kernel, rfl, by decide +kernel, by decide +kernel⟩
abbrev s_sign_width : Stmt := topS 26
theorem sc_sign_width : FnScope ["face", "sign"] ["face", "sign"] (defScope s_sign_width) := ⟨rfl, rfl, rfl, by decide +kernel, rfl, by decide +kernel, by decide +kernel⟩
abbrev s_between : Stmt := topS 27
theorem sc_between : FnScope ["pairs", "one", "other"] ["pairs", "one", "other"] (defScope s_between) := ⟨rfl, rfl, rfl, by decide +kernel, rfl, by decide +kernel, by decide +kernel⟩
abbrev s_begins_in : Stmt := topS 28
theorem sc_begins_in : FnScope ["face", "pairs", "text", "found", "here", "place", "sign"] ["face", "pairs", "text"] (defScope s_begins_in) := ⟨rfl, rfl, rfl, by decide +kernel, rfl, by decide +kernel, by decide +kernel⟩
abbrev s_begins : Stmt := topS 29
theorem sc_begins : FnScope ["face", "pairs", "text"] ["face", "pairs", "text"] (defScope s_begins) := ⟨rfl, rfl, rfl, by decide +kernel, rfl, by decide +kernel, by decide +kernel⟩
abbrev s_wide_in : Stmt := topS 30
theorem sc_wide_in : FnScope ["face", "pairs", "text"] ["face", "pairs", "text"] (defScope s_wide_in) := ⟨rfl, rfl, rfl, by decide +kernel, rfl, by decide +kernel, by decide +kernel⟩
abbrev s_wide : Stmt := topS 31
theorem sc_wide : FnScope ["face", "pairs", "text"] ["face", "pairs", "text"] (defScope s_wide) := ⟨rfl, rfl, rfl, by decide +kernel, rfl, by decide +kernel, by decide +kernel⟩
abbrev s_need_whole : Stmt := topS 32
theorem sc_need_whole : FnScope ["thing"] ["thing"] (defScope s_need_whole) := ⟨rfl, rfl, rfl, by decide +kernel, rfl, by decide +kernel, by decide +kernel⟩
abbrev s_sign_at : Stmt := topS 33
theorem sc_sign_at : FnScope ["face", "pairs", "text", "number", "place", "start"] ["face", "pairs", "text", "number"] (defScope s_sign_at) := ⟨rfl, rfl, rfl, by decide +kernel, rfl, by decide +kernel, by decide +kernel⟩
abbrev s_need_fresh : Stmt := topS 35
theorem sc_need_fresh : FnScope ["face", "letter"] ["face", "letter"] (defScope s_need_fresh) := ⟨rfl, rfl, rfl, by decide +kernel, rfl, by decide +kernel, by decide +kernel⟩
abbrev s_need_room : Stmt := topS 36
theorem sc_need_room : FnScope ["face"] ["face"] (defScope s_need_room) := ⟨rfl, rfl, rfl, by decide +kernel, rfl, by decide +kernel, by decide +kernel⟩
abbrev s_with_like : Stmt := topS 37
theorem sc_with_like : FnScope ["face", "pairs", "letter", "other", "place", "later", "stands", "rows", "one", "left", "right"] ["face", "pairs", "letter", "other"] (defScope s_with_like) := ⟨rfl, rfl, rfl, by decide +kernel, rfl, by decide +kernel, by decide +kernel⟩
abbrev s_with_gap : Stmt := topS 38
theorem sc_with_gap : FnScope ["face", "pairs", "left", "right", "gap", "letters", "rows", "one", "other"] ["face", "pairs", "left", "right", "gap"] (defScope s_with_gap) := ⟨rfl, rfl, rfl, by decide +kernel, rfl, by decide +kernel, by decide +kernel⟩
abbrev s_is_moved : Stmt := topS 39
theorem sc_is_moved : FnScope ["pairs", "other", "text", "one", "sign"] ["pairs", "other", "text"] (defScope s_is_moved) := ⟨rfl, rfl, rfl, by decide +kernel, rfl, by decide +kernel, by decide +kernel⟩
abbrev s_moved_lines : Stmt := topS 40
theorem sc_moved_lines : FnScope ["face", "pairs", "other", "texts", "text", "number"] ["face", "pairs", "other", "texts"] (defScope s_moved_lines) := ⟨rfl, rfl, rfl, by decide +kernel, rfl, by decide +kernel, by decide +kernel⟩
abbrev s_words_of : Stmt := topS 43
theorem sc_words_of : FnScope ["face", "text", "words"] ["face", "text"] (defScope s_words_of) := ⟨rfl, rfl, rfl, by decide +kernel, rfl, by decide +kernel, by decide +kernel⟩
abbrev s_line_of : Stmt := topS 44
theorem sc_line_of : FnScope ["words", "first", "behind"] ["words", "first", "behind"] (defScope s_line_of) := ⟨rfl, rfl, rfl, by decide +kernel, rfl, by decide +kernel, by decide +kernel⟩
abbrev s_room_of : Stmt := topS 45
theorem sc_room_of : FnScope ["face", "pairs", "line", "number"] ["face", "pairs", "line", "number"] (defScope s_room_of) := ⟨rfl, rfl, rfl, by decide +kernel, rfl, by decide +kernel, by decide +kernel⟩
abbrev s_need_wide : Stmt := topS 46
theorem sc_need_wide : FnScope ["number"] ["number"] (defScope s_need_wide) := ⟨rfl, rfl, rfl, by decide +kernel, rfl, by decide +kernel, by decide +kernel⟩
abbrev s_need_words : Stmt := topS 47
theorem sc_need_words : FnScope ["face", "pairs", "text", "number", "words", "word"] ["face", "pairs", "text", "number"] (defScope s_need_words) := ⟨rfl, rfl, rfl, by decide +kernel, rfl, by decide +kernel, by decide +kernel⟩
abbrev s_filled : Stmt := topS 48
theorem sc_filled : FnScope ["face", "pairs", "text", "number", "words", "lines", "word"] ["face", "pairs", "text", "number"] (defScope s_filled) := ⟨rfl, rfl, rfl, by decide +kernel, rfl, by decide +kernel, by decide +kernel⟩
abbrev s_cost_in : Stmt := topS 49
theorem sc_cost_in : FnScope ["face", "pairs", "words", "ends", "number", "room"] ["face", "pairs", "words", "ends", "number"] (defScope s_cost_in) := ⟨rfl, rfl, rfl, by decide +kernel, rfl, by decide +kernel, by decide +kernel⟩
abbrev s_prices_of : Stmt := topS 50
theorem sc_prices_of : FnScope ["face", "pairs", "words", "number", "prices", "first", "best", "behind", "cost"] ["face", "pairs", "words", "number"] (defScope s_prices_of) := ⟨rfl, rfl, rfl, by decide +kernel, rfl, by decide +kernel, by decide +kernel⟩
abbrev s_evened : Stmt := topS 51
theorem sc_evened : FnScope ["face", "pairs", "text", "number", "words", "prices", "lines", "first", "behind", "cost"] ["face", "pairs", "text", "number"] (defScope s_evened) := ⟨rfl, rfl, rfl, by decide +kernel, rfl, by decide +kernel, by decide +kernel⟩
abbrev s_shows_even : Stmt := topS 52
theorem sc_shows_even : FnScope ["face", "pairs", "text", "number"] ["face", "pairs", "text", "number"] (defScope s_shows_even) := ⟨rfl, rfl, rfl, by decide +kernel, rfl, by decide +kernel, by decide +kernel⟩
abbrev s_spread : Stmt := topS 53
theorem sc_spread : FnScope ["face", "pairs", "text", "number", "words", "room", "each", "left", "place"] ["face", "pairs", "text", "number"] (defScope s_spread) := ⟨rfl, rfl, rfl, by decide +kernel, rfl, by decide +kernel, by decide +kernel⟩
abbrev s_grouped : Stmt := topS 55
theorem sc_grouped : FnScope ["letters", "marks", "kinds", "mark", "letter", "own"] ["letters", "marks"] (defScope s_grouped) := ⟨rfl, rfl, rfl, by decide +kernel, rfl, by decide +kernel, by decide +kernel⟩
abbrev s_left_parting : Stmt := topS 56
theorem sc_left_parting : FnScope ["face", "pairs"] ["face", "pairs"] (defScope s_left_parting) := ⟨rfl, rfl, rfl, by decide +kernel, rfl, by decide +kernel, by decide +kernel⟩
abbrev s_parting_letter : Stmt := topS 57
theorem sc_parting_letter : FnScope ["face", "pairs", "one", "other", "right"] ["face", "pairs", "one", "other"] (defScope s_parting_letter) := ⟨rfl, rfl, rfl, by decide +kernel, rfl, by decide +kernel, by decide +kernel⟩
abbrev s_twos : Stmt := topS 58
theorem sc_twos : FnScope ["letters", "found", "number", "one", "other"] ["letters"] (defScope s_twos) := ⟨rfl, rfl, rfl, by decide +kernel, rfl, by decide +kernel, by decide +kernel⟩
abbrev s_shows_lefts : Stmt := topS 59
theorem sc_shows_lefts : FnScope ["face", "pairs", "letters", "one", "other"] ["face", "pairs"] (defScope s_shows_lefts) := ⟨rfl, rfl, rfl, by decide +kernel, rfl, by decide +kernel, by decide +kernel⟩
abbrev s_choices : Stmt := topS 60
theorem sc_choices : FnScope ["many", "count", "found", "turn", "longer", "row", "number"] ["many", "count"] (defScope s_choices) := ⟨rfl, rfl, rfl, by decide +kernel, rfl, by decide +kernel, by decide +kernel⟩
abbrev s_parters : Stmt := topS 61
theorem sc_parters : FnScope ["face", "pairs", "letters", "due", "count", "row", "marks", "left", "place"] ["face", "pairs"] (defScope s_parters) := ⟨rfl, rfl, rfl, by decide +kernel, rfl, by decide +kernel, by decide +kernel⟩
abbrev s_law_box : Stmt := topS 63
theorem sc_law_box : FnScope ["_law_script", "_law_k", "_law_cell"] ["_law_script", "_law_k"] (defScope s_law_box) := ⟨rfl, rfl, rfl, by decide +kernel, rfl, by decide +kernel, by decide +kernel⟩
abbrev s_law_take : Stmt := topS 64
theorem sc_law_take : FnScope ["_law_box_here", "_law_many", "_law_digit", "_law_high"] ["_law_box_here", "_law_many"] (defScope s_law_take) := ⟨rfl, rfl, rfl, by decide +kernel, rfl, by decide +kernel, by decide +kernel⟩
abbrev s_law_face : Stmt := topS 65
theorem sc_law_face : FnScope ["_law_box_here", "_law_least", "_law_most", "_law_pool", "_law_many", "_law_letters_here", "_law_turn"] ["_law_box_here", "_law_least", "_law_most"] (defScope s_law_face) := ⟨rfl, rfl, rfl, by decide +kernel, rfl, by decide +kernel, by decide +kernel⟩
abbrev s_law_letters : Stmt := topS 66
theorem sc_law_letters : FnScope ["_law_face_here", "_law_one"] ["_law_face_here"] (defScope s_law_letters) := ⟨rfl, rfl, rfl, by decide +kernel, rfl, by decide +kernel, by decide +kernel⟩
abbrev s_law_rows : Stmt := topS 67
theorem sc_law_rows : FnScope ["_law_box_here", "_law_many", "_law_firsts", "_law_seconds", "_law_near", "_law_gaps", "_law_rows_here", "_law_turn", "_law_place", "_law_first", "_law_second"] ["_law_box_here", "_law_many"] (defScope s_law_rows) := ⟨rfl, rfl, rfl, by decide +kernel, rfl, by decide +kernel, by decide +kernel⟩
abbrev s_law_list : Stmt := topS 68
theorem sc_law_list : FnScope ["_law_face_here", "_law_rows_here", "_law_letters_here", "_law_found", "_law_left", "_law_row", "_law_right", "_law_gap"] ["_law_face_here", "_law_rows_here"] (defScope s_law_list) := ⟨rfl, rfl, rfl, by decide +kernel, rfl, by decide +kernel, by decide +kernel⟩
abbrev s_law_pairs : Stmt := topS 69
theorem sc_law_pairs : FnScope ["_law_box_here", "_law_face_here"] ["_law_box_here", "_law_face_here"] (defScope s_law_pairs) := ⟨rfl, rfl, rfl, by decide +kernel, rfl, by decide +kernel, by decide +kernel⟩
abbrev s_law_fresh : Stmt := topS 70
theorem sc_law_fresh : FnScope ["_law_box_here", "_law_face_here", "_law_letters_here", "_law_some", "_law_letter"] ["_law_box_here", "_law_face_here"] (defScope s_law_fresh) := ⟨rfl, rfl, rfl, by decide +kernel, rfl, by decide +kernel, by decide +kernel⟩
abbrev s_law_word : Stmt := topS 71
theorem sc_law_word : FnScope ["_law_box_here", "_law_letters_here", "_law_place"] ["_law_box_here", "_law_letters_here"] (defScope s_law_word) := ⟨rfl, rfl, rfl, by decide +kernel, rfl, by decide +kernel, by decide +kernel⟩
abbrev s_law_swapped : Stmt := topS 72
theorem sc_law_swapped : FnScope ["_law_box_here", "_law_text", "_law_letter", "_law_other", "_law_signs", "_law_sign"] ["_law_box_here", "_law_text", "_law_letter", "_law_other"] (defScope s_law_swapped) := ⟨rfl, rfl, rfl, by decide +kernel, rfl, by decide +kernel, by decide +kernel⟩
abbrev s_law_same_lines : Stmt := topS 73
theorem sc_law_same_lines : FnScope ["_law_lines", "_law_others", "_law_text", "_law_line"] ["_law_lines", "_law_others", "_law_text"] (defScope s_law_same_lines) := ⟨rfl, rfl, rfl, by decide +kernel, rfl, by decide +kernel, by decide +kernel⟩
abbrev s_law_lines_right : Stmt := topS 74
theorem sc_law_lines_right : FnScope ["_law_elder", "_law_later", "_law_texts", "_law_number", "_law_face_here", "_law_pairs_here", "_law_grown", "_law_more", "_law_text", "_law_swapped_here", "_law_plain", "_law_like"] ["_law_elder", "_law_later", "_law_texts", "_law_number"] (defScope s_law_lines_right) := ⟨rfl, rfl, rfl, by decide +kernel, rfl, by decide +kernel, by decide +kernel⟩
abbrev s_law : Stmt := topS 75
theorem sc_law : FnScope ["_law_script", "_law_k", "_law_box_here", "_law_face_here", "_law_letters_here", "_law_pairs_here", "_law_letter", "_law_other", "_law_later", "_law_more", "_law_words", "_law_text", "_law_swapped_here", "_law_at", "_law_number", "_law_one", "_law_gap", "_law_due", "_law_turned", "_law_turn", "_law_word_here"] ["_law_script"] (defScope s_law) := ⟨rfl, rfl, rfl, by decide +kernel, rfl, by decide +kernel, by decide +kernel⟩
section
variable {P : Program} {w : World} {K : PySem.W.Frag} {mg : Str → Option Value} {base : Heap}
theorem ok_is_from_to {f : Addr} {fd : FuncData} (F0 : L2.Fun K "is_from_to" "is_from_to" s_is_from_to f fd) (m_isinstance : mg "isinstance" = none) (m_int : mg "int" = none) (m_bool : mg "bool" = none) : FnD P w K mg base 1 f fd ["thing", "least", "most"] F_is_from_to :=
  dfn F0 sc_is_from_to (fun _ _ _ _ _ _ o => (dss_one (ds_ret (de_and (de_isi (T := "int") m_isinstance m_int (de_var 0)) (de_and (de_not (de_isi (T := "bool") m_isinstance m_bool (de_var 0))) (de_one (de_chain do_le do_le (de_var 1) (de_var 0) (de_var 2))))))))
theorem ok_is_letter {f : Addr} {fd : FuncData} (F0 : L2.Fun K "is_letter" "is_letter" s_is_letter f fd) (m_isinstance : mg "isinstance" = none) (m_str : mg "str" = none) (m_len : mg "len" = none) {t_LETTERS : Tok} (c_LETTERS : mg "LETTERS" = some (.str "abcdefghijklmnopqrstuvwxyz" t_LETTERS)) : FnD P w K mg base 1 f fd ["thing"] F_is_letter :=
  dfn F0 sc_is_letter (fun _ _ _ _ _ _ o => (dss_one (ds_ret (de_and (de_isi (T := "str") m_isinstance m_str (de_var 0)) (de_and (de_cmp (do_eq o) (de_callB dc_len m_len boot_len (da_cons (de_var 0) da_nil)) de_int) (de_one (de_cmp (do_in o) (de_var 0) (de_gstr c_LETTERS))))))))
theorem ok_is_gap {f : Addr} {fd : FuncData} (F0 : L2.Fun K "is_gap" "is_gap" s_is_gap f fd) {f_is_from_to : Addr} {fd_is_from_to : FuncData} (G_is_from_to : FnD P w K mg base 1 f_is_from_to fd_is_from_to ["thing", "least", "most"] F_is_from_to) (A_is_from_to : At K mg "is_from_to" f_is_from_to fd_is_from_to ["thing", "least", "most"]) {t_FAR : Tok} (c_FAR : mg "FAR" = some (.int 9 t_FAR)) : FnD P w K mg base 2 f fd ["thing"] F_is_gap :=
  dfn F0 sc_is_gap (fun _ _ _ _ _ _ o => (dss_one (ds_ret (de_call o G_is_from_to A_is_from_to (by decide) (da_cons (de_var 0) (da_cons (de_bin do_sub de_int (de_gint c_FAR)) (da_cons (de_gint c_FAR) da_nil)))))))
theorem ok_letters_of {f : Addr} {fd : FuncData} (F0 : L2.Fun K "letters_of" "letters_of" s_letters_of f fd) (m_tuple : mg "tuple" = none) : FnD P w K mg base 1 f fd ["face"] F_letters_of :=
  dfn F0 sc_letters_of (fun _ _ _ _ _ _ o => (dss_one (ds_ret (de_callTy dc_tuple m_tuple PyProof.Rows.boot_tuple (da_cons (de_frz (dl_lc [("one", 1)] o (di_seq (de_item (de_var 0) de_int)) (fun _ _ _ _ _ o => (dg_name 1 o.nd)) (fun _ _ _ _ _ o => dts_nil) (fun _ _ _ _ _ o => (de_item (de_var 1) de_int)))) da_nil)))))
theorem ok_place_of {f : Addr} {fd : FuncData} (F0 : L2.Fun K "place_of" "place_of" s_place_of f fd) (m_enumerate : mg "enumerate" = none) : FnD P w K mg base 1 f fd ["face", "thing"] F_place_of :=
  dfn F0 sc_place_of (fun _ _ _ _ _ _ o => (dss_cons (ds_for (vs := [2, 3]) o (di_enum m_enumerate (de_item (de_var 0) de_int)) (dg_tup o.calm (dgs_cons (dg_name 2 o.nd) (dgs_cons (dg_name 3 o.nd) dgs_nil))) (dss_one (ds_if (dt_cmp (do_eq o) (de_item (de_var 3) de_int) (de_var 1)) (dss_one (ds_ret (de_var 2))) dss_nil))) (dss_one (ds_ret de_non))))
theorem ok_need_letter {f : Addr} {fd : FuncData} (F0 : L2.Fun K "need_letter" "need_letter" s_need_letter f fd) {f_place_of : Addr} {fd_place_of : FuncData} (G_place_of : FnD P w K mg base 1 f_place_of fd_place_of ["face", "thing"] F_place_of) (A_place_of : At K mg "place_of" f_place_of fd_place_of ["face", "thing"]) {a_NoLetter : Addr} (X_NoLetter : ExcAt K mg "NoLetter" a_NoLetter) : FnD P w K mg base 2 f fd ["face", "thing"] F_need_letter :=
  dfn F0 sc_need_letter (fun _ _ _ _ _ _ o => (dss_cons (ds_set 2 o.nd (de_call o G_place_of A_place_of (by decide) (da_cons (de_var 0) (da_cons (de_var 1) da_nil)))) (dss_cons (ds_if (dt_cmp do_is (de_var 2) de_non) (dss_one (ds_raise o X_NoLetter)) dss_nil) (dss_one (ds_ret (de_var 2))))))
theorem ok_gap_in {f : Addr} {fd : FuncData} (F0 : L2.Fun K "gap_in" "gap_in" s_gap_in f fd) : FnD P w K mg base 1 f fd ["pairs", "left", "right"] F_gap_in :=
  dfn F0 sc_gap_in (fun _ _ _ _ _ _ o => (dss_cons (ds_for (vs := [3, 4, 5]) o (di_seq (de_var 0)) (dg_tup o.calm (dgs_cons (dg_name 3 o.nd) (dgs_cons (dg_name 4 o.nd) (dgs_cons (dg_name 5 o.nd) dgs_nil)))) (dss_one (ds_if (dt_w (dw_and (dt_cmp (do_eq o) (de_var 3) (de_var 1)) (dw_and1 (dt_cmp (do_eq o) (de_var 4) (de_var 2))))) (dss_one (ds_ret (de_var 5))) dss_nil))) (dss_one (ds_ret de_int))))
theorem ok_gap_of {f : Addr} {fd : FuncData} (F0 : L2.Fun K "gap_of" "gap_of" s_gap_of f fd) {f_need_letter : Addr} {fd_need_letter : FuncData} (G_need_letter : FnD P w K mg base 2 f_need_letter fd_need_letter ["face", "thing"] F_need_letter) (A_need_letter : At K mg "need_letter" f_need_letter fd_need_letter ["face", "thing"]) {f_gap_in : Addr} {fd_gap_in : FuncData} (G_gap_in : FnD P w K mg base 1 f_gap_in fd_gap_in ["pairs", "left", "right"] F_gap_in) (A_gap_in : At K mg "gap_in" f_gap_in fd_gap_in ["pairs", "left", "right"]) : FnD P w K mg base 3 f fd ["face", "pairs", "left", "right"] F_gap_of :=
  dfn F0 sc_gap_of (fun _ _ _ _ _ _ o => (dss_cons (ds_expr (de_call o G_need_letter A_need_letter (by decide) (da_cons (de_var 0) (da_cons (de_var 2) da_nil)))) (dss_cons (ds_expr (de_call o G_need_letter A_need_letter (by decide) (da_cons (de_var 0) (da_cons (de_var 3) da_nil)))) (dss_one (ds_ret (de_call o G_gap_in A_gap_in (by decide) (da_cons (de_var 1) (da_cons (de_var 2) (da_cons (de_var 3) da_nil)))))))))
theorem ok_rows_of {f : Addr} {fd : FuncData} (F0 : L2.Fun K "rows_of" "rows_of" s_rows_of f fd) {f_letters_of : Addr} {fd_letters_of : FuncData} (G_letters_of : FnD P w K mg base 1 f_letters_of fd_letters_of ["face"] F_letters_of) (A_letters_of : At K mg "letters_of" f_letters_of fd_letters_of ["face"]) {f_gap_in : Addr} {fd_gap_in : FuncData} (G_gap_in : FnD P w K mg base 1 f_gap_in fd_gap_in ["pairs", "left", "right"] F_gap_in) (A_gap_in : At K mg "gap_in" f_gap_in fd_gap_in ["pairs", "left", "right"]) (m_tuple : mg "tuple" = none) : FnD P w K mg base 2 f fd ["face", "pairs"] F_rows_of :=
  dfn F0 sc_rows_of (fun _ _ _ _ _ _ o => (dss_cons (ds_set 2 o.nd (de_call o G_letters_of A_letters_of (by decide) (da_cons (de_var 0) da_nil))) (dss_one (ds_ret (de_callTy dc_tuple m_tuple PyProof.Rows.boot_tuple (da_cons (de_frz (dl_lc [("left", 3)] o (di_seq (de_var 2)) (fun _ _ _ _ _ o => (dg_name 3 o.nd)) (fun _ _ _ _ _ o => dts_nil) (fun _ _ _ _ _ o => (de_callTy dc_tuple m_tuple PyProof.Rows.boot_tuple (da_cons (de_frz (dl_lc [("right", 4)] o (di_seq (de_var 2)) (fun _ _ _ _ _ o => (dg_name 4 o.nd)) (fun _ _ _ _ _ o => dts_nil) (fun _ _ _ _ _ o => (de_call o G_gap_in A_gap_in (by decide) (da_cons (de_var 1) (da_cons (de_var 3) (da_cons (de_var 4) da_nil))))))) da_nil))))) da_nil))))))
theorem ok_from_rows {f : Addr} {fd : FuncData} (F0 : L2.Fun K "from_rows" "from_rows" s_from_rows f fd) {f_letters_of : Addr} {fd_letters_of : FuncData} (G_letters_of : FnD P w K mg base 1 f_letters_of fd_letters_of ["face"] F_letters_of) (A_letters_of : At K mg "letters_of" f_letters_of fd_letters_of ["face"]) (m_zip : mg "zip" = none) (m_tuple : mg "tuple" = none) : FnD P w K mg base 2 f fd ["face", "rows"] F_from_rows :=
  dfn F0 sc_from_rows (fun _ _ _ _ _ _ o => (dss_cons (ds_set 2 o.nd (de_call o G_letters_of A_letters_of (by decide) (da_cons (de_var 0) da_nil))) (dss_cons (ds_set 3 o.nd (de_thw (dl_lst da_nil))) (dss_cons (ds_for (vs := [4, 5]) o (di_zip m_zip o.calm (de_var 2) (de_var 1)) (dg_tup o.calm (dgs_cons (dg_name 4 o.nd) (dgs_cons (dg_name 5 o.nd) dgs_nil))) (dss_one (ds_expr (de_extend (de_var 3) (dl_lc [("right", 6), ("gap", 7)] o (di_zip m_zip o.calm (de_var 2) (de_var 5)) (fun _ _ _ _ _ o => (dg_tup o.calm (dgs_cons (dg_name 6 o.nd) (dgs_cons (dg_name 7 o.nd) dgs_nil)))) (fun _ _ _ _ _ o => (dts_one (dt_cmp (do_ne o) (de_var 7) de_int))) (fun _ _ _ _ _ o => (de_tup (da_cons (de_var 4) (da_cons (de_var 6) (da_cons (de_var 7) da_nil)))))))))) (dss_one (ds_ret (de_callTy dc_tuple m_tuple PyProof.Rows.boot_tuple (da_cons (de_var 3) da_nil))))))))
theorem ok_is_sign {f : Addr} {fd : FuncData} (F0 : L2.Fun K "is_sign" "is_sign" s_is_sign f fd) {f_place_of : Addr} {fd_place_of : FuncData} (G_place_of : FnD P w K mg base 1 f_place_of fd_place_of ["face", "thing"] F_place_of) (A_place_of : At K mg "place_of" f_place_of fd_place_of ["face", "thing"]) : FnD P w K mg base 2 f fd ["face", "thing"] F_is_sign :=
  dfn F0 sc_is_sign (fun _ _ _ _ _ _ o => (dss_one (ds_ret (de_or (de_cmp (do_eq o) (de_var 1) de_str) (de_one (de_cmp do_isnot (de_call o G_place_of A_place_of (by decide) (da_cons (de_var 0) (da_cons (de_var 1) da_nil))) de_non))))))
theorem ok_is_text {f : Addr} {fd : FuncData} (F0 : L2.Fun K "is_text" "is_text" s_is_text f fd) {f_is_sign : Addr} {fd_is_sign : FuncData} (G_is_sign : FnD P w K mg base 2 f_is_sign fd_is_sign ["face", "thing"] F_is_sign) (A_is_sign : At K mg "is_sign" f_is_sign fd_is_sign ["face", "thing"]) (m_isinstance : mg "isinstance" = none) (m_str : mg "str" = none) (m_all : mg "all" = none) : FnD P w K mg base 3 f fd ["face", "thing"] F_is_text :=
  dfn F0 sc_is_text (fun _ _ _ _ _ _ o => (dss_one (ds_ret (de_and (de_isi (T := "str") m_isinstance m_str (de_var 1)) (de_one (de_callB (dc_all o) m_all rfl (da_cons (de_frz (dl_lc [("sign", 2)] o (di_txt (de_var 1)) (fun _ _ _ _ _ o => (dg_name 2 o.nd)) (fun _ _ _ _ _ o => dts_nil) (fun _ _ _ _ _ o => (de_call o G_is_sign A_is_sign (by decide) (da_cons (de_var 0) (da_cons (de_var 2) da_nil)))))) da_nil)))))))
theorem ok_need_text {f : Addr} {fd : FuncData} (F0 : L2.Fun K "need_text" "need_text" s_need_text f fd) {f_is_text : Addr} {fd_is_text : FuncData} (G_is_text : FnD P w K mg base 3 f_is_text fd_is_text ["face", "thing"] F_is_text) (A_is_text : At K mg "is_text" f_is_text fd_is_text ["face", "thing"]) {a_NoLine : Addr} (X_NoLine : ExcAt K mg "NoLine" a_NoLine) : FnD P w K mg base 4 f fd ["face", "thing"] F_need_text :=
  dfn F0 sc_need_text (fun _ _ _ _ _ _ o => (dss_one (ds_if (dt_not (dt_val (de_call o G_is_text A_is_text (by decide) (da_cons (de_var 0) (da_cons (de_var 1) da_nil))))) (dss_one (ds_raise o X_NoLine)) dss_nil)))
theorem ok_sign_width {f : Addr} {fd : FuncData} (F0 : L2.Fun K "sign_width" "sign_width" s_sign_width f fd) {f_place_of : Addr} {fd_place_of : FuncData} (G_place_of : FnD P w K mg base 1 f_place_of fd_place_of ["face", "thing"] F_place_of) (A_place_of : At K mg "place_of" f_place_of fd_place_of ["face", "thing"]) : FnD P w K mg base 2 f fd ["face", "sign"] F_sign_width :=
  dfn F0 sc_sign_width (fun _ _ _ _ _ _ o => (dss_cons (ds_if (dt_cmp (do_eq o) (de_var 1) de_str) (dss_one (ds_ret (de_item (de_var 0) de_int))) dss_nil) (dss_one (ds_ret (de_item (de_item (de_item (de_var 0) de_int) (de_call o G_place_of A_place_of (by decide) (da_cons (de_var 0) (da_cons (de_var 1) da_nil)))) de_int)))))
theorem ok_between {f : Addr} {fd : FuncData} (F0 : L2.Fun K "between" "between" s_between f fd) {f_gap_in : Addr} {fd_gap_in : FuncData} (G_gap_in : FnD P w K mg base 1 f_gap_in fd_gap_in ["pairs", "left", "right"] F_gap_in) (A_gap_in : At K mg "gap_in" f_gap_in fd_gap_in ["pairs", "left", "right"]) : FnD P w K mg base 2 f fd ["pairs", "one", "other"] F_between :=
  dfn F0 sc_between (fun _ _ _ _ _ _ o => (dss_cons (ds_if (dt_w (dw_or (dt_cmp (do_eq o) (de_var 1) de_str) (dw_or1 (dt_cmp (do_eq o) (de_var 2) de_str)))) (dss_one (ds_ret de_int)) dss_nil) (dss_one (ds_ret (de_call o G_gap_in A_gap_in (by decide) (da_cons (de_var 0) (da_cons (de_var 1) (da_cons (de_var 2) da_nil))))))))
theorem ok_begins_in {f : Addr} {fd : FuncData} (F0 : L2.Fun K "begins_in" "begins_in" s_begins_in f fd) {f_sign_width : Addr} {fd_sign_width : FuncData} (G_sign_width : FnD P w K mg base 2 f_sign_width fd_sign_width ["face", "sign"] F_sign_width) (A_sign_width : At K mg "sign_width" f_sign_width fd_sign_width ["face", "sign"]) {f_between : Addr} {fd_between : FuncData} (G_between : FnD P w K mg base 2 f_between fd_between ["pairs", "one", "other"] F_between) (A_between : At K mg "between" f_between fd_between ["pairs", "one", "other"]) (m_enumerate : mg "enumerate" = none) (m_tuple : mg "tuple" = none) : FnD P w K mg base 3 f fd ["face", "pairs", "text"] F_begins_in :=
  dfn F0 sc_begins_in (fun _ _ _ _ _ _ o => (dss_cons (ds_set 3 o.nd (de_thw (dl_lst da_nil))) (dss_cons (ds_set 4 o.nd de_int) (dss_cons (ds_for (vs := [5, 6]) o (di_enum m_enumerate (de_var 2)) (dg_tup o.calm (dgs_cons (dg_name 5 o.nd) (dgs_cons (dg_name 6 o.nd) dgs_nil))) (dss_cons (ds_if (dt_cmp do_gt (de_var 5) de_int) (dss_one (ds_set 4 o.nd (de_bin do_add (de_bin do_add (de_var 4) (de_call o G_sign_width A_sign_width (by decide) (da_cons (de_var 0) (da_cons (de_item (de_var 2) (de_bin do_sub (de_var 5) de_int)) da_nil)))) (de_call o G_between A_between (by decide) (da_cons (de_var 1) (da_cons (de_item (de_var 2) (de_bin do_sub (de_var 5) de_int)) (da_cons (de_var 6) da_nil))))))) dss_nil) (dss_one (ds_expr (de_methL PySem.F.slot_list_append PySem.F.type_list_append dm_append (de_var 3) (da_cons (de_var 4) da_nil)))))) (dss_one (ds_ret (de_callTy dc_tuple m_tuple PyProof.Rows.boot_tuple (da_cons (de_var 3) da_nil))))))))
theorem ok_begins {f : Addr} {fd : FuncData} (F0 : L2.Fun K "begins" "begins" s_begins f fd) {f_need_text : Addr} {fd_need_text : FuncData} (G_need_text : FnD P w K mg base 4 f_need_text fd_need_text ["face", "thing"] F_need_text) (A_need_text : At K mg "need_text" f_need_text fd_need_text ["face", "thing"]) {f_begins_in : Addr} {fd_begins_in : FuncData} (G_begins_in : FnD P w K mg base 3 f_begins_in fd_begins_in ["face", "pairs", "text"] F_begins_in) (A_begins_in : At K mg "begins_in" f_begins_in fd_begins_in ["face", "pairs", "text"]) : FnD P w K mg base 5 f fd ["face", "pairs", "text"] F_begins :=
  dfn F0 sc_begins (fun _ _ _ _ _ _ o => (dss_cons (ds_expr (de_call o G_need_text A_need_text (by decide) (da_cons (de_var 0) (da_cons (de_var 2) da_nil)))) (dss_one (ds_ret (de_call o G_begins_in A_begins_in (by decide) (da_cons (de_var 0) (da_cons (de_var 1) (da_cons (de_var 2) da_nil))))))))
theorem ok_wide_in {f : Addr} {fd : FuncData} (F0 : L2.Fun K "wide_in" "wide_in" s_wide_in f fd) {f_begins_in : Addr} {fd_begins_in : FuncData} (G_begins_in : FnD P w K mg base 3 f_begins_in fd_begins_in ["face", "pairs", "text"] F_begins_in) (A_begins_in : At K mg "begins_in" f_begins_in fd_begins_in ["face", "pairs", "text"]) {f_sign_width : Addr} {fd_sign_width : FuncData} (G_sign_width : FnD P w K mg base 2 f_sign_width fd_sign_width ["face", "sign"] F_sign_width) (A_sign_width : At K mg "sign_width" f_sign_width fd_sign_width ["face", "sign"]) : FnD P w K mg base 4 f fd ["face", "pairs", "text"] F_wide_in :=
  dfn F0 sc_wide_in (fun _ _ _ _ _ _ o => (dss_cons (ds_if (dt_cmp (do_eq o) (de_var 2) de_str) (dss_one (ds_ret de_int)) dss_nil) (dss_one (ds_ret (de_bin do_add (de_item (de_call o G_begins_in A_begins_in (by decide) (da_cons (de_var 0) (da_cons (de_var 1) (da_cons (de_var 2) da_nil)))) (de_un du_neg de_int)) (de_call o G_sign_width A_sign_width (by decide) (da_cons (de_var 0) (da_cons (de_item (de_var 2) (de_un du_neg de_int)) da_nil))))))))
theorem ok_wide {f : Addr} {fd : FuncData} (F0 : L2.Fun K "wide" "wide" s_wide f fd) {f_need_text : Addr} {fd_need_text : FuncData} (G_need_text : FnD P w K mg base 4 f_need_text fd_need_text ["face", "thing"] F_need_text) (A_need_text : At K mg "need_text" f_need_text fd_need_text ["face", "thing"]) {f_wide_in : Addr} {fd_wide_in : FuncData} (G_wide_in : FnD P w K mg base 4 f_wide_in fd_wide_in ["face", "pairs", "text"] F_wide_in) (A_wide_in : At K mg "wide_in" f_wide_in fd_wide_in ["face", "pairs", "text"]) : FnD P w K mg base 5 f fd ["face", "pairs", "text"] F_wide :=
  dfn F0 sc_wide (fun _ _ _ _ _ _ o => (dss_cons (ds_expr (de_call o G_need_text A_need_text (by decide) (da_cons (de_var 0) (da_cons (de_var 2) da_nil)))) (dss_one (ds_ret (de_call o G_wide_in A_wide_in (by decide) (da_cons (de_var 0) (da_cons (de_var 1) (da_cons (de_var 2) da_nil))))))))
theorem ok_need_whole {f : Addr} {fd : FuncData} (F0 : L2.Fun K "need_whole" "need_whole" s_need_whole f fd) (m_isinstance : mg "isinstance" = none) (m_int : mg "int" = none) (m_bool : mg "bool" = none) {a_NoNumber : Addr} (X_NoNumber : ExcAt K mg "NoNumber" a_NoNumber) : FnD P w K mg base 1 f fd ["thing"] F_need_whole :=
  dfn F0 sc_need_whole (fun _ _ _ _ _ _ o => (dss_one (ds_if (dt_w (dw_or (dt_not (dt_val (de_isi (T := "int") m_isinstance m_int (de_var 0)))) (dw_or1 (dt_val (de_isi (T := "bool") m_isinstance m_bool (de_var 0)))))) (dss_one (ds_raise o X_NoNumber)) dss_nil)))
theorem ok_sign_at {f : Addr} {fd : FuncData} (F0 : L2.Fun K "sign_at" "sign_at" s_sign_at f fd) {f_need_text : Addr} {fd_need_text : FuncData} (G_need_text : FnD P w K mg base 4 f_need_text fd_need_text ["face", "thing"] F_need_text) (A_need_text : At K mg "need_text" f_need_text fd_need_text ["face", "thing"]) {f_need_whole : Addr} {fd_need_whole : FuncData} (G_need_whole : FnD P w K mg base 1 f_need_whole fd_need_whole ["thing"] F_need_whole) (A_need_whole : At K mg "need_whole" f_need_whole fd_need_whole ["thing"]) {f_begins_in : Addr} {fd_begins_in : FuncData} (G_begins_in : FnD P w K mg base 3 f_begins_in fd_begins_in ["face", "pairs", "text"] F_begins_in) (A_begins_in : At K mg "begins_in" f_begins_in fd_begins_in ["face", "pairs", "text"]) {f_sign_width : Addr} {fd_sign_width : FuncData} (G_sign_width : FnD P w K mg base 2 f_sign_width fd_sign_width ["face", "sign"] F_sign_width) (A_sign_width : At K mg "sign_width" f_sign_width fd_sign_width ["face", "sign"]) (m_enumerate : mg "enumerate" = none) : FnD P w K mg base 5 f fd ["face", "pairs", "text", "number"] F_sign_at :=
  dfn F0 sc_sign_at (fun _ _ _ _ _ _ o => (dss_cons (ds_expr (de_call o G_need_text A_need_text (by decide) (da_cons (de_var 0) (da_cons (de_var 2) da_nil)))) (dss_cons (ds_expr (de_call o G_need_whole A_need_whole (by decide) (da_cons (de_var 3) da_nil))) (dss_cons (ds_for (vs := [4, 5]) o (di_enum m_enumerate (de_call o G_begins_in A_begins_in (by decide) (da_cons (de_var 0) (da_cons (de_var 1) (da_cons (de_var 2) da_nil))))) (dg_tup o.calm (dgs_cons (dg_name 4 o.nd) (dgs_cons (dg_name 5 o.nd) dgs_nil))) (dss_one (ds_if (dt_chain do_le (do_ltX o) (de_var 5) (de_var 3) (de_bin do_add (de_var 5) (de_call o G_sign_width A_sign_width (by decide) (da_cons (de_var 0) (da_cons (de_item (de_var 2) (de_var 4)) da_nil))))) (dss_one (ds_ret (de_var 4))) dss_nil))) (dss_one (ds_ret de_non))))))
theorem ok_need_fresh {f : Addr} {fd : FuncData} (F0 : L2.Fun K "need_fresh" "need_fresh" s_need_fresh f fd) {f_is_letter : Addr} {fd_is_letter : FuncData} (G_is_letter : FnD P w K mg base 1 f_is_letter fd_is_letter ["thing"] F_is_letter) (A_is_letter : At K mg "is_letter" f_is_letter fd_is_letter ["thing"]) {f_place_of : Addr} {fd_place_of : FuncData} (G_place_of : FnD P w K mg base 1 f_place_of fd_place_of ["face", "thing"] F_place_of) (A_place_of : At K mg "place_of" f_place_of fd_place_of ["face", "thing"]) {a_NoLetter : Addr} (X_NoLetter : ExcAt K mg "NoLetter" a_NoLetter) : FnD P w K mg base 2 f fd ["face", "letter"] F_need_fresh :=
  dfn F0 sc_need_fresh (fun _ _ _ _ _ _ o => (dss_one (ds_if (dt_w (dw_or (dt_not (dt_val (de_call o G_is_letter A_is_letter (by decide) (da_cons (de_var 1) da_nil)))) (dw_or1 (dt_cmp do_isnot (de_call o G_place_of A_place_of (by decide) (da_cons (de_var 0) (da_cons (de_var 1) da_nil))) de_non)))) (dss_one (ds_raise o X_NoLetter)) dss_nil)))
theorem ok_need_room {f : Addr} {fd : FuncData} (F0 : L2.Fun K "need_room" "need_room" s_need_room f fd) (m_len : mg "len" = none) {t_MOST_LETTERS : Tok} (c_MOST_LETTERS : mg "MOST_LETTERS" = some (.int 10 t_MOST_LETTERS)) {a_TooMany : Addr} (X_TooMany : ExcAt K mg "TooMany" a_TooMany) : FnD P w K mg base 1 f fd ["face"] F_need_room :=
  dfn F0 sc_need_room (fun _ _ _ _ _ _ o => (dss_one (ds_if (dt_cmp do_ge (de_callB dc_len m_len boot_len (da_cons (de_item (de_var 0) de_int) da_nil)) (de_gint c_MOST_LETTERS)) (dss_one (ds_raise o X_TooMany)) dss_nil)))
theorem ok_with_like {f : Addr} {fd : FuncData} (F0 : L2.Fun K "with_like" "with_like" s_with_like f fd) {f_need_fresh : Addr} {fd_need_fresh : FuncData} (G_need_fresh : FnD P w K mg base 2 f_need_fresh fd_need_fresh ["face", "letter"] F_need_fresh) (A_need_fresh : At K mg "need_fresh" f_need_fresh fd_need_fresh ["face", "letter"]) {f_need_letter : Addr} {fd_need_letter : FuncData} (G_need_letter : FnD P w K mg base 2 f_need_letter fd_need_letter ["face", "thing"] F_need_letter) (A_need_letter : At K mg "need_letter" f_need_letter fd_need_letter ["face", "thing"]) {f_need_room : Addr} {fd_need_room : FuncData} (G_need_room : FnD P w K mg base 1 f_need_room fd_need_room ["face"] F_need_room) (A_need_room : At K mg "need_room" f_need_room fd_need_room ["face"]) {f_letters_of : Addr} {fd_letters_of : FuncData} (G_letters_of : FnD P w K mg base 1 f_letters_of fd_letters_of ["face"] F_letters_of) (A_letters_of : At K mg "letters_of" f_letters_of fd_letters_of ["face"]) {f_gap_in : Addr} {fd_gap_in : FuncData} (G_gap_in : FnD P w K mg base 1 f_gap_in fd_gap_in ["pairs", "left", "right"] F_gap_in) (A_gap_in : At K mg "gap_in" f_gap_in fd_gap_in ["pairs", "left", "right"]) {f_from_rows : Addr} {fd_from_rows : FuncData} (G_from_rows : FnD P w K mg base 2 f_from_rows fd_from_rows ["face", "rows"] F_from_rows) (A_from_rows : At K mg "from_rows" f_from_rows fd_from_rows ["face", "rows"]) : FnD P w K mg base 3 f fd ["face", "pairs", "letter", "other"] F_with_like :=
  dfn F0 sc_with_like (fun _ _ _ _ _ _ o => (dss_cons (ds_expr (de_call o G_need_fresh A_need_fresh (by decide) (da_cons (de_var 0) (da_cons (de_var 2) da_nil)))) (dss_cons (ds_set 4 o.nd (de_call o G_need_letter A_need_letter (by decide) (da_cons (de_var 0) (da_cons (de_var 3) da_nil)))) (dss_cons (ds_expr (de_call o G_need_room A_need_room (by decide) (da_cons (de_var 0) da_nil))) (dss_cons (ds_set 5 o.nd (de_tup (da_cons (de_item (de_var 0) de_int) (da_cons (de_bin do_add (de_item (de_var 0) de_int) (de_tup (da_cons (de_tup (da_cons (de_var 2) (da_cons (de_item (de_item (de_item (de_var 0) de_int) (de_var 4)) de_int) da_nil))) da_nil))) da_nil)))) (dss_cons (ds_set 6 o.nd (de_frz (dl_lc [("one", 8)] o (di_seq (de_call o G_letters_of A_letters_of (by decide) (da_cons (de_var 5) da_nil))) (fun _ _ _ _ _ o => (dg_name 8 o.nd)) (fun _ _ _ _ _ o => dts_nil) (fun _ _ _ _ _ o => (de_ife (dt_cmp (do_eq o) (de_var 8) (de_var 2)) (de_var 3) (de_var 8)))))) (dss_cons (ds_setLcF 7 [("left", 9)] o (di_seq (de_var 6)) (fun _ _ _ _ _ o => (dg_name 9 o.nd)) (fun _ _ _ _ _ o => dts_nil) (fun _ _ _ _ _ o => (de_frz (dl_lc [("right", 10)] o (di_seq (de_var 6)) (fun _ _ _ _ _ o => (dg_name 10 o.nd)) (fun _ _ _ _ _ o => dts_nil) (fun _ _ _ _ _ o => (de_call o G_gap_in A_gap_in (by decide) (da_cons (de_var 1) (da_cons (de_var 9) (da_cons (de_var 10) da_nil))))))))) (dss_one (ds_ret (de_tup (da_cons (de_var 5) (da_cons (de_call o G_from_rows A_from_rows (by decide) (da_cons (de_var 5) (da_cons (de_var 7) da_nil))) da_nil))))))))))))
theorem ok_with_gap {f : Addr} {fd : FuncData} (F0 : L2.Fun K "with_gap" "with_gap" s_with_gap f fd) {f_need_letter : Addr} {fd_need_letter : FuncData} (G_need_letter : FnD P w K mg base 2 f_need_letter fd_need_letter ["face", "thing"] F_need_letter) (A_need_letter : At K mg "need_letter" f_need_letter fd_need_letter ["face", "thing"]) {f_is_gap : Addr} {fd_is_gap : FuncData} (G_is_gap : FnD P w K mg base 2 f_is_gap fd_is_gap ["thing"] F_is_gap) (A_is_gap : At K mg "is_gap" f_is_gap fd_is_gap ["thing"]) {f_letters_of : Addr} {fd_letters_of : FuncData} (G_letters_of : FnD P w K mg base 1 f_letters_of fd_letters_of ["face"] F_letters_of) (A_letters_of : At K mg "letters_of" f_letters_of fd_letters_of ["face"]) {f_gap_in : Addr} {fd_gap_in : FuncData} (G_gap_in : FnD P w K mg base 1 f_gap_in fd_gap_in ["pairs", "left", "right"] F_gap_in) (A_gap_in : At K mg "gap_in" f_gap_in fd_gap_in ["pairs", "left", "right"]) {f_from_rows : Addr} {fd_from_rows : FuncData} (G_from_rows : FnD P w K mg base 2 f_from_rows fd_from_rows ["face", "rows"] F_from_rows) (A_from_rows : At K mg "from_rows" f_from_rows fd_from_rows ["face", "rows"]) {a_NoGap : Addr} (X_NoGap : ExcAt K mg "NoGap" a_NoGap) : FnD P w K mg base 3 f fd ["face", "pairs", "left", "right", "gap"] F_with_gap :=
  dfn F0 sc_with_gap (fun _ _ _ _ _ _ o => (dss_cons (ds_expr (de_call o G_need_letter A_need_letter (by decide) (da_cons (de_var 0) (da_cons (de_var 2) da_nil)))) (dss_cons (ds_expr (de_call o G_need_letter A_need_letter (by decide) (da_cons (de_var 0) (da_cons (de_var 3) da_nil)))) (dss_cons (ds_if (dt_not (dt_val (de_call o G_is_gap A_is_gap (by decide) (da_cons (de_var 4) da_nil)))) (dss_one (ds_raise o X_NoGap)) dss_nil) (dss_cons (ds_set 5 o.nd (de_call o G_letters_of A_letters_of (by decide) (da_cons (de_var 0) da_nil))) (dss_cons (ds_setLcM 6 [("one", 7)] o (di_seq (de_var 5)) (fun _ _ _ _ _ o => (dg_name 7 o.nd)) (fun _ _ _ _ _ o => dts_nil) (fun _ _ _ _ _ o => (de_thw (dl_lc [("other", 8)] o (di_seq (de_var 5)) (fun _ _ _ _ _ o => (dg_name 8 o.nd)) (fun _ _ _ _ _ o => dts_nil) (fun _ _ _ _ _ o => (de_call o G_gap_in A_gap_in (by decide) (da_cons (de_var 1) (da_cons (de_var 7) (da_cons (de_var 8) da_nil))))))))) (dss_cons (ds_asg (vs := []) (de_var 4) (dg_ix (de_item (de_var 6) (de_indexT (de_var 5) (da_cons (de_var 2) da_nil))) (de_indexT (de_var 5) (da_cons (de_var 3) da_nil)))) (dss_fix2 6 (dss_one (ds_ret (de_call o G_from_rows A_from_rows (by decide) (da_cons (de_var 0) (da_cons (de_var 6) da_nil)))))))))))))
theorem ok_is_moved {f : Addr} {fd : FuncData} (F0 : L2.Fun K "is_moved" "is_moved" s_is_moved f fd) {f_between : Addr} {fd_between : FuncData} (G_between : FnD P w K mg base 2 f_between fd_between ["pairs", "one", "other"] F_between) (A_between : At K mg "between" f_between fd_between ["pairs", "one", "other"]) (m_zip : mg "zip" = none) (m_any : mg "any" = none) : FnD P w K mg base 3 f fd ["pairs", "other", "text"] F_is_moved :=
  dfn F0 sc_is_moved (fun _ _ _ _ _ _ o => (dss_one (ds_ret (de_callB (dc_any o) m_any rfl (da_cons (de_frz (dl_lc [("one", 3), ("sign", 4)] o (di_zip m_zip o.calm (de_var 2) (de_slice (de_var 2) (dp_some de_int) dp_none)) (fun _ _ _ _ _ o => (dg_tup o.calm (dgs_cons (dg_name 3 o.nd) (dgs_cons (dg_name 4 o.nd) dgs_nil)))) (fun _ _ _ _ _ o => dts_nil) (fun _ _ _ _ _ o => (de_cmp (do_ne o) (de_call o G_between A_between (by decide) (da_cons (de_var 0) (da_cons (de_var 3) (da_cons (de_var 4) da_nil)))) (de_call o G_between A_between (by decide) (da_cons (de_var 1) (da_cons (de_var 3) (da_cons (de_var 4) da_nil)))))))) da_nil)))))
theorem ok_moved_lines {f : Addr} {fd : FuncData} (F0 : L2.Fun K "moved_lines" "moved_lines" s_moved_lines f fd) {f_need_text : Addr} {fd_need_text : FuncData} (G_need_text : FnD P w K mg base 4 f_need_text fd_need_text ["face", "thing"] F_need_text) (A_need_text : At K mg "need_text" f_need_text fd_need_text ["face", "thing"]) {f_is_moved : Addr} {fd_is_moved : FuncData} (G_is_moved : FnD P w K mg base 3 f_is_moved fd_is_moved ["pairs", "other", "text"] F_is_moved) (A_is_moved : At K mg "is_moved" f_is_moved fd_is_moved ["pairs", "other", "text"]) (m_isinstance : mg "isinstance" = none) (m_tuple : mg "tuple" = none) (m_enumerate : mg "enumerate" = none) {a_NoLine : Addr} (X_NoLine : ExcAt K mg "NoLine" a_NoLine) : FnD P w K mg base 5 f fd ["face", "pairs", "other", "texts"] F_moved_lines :=
  dfn F0 sc_moved_lines (fun _ _ _ _ _ _ o => (dss_cons (ds_if (dt_not (dt_val (de_isi (T := "tuple") m_isinstance m_tuple (de_var 3)))) (dss_one (ds_raise o X_NoLine)) dss_nil) (dss_cons (ds_for (vs := [4]) o (di_seq (de_var 3)) (dg_name 4 o.nd) (dss_one (ds_expr (de_call o G_need_text A_need_text (by decide) (da_cons (de_var 0) (da_cons (de_var 4) da_nil)))))) (dss_one (ds_ret (de_callTy dc_tuple m_tuple PyProof.Rows.boot_tuple (da_cons (de_frz (dl_lc [("number", 5), ("text", 4)] o (di_enum m_enumerate (de_var 3)) (fun _ _ _ _ _ o => (dg_tup o.calm (dgs_cons (dg_name 5 o.nd) (dgs_cons (dg_name 4 o.nd) dgs_nil)))) (fun _ _ _ _ _ o => (dts_one (dt_val (de_call o G_is_moved A_is_moved (by decide) (da_cons (de_var 1) (da_cons (de_var 2) (da_cons (de_var 4) da_nil))))))) (fun _ _ _ _ _ o => (de_var 5)))) da_nil)))))))
theorem ok_words_of {f : Addr} {fd : FuncData} (F0 : L2.Fun K "words_of" "words_of" s_words_of f fd) {f_need_text : Addr} {fd_need_text : FuncData} (G_need_text : FnD P w K mg base 4 f_need_text fd_need_text ["face", "thing"] F_need_text) (A_need_text : At K mg "need_text" f_need_text fd_need_text ["face", "thing"]) {a_NoLine : Addr} (X_NoLine : ExcAt K mg "NoLine" a_NoLine) : FnD P w K mg base 5 f fd ["face", "text"] F_words_of :=
  dfn F0 sc_words_of (fun _ _ _ _ _ _ o => (dss_cons (ds_expr (de_call o G_need_text A_need_text (by decide) (da_cons (de_var 0) (da_cons (de_var 1) da_nil)))) (dss_cons (ds_if (dt_cmp (do_eq o) (de_var 1) de_str) (dss_one (ds_ret (de_frz (dl_lst da_nil)))) dss_nil) (dss_cons (ds_set 2 o.nd (de_frz (dl_methS PySem.F.slot_str_split PySem.F.type_str_split dml_split (de_var 1) (da_cons de_str da_nil)))) (dss_cons (ds_if (dt_cmp (do_in o) de_str (de_var 2)) (dss_one (ds_raise o X_NoLine)) dss_nil) (dss_one (ds_ret (de_var 2))))))))
theorem ok_line_of {f : Addr} {fd : FuncData} (F0 : L2.Fun K "line_of" "line_of" s_line_of f fd) : FnD P w K mg base 1 f fd ["words", "first", "behind"] F_line_of :=
  dfn F0 sc_line_of (fun _ _ _ _ _ _ o => (dss_one (ds_ret (de_methS PySem.F.slot_str_join PySem.F.type_str_join dm_join de_str (da_cons (de_frz (dl_slice (de_var 0) (dp_some (de_var 1)) (dp_some (de_var 2)))) da_nil)))))
theorem ok_room_of {f : Addr} {fd : FuncData} (F0 : L2.Fun K "room_of" "room_of" s_room_of f fd) {f_wide_in : Addr} {fd_wide_in : FuncData} (G_wide_in : FnD P w K mg base 4 f_wide_in fd_wide_in ["face", "pairs", "text"] F_wide_in) (A_wide_in : At K mg "wide_in" f_wide_in fd_wide_in ["face", "pairs", "text"]) : FnD P w K mg base 5 f fd ["face", "pairs", "line", "number"] F_room_of :=
  dfn F0 sc_room_of (fun _ _ _ _ _ _ o => (dss_one (ds_ret (de_bin do_sub (de_var 3) (de_call o G_wide_in A_wide_in (by decide) (da_cons (de_var 0) (da_cons (de_var 1) (da_cons (de_var 2) da_nil))))))))
theorem ok_need_wide {f : Addr} {fd : FuncData} (F0 : L2.Fun K "need_wide" "need_wide" s_need_wide f fd) {f_is_from_to : Addr} {fd_is_from_to : FuncData} (G_is_from_to : FnD P w K mg base 1 f_is_from_to fd_is_from_to ["thing", "least", "most"] F_is_from_to) (A_is_from_to : At K mg "is_from_to" f_is_from_to fd_is_from_to ["thing", "least", "most"]) {t_MOST_WIDE : Tok} (c_MOST_WIDE : mg "MOST_WIDE" = some (.int 999 t_MOST_WIDE)) {a_NoNumber : Addr} (X_NoNumber : ExcAt K mg "NoNumber" a_NoNumber) : FnD P w K mg base 2 f fd ["number"] F_need_wide :=
  dfn F0 sc_need_wide (fun _ _ _ _ _ _ o => (dss_one (ds_if (dt_not (dt_val (de_call o G_is_from_to A_is_from_to (by decide) (da_cons (de_var 0) (da_cons de_int (da_cons (de_gint c_MOST_WIDE) da_nil)))))) (dss_one (ds_raise o X_NoNumber)) dss_nil)))
theorem ok_need_words {f : Addr} {fd : FuncData} (F0 : L2.Fun K "need_words" "need_words" s_need_words f fd) {f_words_of : Addr} {fd_words_of : FuncData} (G_words_of : FnD P w K mg base 5 f_words_of fd_words_of ["face", "text"] F_words_of) (A_words_of : At K mg "words_of" f_words_of fd_words_of ["face", "text"]) {f_need_wide : Addr} {fd_need_wide : FuncData} (G_need_wide : FnD P w K mg base 2 f_need_wide fd_need_wide ["number"] F_need_wide) (A_need_wide : At K mg "need_wide" f_need_wide fd_need_wide ["number"]) {f_room_of : Addr} {fd_room_of : FuncData} (G_room_of : FnD P w K mg base 5 f_room_of fd_room_of ["face", "pairs", "line", "number"] F_room_of) (A_room_of : At K mg "room_of" f_room_of fd_room_of ["face", "pairs", "line", "number"]) {a_TooWide : Addr} (X_TooWide : ExcAt K mg "TooWide" a_TooWide) : FnD P w K mg base 6 f fd ["face", "pairs", "text", "number"] F_need_words :=
  dfn F0 sc_need_words (fun _ _ _ _ _ _ o => (dss_cons (ds_set 4 o.nd (de_call o G_words_of A_words_of (by decide) (da_cons (de_var 0) (da_cons (de_var 2) da_nil)))) (dss_cons (ds_expr (de_call o G_need_wide A_need_wide (by decide) (da_cons (de_var 3) da_nil))) (dss_cons (ds_for (vs := [5]) o (di_seq (de_var 4)) (dg_name 5 o.nd) (dss_one (ds_if (dt_cmp (do_ltX o) (de_call o G_room_of A_room_of (by decide) (da_cons (de_var 0) (da_cons (de_var 1) (da_cons (de_var 5) (da_cons (de_var 3) da_nil))))) de_int) (dss_one (ds_raise o X_TooWide)) dss_nil))) (dss_one (ds_ret (de_var 4)))))))
theorem ok_filled {f : Addr} {fd : FuncData} (F0 : L2.Fun K "filled" "filled" s_filled f fd) {f_need_words : Addr} {fd_need_words : FuncData} (G_need_words : FnD P w K mg base 6 f_need_words fd_need_words ["face", "pairs", "text", "number"] F_need_words) (A_need_words : At K mg "need_words" f_need_words fd_need_words ["face", "pairs", "text", "number"]) {f_room_of : Addr} {fd_room_of : FuncData} (G_room_of : FnD P w K mg base 5 f_room_of fd_room_of ["face", "pairs", "line", "number"] F_room_of) (A_room_of : At K mg "room_of" f_room_of fd_room_of ["face", "pairs", "line", "number"]) (m_tuple : mg "tuple" = none) : FnD P w K mg base 7 f fd ["face", "pairs", "text", "number"] F_filled :=
  dfn F0 sc_filled (fun _ _ _ _ _ _ o => (dss_cons (ds_set 4 o.nd (de_call o G_need_words A_need_words (by decide) (da_cons (de_var 0) (da_cons (de_var 1) (da_cons (de_var 2) (da_cons (de_var 3) da_nil)))))) (dss_cons (ds_set 5 o.nd (de_thw (dl_lst da_nil))) (dss_cons (ds_for (vs := [6]) o (di_seq (de_var 4)) (dg_name 6 o.nd) (dss_one (ds_if (dt_w (dw_and (dt_cmp (do_neO o) (de_var 5) (de_frz (dl_lst da_nil))) (dw_and1 (dt_cmp do_ge (de_call o G_room_of A_room_of (by decide) (da_cons (de_var 0) (da_cons (de_var 1) (da_cons (de_bin do_add (de_bin do_add (de_item (de_var 5) (de_un du_neg de_int)) de_str) (de_var 6)) (da_cons (de_var 3) da_nil))))) de_int)))) (dss_one (ds_asg (vs := []) (de_bin do_add (de_bin do_add (de_item (de_var 5) (de_un du_neg de_int)) de_str) (de_var 6)) (dg_ix (de_var 5) (de_un du_neg de_int)))) (dss_one (ds_expr (de_methL PySem.F.slot_list_append PySem.F.type_list_append dm_append (de_var 5) (da_cons (de_var 6) da_nil))))))) (dss_one (ds_ret (de_callTy dc_tuple m_tuple PyProof.Rows.boot_tuple (da_cons (de_var 5) da_nil))))))))
theorem ok_cost_in {f : Addr} {fd : FuncData} (F0 : L2.Fun K "cost_in" "cost_in" s_cost_in f fd) {f_room_of : Addr} {fd_room_of : FuncData} (G_room_of : FnD P w K mg base 5 f_room_of fd_room_of ["face", "pairs", "line", "number"] F_room_of) (A_room_of : At K mg "room_of" f_room_of fd_room_of ["face", "pairs", "line", "number"]) {f_line_of : Addr} {fd_line_of : FuncData} (G_line_of : FnD P w K mg base 1 f_line_of fd_line_of ["words", "first", "behind"] F_line_of) (A_line_of : At K mg "line_of" f_line_of fd_line_of ["words", "first", "behind"]) (m_len : mg "len" = none) : FnD P w K mg base 6 f fd ["face", "pairs", "words", "ends", "number"] F_cost_in :=
  dfn F0 sc_cost_in (fun _ _ _ _ _ _ o => (dss_cons (ds_set 5 o.nd (de_call o G_room_of A_room_of (by decide) (da_cons (de_var 0) (da_cons (de_var 1) (da_cons (de_call o G_line_of A_line_of (by decide) (da_cons (de_var 2) (da_cons (de_item (de_var 3) de_int) (da_cons (de_item (de_var 3) de_int) da_nil)))) (da_cons (de_var 4) da_nil)))))) (dss_cons (ds_if (dt_cmp (do_ltX o) (de_var 5) de_int) (dss_one (ds_ret de_non)) dss_nil) (dss_cons (ds_if (dt_cmp (do_eq o) (de_item (de_var 3) de_int) (de_callB dc_len m_len boot_len (da_cons (de_var 2) da_nil))) (dss_one (ds_ret de_int)) dss_nil) (dss_one (ds_ret (de_bin do_mul (de_var 5) (de_var 5))))))))
theorem ok_prices_of {f : Addr} {fd : FuncData} (F0 : L2.Fun K "prices_of" "prices_of" s_prices_of f fd) {f_cost_in : Addr} {fd_cost_in : FuncData} (G_cost_in : FnD P w K mg base 6 f_cost_in fd_cost_in ["face", "pairs", "words", "ends", "number"] F_cost_in) (A_cost_in : At K mg "cost_in" f_cost_in fd_cost_in ["face", "pairs", "words", "ends", "number"]) (m_range : mg "range" = none) (m_reversed : mg "reversed" = none) (m_len : mg "len" = none) : FnD P w K mg base 7 f fd ["face", "pairs", "words", "number"] F_prices_of :=
  dfn F0 sc_prices_of (fun _ _ _ _ _ _ o => (dss_cons (ds_set 4 o.nd (de_thw (dl_lst (da_cons de_int da_nil)))) (dss_cons (ds_for (vs := [5]) o (di_rrng1 m_range m_reversed (de_callB dc_len m_len boot_len (da_cons (de_var 2) da_nil))) (dg_name 5 o.nd) (dss_cons (ds_set 6 o.nd de_non) (dss_cons (ds_for (vs := [7]) o (di_rng2 m_range (de_bin do_add (de_var 5) de_int) (de_bin do_add (de_callB dc_len m_len boot_len (da_cons (de_var 2) da_nil)) de_int)) (dg_name 7 o.nd) (dss_cons (ds_set 8 o.nd (de_call o G_cost_in A_cost_in (by decide) (da_cons (de_var 0) (da_cons (de_var 1) (da_cons (de_var 2) (da_cons (de_tup (da_cons (de_var 5) (da_cons (de_var 7) da_nil))) (da_cons (de_var 3) da_nil))))))) (dss_one (ds_if (dt_w (dw_and (dt_cmp do_isnot (de_var 8) de_non) (dw_and1 (dt_w (dw_or (dt_cmp do_is (de_var 6) de_non) (dw_or1 (dt_cmp (do_ltX o) (de_bin do_add (de_var 8) (de_item (de_var 4) (de_bin do_sub (de_bin do_sub (de_var 7) (de_var 5)) de_int))) (de_var 6)))))))) (dss_one (ds_set 6 o.nd (de_bin do_add (de_var 8) (de_item (de_var 4) (de_bin do_sub (de_bin do_sub (de_var 7) (de_var 5)) de_int))))) dss_nil)))) (dss_one (ds_expr (de_methL PySem.F.slot_list_insert PySem.F.type_list_insert dm_insert (de_var 4) (da_cons de_int (da_cons (de_var 6) da_nil)))))))) (dss_fix 4 (dss_one (ds_ret (de_var 4)))))))
theorem ok_evened {f : Addr} {fd : FuncData} (F0 : L2.Fun K "evened" "evened" s_evened f fd) {f_need_words : Addr} {fd_need_words : FuncData} (G_need_words : FnD P w K mg base 6 f_need_words fd_need_words ["face", "pairs", "text", "number"] F_need_words) (A_need_words : At K mg "need_words" f_need_words fd_need_words ["face", "pairs", "text", "number"]) {f_prices_of : Addr} {fd_prices_of : FuncData} (G_prices_of : FnD P w K mg base 7 f_prices_of fd_prices_of ["face", "pairs", "words", "number"] F_prices_of) (A_prices_of : At K mg "prices_of" f_prices_of fd_prices_of ["face", "pairs", "words", "number"]) {f_cost_in : Addr} {fd_cost_in : FuncData} (G_cost_in : FnD P w K mg base 6 f_cost_in fd_cost_in ["face", "pairs", "words", "ends", "number"] F_cost_in) (A_cost_in : At K mg "cost_in" f_cost_in fd_cost_in ["face", "pairs", "words", "ends", "number"]) {f_line_of : Addr} {fd_line_of : FuncData} (G_line_of : FnD P w K mg base 1 f_line_of fd_line_of ["words", "first", "behind"] F_line_of) (A_line_of : At K mg "line_of" f_line_of fd_line_of ["words", "first", "behind"]) (m_len : mg "len" = none) (m_range : mg "range" = none) (m_reversed : mg "reversed" = none) (m_tuple : mg "tuple" = none) : FnD P w K mg base 8 f fd ["face", "pairs", "text", "number"] F_evened :=
  dfn F0 sc_evened (fun _ _ _ _ _ _ o => (dss_cons (ds_set 4 o.nd (de_call o G_need_words A_need_words (by decide) (da_cons (de_var 0) (da_cons (de_var 1) (da_cons (de_var 2) (da_cons (de_var 3) da_nil)))))) (dss_cons (ds_set 5 o.nd (de_call o G_prices_of A_prices_of (by decide) (da_cons (de_var 0) (da_cons (de_var 1) (da_cons (de_var 4) (da_cons (de_var 3) da_nil)))))) (dss_cons (ds_set 6 o.nd (de_thw (dl_lst da_nil))) (dss_cons (ds_set 7 o.nd de_int) (dss_cons (ds_while o (dt_cmp (do_ltX o) (de_var 7) (de_callB dc_len m_len boot_len (da_cons (de_var 4) da_nil))) (dss_cons (ds_for (vs := [8]) o (di_rrng2 m_range m_reversed (de_bin do_add (de_var 7) de_int) (de_bin do_add (de_callB dc_len m_len boot_len (da_cons (de_var 4) da_nil)) de_int)) (dg_name 8 o.nd) (dss_cons (ds_set 9 o.nd (de_call o G_cost_in A_cost_in (by decide) (da_cons (de_var 0) (da_cons (de_var 1) (da_cons (de_var 4) (da_cons (de_tup (da_cons (de_var 7) (da_cons (de_var 8) da_nil))) (da_cons (de_var 3) da_nil))))))) (dss_one (ds_if (dt_w (dw_and (dt_cmp do_isnot (de_var 9) de_non) (dw_and1 (dt_cmp (do_eq o) (de_bin do_add (de_var 9) (de_item (de_var 5) (de_var 8))) (de_item (de_var 5) (de_var 7)))))) (dss_one ds_brk) dss_nil)))) (dss_cons (ds_expr (de_methL PySem.F.slot_list_append PySem.F.type_list_append dm_append (de_var 6) (da_cons (de_call o G_line_of A_line_of (by decide) (da_cons (de_var 4) (da_cons (de_var 7) (da_cons (de_var 8) da_nil)))) da_nil))) (dss_one (ds_set 7 o.nd (de_var 8)))))) (dss_one (ds_ret (de_callTy dc_tuple m_tuple PyProof.Rows.boot_tuple (da_cons (de_var 6) da_nil))))))))))
theorem ok_shows_even {f : Addr} {fd : FuncData} (F0 : L2.Fun K "shows_even" "shows_even" s_shows_even f fd) {f_prices_of : Addr} {fd_prices_of : FuncData} (G_prices_of : FnD P w K mg base 7 f_prices_of fd_prices_of ["face", "pairs", "words", "number"] F_prices_of) (A_prices_of : At K mg "prices_of" f_prices_of fd_prices_of ["face", "pairs", "words", "number"]) {f_need_words : Addr} {fd_need_words : FuncData} (G_need_words : FnD P w K mg base 6 f_need_words fd_need_words ["face", "pairs", "text", "number"] F_need_words) (A_need_words : At K mg "need_words" f_need_words fd_need_words ["face", "pairs", "text", "number"]) (m_tuple : mg "tuple" = none) : FnD P w K mg base 8 f fd ["face", "pairs", "text", "number"] F_shows_even :=
  dfn F0 sc_shows_even (fun _ _ _ _ _ _ o => (dss_one (ds_ret (de_callTy dc_tuple m_tuple PyProof.Rows.boot_tuple (da_cons (de_call o G_prices_of A_prices_of (by decide) (da_cons (de_var 0) (da_cons (de_var 1) (da_cons (de_call o G_need_words A_need_words (by decide) (da_cons (de_var 0) (da_cons (de_var 1) (da_cons (de_var 2) (da_cons (de_var 3) da_nil))))) (da_cons (de_var 3) da_nil))))) da_nil)))))
theorem ok_spread {f : Addr} {fd : FuncData} (F0 : L2.Fun K "spread" "spread" s_spread f fd) {f_words_of : Addr} {fd_words_of : FuncData} (G_words_of : FnD P w K mg base 5 f_words_of fd_words_of ["face", "text"] F_words_of) (A_words_of : At K mg "words_of" f_words_of fd_words_of ["face", "text"]) {f_need_wide : Addr} {fd_need_wide : FuncData} (G_need_wide : FnD P w K mg base 2 f_need_wide fd_need_wide ["number"] F_need_wide) (A_need_wide : At K mg "need_wide" f_need_wide fd_need_wide ["number"]) {f_room_of : Addr} {fd_room_of : FuncData} (G_room_of : FnD P w K mg base 5 f_room_of fd_room_of ["face", "pairs", "line", "number"] F_room_of) (A_room_of : At K mg "room_of" f_room_of fd_room_of ["face", "pairs", "line", "number"]) (m_len : mg "len" = none) (m_divmod : mg "divmod" = none) (m_range : mg "range" = none) (m_int : mg "int" = none) (m_tuple : mg "tuple" = none) {a_NoLine : Addr} (X_NoLine : ExcAt K mg "NoLine" a_NoLine) {a_TooWide : Addr} (X_TooWide : ExcAt K mg "TooWide" a_TooWide) : FnD P w K mg base 6 f fd ["face", "pairs", "text", "number"] F_spread :=
  dfn F0 sc_spread (fun _ _ _ _ _ _ o => (dss_cons (ds_set 4 o.nd (de_call o G_words_of A_words_of (by decide) (da_cons (de_var 0) (da_cons (de_var 2) da_nil)))) (dss_cons (ds_if (dt_cmp (do_ltX o) (de_callB dc_len m_len boot_len (da_cons (de_var 4) da_nil)) de_int) (dss_one (ds_raise o X_NoLine)) dss_nil) (dss_cons (ds_expr (de_call o G_need_wide A_need_wide (by decide) (da_cons (de_var 3) da_nil))) (dss_cons (ds_set 5 o.nd (de_call o G_room_of A_room_of (by decide) (da_cons (de_var 0) (da_cons (de_var 1) (da_cons (de_var 2) (da_cons (de_var 3) da_nil)))))) (dss_cons (ds_if (dt_cmp (do_ltX o) (de_var 5) de_int) (dss_one (ds_raise o X_TooWide)) dss_nil) (dss_cons (ds_asg (vs := [6, 7]) (de_callB dc_divmod m_divmod PyProof.Rows.boot_divmod (da_cons (de_var 5) (da_cons (de_bin do_sub (de_callB dc_len m_len boot_len (da_cons (de_var 4) da_nil)) de_int) da_nil))) (dg_tup o.calm (dgs_cons (dg_name 6 o.nd) (dgs_cons (dg_name 7 o.nd) dgs_nil)))) (dss_one (ds_ret (de_callTy dc_tuple m_tuple PyProof.Rows.boot_tuple (da_cons (de_frz (dl_lc [("place", 8)] o (di_rng1 m_range (de_bin do_sub (de_callB dc_len m_len boot_len (da_cons (de_var 4) da_nil)) de_int)) (fun _ _ _ _ _ o => (dg_name 8 o.nd)) (fun _ _ _ _ _ o => dts_nil) (fun _ _ _ _ _ o => (de_bin do_add (de_bin do_add (de_item (de_var 0) de_int) (de_var 6)) (de_callTy dc_int m_int rfl (da_cons (de_cmp (do_ltX o) (de_var 8) (de_var 7)) da_nil)))))) da_nil)))))))))))
theorem ok_grouped {f : Addr} {fd : FuncData} (F0 : L2.Fun K "grouped" "grouped" s_grouped f fd) (m_zip : mg "zip" = none) (m_tuple : mg "tuple" = none) : FnD P w K mg base 1 f fd ["letters", "marks"] F_grouped :=
  dfn F0 sc_grouped (fun _ _ _ _ _ _ o => (dss_cons (ds_set 2 o.nd (de_thw (dl_lst da_nil))) (dss_cons (ds_for (vs := [3]) o (di_seq (de_var 1)) (dg_name 3 o.nd) (dss_one (ds_if (dt_cmp (do_notin o) (de_var 3) (de_var 2)) (dss_one (ds_expr (de_methL PySem.F.slot_list_append PySem.F.type_list_append dm_append (de_var 2) (da_cons (de_var 3) da_nil)))) dss_nil))) (dss_fix 2 (dss_one (ds_ret (de_callTy dc_tuple m_tuple PyProof.Rows.boot_tuple (da_cons (de_frz (dl_lc [("mark", 3)] o (di_seq (de_var 2)) (fun _ _ _ _ _ o => (dg_name 3 o.nd)) (fun _ _ _ _ _ o => dts_nil) (fun _ _ _ _ _ o => (de_callTy dc_tuple m_tuple PyProof.Rows.boot_tuple (da_cons (de_frz (dl_lc [("letter", 4), ("own", 5)] o (di_zip m_zip o.calm (de_var 0) (de_var 1)) (fun _ _ _ _ _ o => (dg_tup o.calm (dgs_cons (dg_name 4 o.nd) (dgs_cons (dg_name 5 o.nd) dgs_nil)))) (fun _ _ _ _ _ o => (dts_one (dt_cmp (do_eq o) (de_var 5) (de_var 3)))) (fun _ _ _ _ _ o => (de_var 4)))) da_nil))))) da_nil))))))))
theorem ok_left_parting {f : Addr} {fd : FuncData} (F0 : L2.Fun K "left_parting" "left_parting" s_left_parting f fd) {f_grouped : Addr} {fd_grouped : FuncData} (G_grouped : FnD P w K mg base 1 f_grouped fd_grouped ["letters", "marks"] F_grouped) (A_grouped : At K mg "grouped" f_grouped fd_grouped ["letters", "marks"]) {f_rows_of : Addr} {fd_rows_of : FuncData} (G_rows_of : FnD P w K mg base 2 f_rows_of fd_rows_of ["face", "pairs"] F_rows_of) (A_rows_of : At K mg "rows_of" f_rows_of fd_rows_of ["face", "pairs"]) {f_letters_of : Addr} {fd_letters_of : FuncData} (G_letters_of : FnD P w K mg base 1 f_letters_of fd_letters_of ["face"] F_letters_of) (A_letters_of : At K mg "letters_of" f_letters_of fd_letters_of ["face"]) : FnD P w K mg base 3 f fd ["face", "pairs"] F_left_parting :=
  dfn F0 sc_left_parting (fun _ _ _ _ _ _ o => (dss_one (ds_ret (de_call o G_grouped A_grouped (by decide) (da_cons (de_call o G_letters_of A_letters_of (by decide) (da_cons (de_var 0) da_nil)) (da_cons (de_call o G_rows_of A_rows_of (by decide) (da_cons (de_var 0) (da_cons (de_var 1) da_nil))) da_nil))))))
theorem ok_parting_letter {f : Addr} {fd : FuncData} (F0 : L2.Fun K "parting_letter" "parting_letter" s_parting_letter f fd) {f_letters_of : Addr} {fd_letters_of : FuncData} (G_letters_of : FnD P w K mg base 1 f_letters_of fd_letters_of ["face"] F_letters_of) (A_letters_of : At K mg "letters_of" f_letters_of fd_letters_of ["face"]) {f_gap_in : Addr} {fd_gap_in : FuncData} (G_gap_in : FnD P w K mg base 1 f_gap_in fd_gap_in ["pairs", "left", "right"] F_gap_in) (A_gap_in : At K mg "gap_in" f_gap_in fd_gap_in ["pairs", "left", "right"]) : FnD P w K mg base 2 f fd ["face", "pairs", "one", "other"] F_parting_letter :=
  dfn F0 sc_parting_letter (fun _ _ _ _ _ _ o => (dss_cons (ds_for (vs := [4]) o (di_seq (de_call o G_letters_of A_letters_of (by decide) (da_cons (de_var 0) da_nil))) (dg_name 4 o.nd) (dss_one (ds_if (dt_cmp (do_ne o) (de_call o G_gap_in A_gap_in (by decide) (da_cons (de_var 1) (da_cons (de_var 2) (da_cons (de_var 4) da_nil)))) (de_call o G_gap_in A_gap_in (by decide) (da_cons (de_var 1) (da_cons (de_var 3) (da_cons (de_var 4) da_nil))))) (dss_one (ds_ret (de_var 4))) dss_nil))) (dss_one (ds_ret de_non))))
theorem ok_twos {f : Addr} {fd : FuncData} (F0 : L2.Fun K "twos" "twos" s_twos f fd) (m_enumerate : mg "enumerate" = none) : FnD P w K mg base 1 f fd ["letters"] F_twos :=
  dfn F0 sc_twos (fun _ _ _ _ _ _ o => (dss_cons (ds_set 1 o.nd (de_thw (dl_lst da_nil))) (dss_cons (ds_for (vs := [2, 3]) o (di_enum m_enumerate (de_var 0)) (dg_tup o.calm (dgs_cons (dg_name 2 o.nd) (dgs_cons (dg_name 3 o.nd) dgs_nil))) (dss_one (ds_expr (de_extend (de_var 1) (dl_lc [("other", 4)] o (di_seq (de_sliceA (de_var 0) (dp_some (de_bin do_add (de_var 2) de_int)) dp_none)) (fun _ _ _ _ _ o => (dg_name 4 o.nd)) (fun _ _ _ _ _ o => dts_nil) (fun _ _ _ _ _ o => (de_tup (da_cons (de_var 3) (da_cons (de_var 4) da_nil))))))))) (dss_fix 1 (dss_one (ds_ret (de_var 1)))))))
theorem ok_shows_lefts {f : Addr} {fd : FuncData} (F0 : L2.Fun K "shows_lefts" "shows_lefts" s_shows_lefts f fd) {f_left_parting : Addr} {fd_left_parting : FuncData} (G_left_parting : FnD P w K mg base 3 f_left_parting fd_left_parting ["face", "pairs"] F_left_parting) (A_left_parting : At K mg "left_parting" f_left_parting fd_left_parting ["face", "pairs"]) {f_twos : Addr} {fd_twos : FuncData} (G_twos : FnD P w K mg base 1 f_twos fd_twos ["letters"] F_twos) (A_twos : At K mg "twos" f_twos fd_twos ["letters"]) {f_parting_letter : Addr} {fd_parting_letter : FuncData} (G_parting_letter : FnD P w K mg base 2 f_parting_letter fd_parting_letter ["face", "pairs", "one", "other"] F_parting_letter) (A_parting_letter : At K mg "parting_letter" f_parting_letter fd_parting_letter ["face", "pairs", "one", "other"]) (m_tuple : mg "tuple" = none) : FnD P w K mg base 4 f fd ["face", "pairs"] F_shows_lefts :=
  dfn F0 sc_shows_lefts (fun _ _ _ _ _ _ o => (dss_cons (ds_set 2 o.nd (de_callTy dc_tuple m_tuple PyProof.Rows.boot_tuple (da_cons (de_frz (dl_lc [("one", 3)] o (di_seq (de_call o G_left_parting A_left_parting (by decide) (da_cons (de_var 0) (da_cons (de_var 1) da_nil)))) (fun _ _ _ _ _ o => (dg_name 3 o.nd)) (fun _ _ _ _ _ o => dts_nil) (fun _ _ _ _ _ o => (de_item (de_var 3) de_int)))) da_nil))) (dss_one (ds_ret (de_tup (da_cons (de_var 2) (da_cons (de_callTy dc_tuple m_tuple PyProof.Rows.boot_tuple (da_cons (de_frz (dl_lc [("one", 3), ("other", 4)] o (di_seq (de_call o G_twos A_twos (by decide) (da_cons (de_var 2) da_nil))) (fun _ _ _ _ _ o => (dg_tup o.calm (dgs_cons (dg_name 3 o.nd) (dgs_cons (dg_name 4 o.nd) dgs_nil)))) (fun _ _ _ _ _ o => dts_nil) (fun _ _ _ _ _ o => (de_call o G_parting_letter A_parting_letter (by decide) (da_cons (de_var 0) (da_cons (de_var 1) (da_cons (de_var 3) (da_cons (de_var 4) da_nil)))))))) da_nil)) da_nil)))))))
theorem ok_choices {f : Addr} {fd : FuncData} (F0 : L2.Fun K "choices" "choices" s_choices f fd) (m_range : mg "range" = none) : FnD P w K mg base 1 f fd ["many", "count"] F_choices :=
  dfn F0 sc_choices (fun _ _ _ _ _ _ o => (dss_cons (ds_set 2 o.nd (de_frz (dl_lst (da_cons (de_tup da_nil) da_nil)))) (dss_cons (ds_for (vs := [3]) o (di_rng1 m_range (de_var 1)) (dg_name 3 o.nd) (dss_cons (ds_set 4 o.nd (de_thw (dl_lst da_nil))) (dss_cons (ds_for (vs := [5]) o (di_seq (de_var 2)) (dg_name 5 o.nd) (dss_one (ds_expr (de_extend (de_var 4) (dl_lc [("number", 6)] o (di_rng1 m_range (de_var 0)) (fun _ _ _ _ _ o => (dg_name 6 o.nd)) (fun _ _ _ _ _ o => (dts_one (dt_w (dw_or (dt_cmp (do_eq o) (de_var 5) (de_tup da_nil)) (dw_or1 (dt_cmp do_gt (de_var 6) (de_item (de_var 5) (de_un du_neg de_int)))))))) (fun _ _ _ _ _ o => (de_bin do_add (de_var 5) (de_tup (da_cons (de_var 6) da_nil))))))))) (dss_fix 4 (dss_one (ds_set 2 o.nd (de_var 4))))))) (dss_one (ds_ret (de_var 2))))))
theorem ok_parters {f : Addr} {fd : FuncData} (F0 : L2.Fun K "parters" "parters" s_parters f fd) {f_letters_of : Addr} {fd_letters_of : FuncData} (G_letters_of : FnD P w K mg base 1 f_letters_of fd_letters_of ["face"] F_letters_of) (A_letters_of : At K mg "letters_of" f_letters_of fd_letters_of ["face"]) {f_left_parting : Addr} {fd_left_parting : FuncData} (G_left_parting : FnD P w K mg base 3 f_left_parting fd_left_parting ["face", "pairs"] F_left_parting) (A_left_parting : At K mg "left_parting" f_left_parting fd_left_parting ["face", "pairs"]) {f_choices : Addr} {fd_choices : FuncData} (G_choices : FnD P w K mg base 1 f_choices fd_choices ["many", "count"] F_choices) (A_choices : At K mg "choices" f_choices fd_choices ["many", "count"]) {f_gap_in : Addr} {fd_gap_in : FuncData} (G_gap_in : FnD P w K mg base 1 f_gap_in fd_gap_in ["pairs", "left", "right"] F_gap_in) (A_gap_in : At K mg "gap_in" f_gap_in fd_gap_in ["pairs", "left", "right"]) (m_len : mg "len" = none) (m_range : mg "range" = none) (m_tuple : mg "tuple" = none) (m_set : mg "set" = none) : FnD P w K mg base 4 f fd ["face", "pairs"] F_parters :=
  dfn F0 sc_parters (fun _ _ _ _ _ _ o => (dss_cons (ds_set 2 o.nd (de_call o G_letters_of A_letters_of (by decide) (da_cons (de_var 0) da_nil))) (dss_cons (ds_set 3 o.nd (de_callB dc_len m_len boot_len (da_cons (de_call o G_left_parting A_left_parting (by decide) (da_cons (de_var 0) (da_cons (de_var 1) da_nil))) da_nil))) (dss_cons (ds_for (vs := [4]) o (di_rng1 m_range (de_bin do_add (de_callB dc_len m_len boot_len (da_cons (de_var 2) da_nil)) de_int)) (dg_name 4 o.nd) (dss_one (ds_for (vs := [5]) o (di_seq (de_call o G_choices A_choices (by decide) (da_cons (de_callB dc_len m_len boot_len (da_cons (de_var 2) da_nil)) (da_cons (de_var 4) da_nil)))) (dg_name 5 o.nd) (dss_cons (ds_setLcF 6 [("left", 7)] o (di_seq (de_var 2)) (fun _ _ _ _ _ o => (dg_name 7 o.nd)) (fun _ _ _ _ _ o => dts_nil) (fun _ _ _ _ _ o => (de_callTy dc_tuple m_tuple PyProof.Rows.boot_tuple (da_cons (de_frz (dl_lc [("place", 8)] o (di_seq (de_var 5)) (fun _ _ _ _ _ o => (dg_name 8 o.nd)) (fun _ _ _ _ _ o => dts_nil) (fun _ _ _ _ _ o => (de_call o G_gap_in A_gap_in (by decide) (da_cons (de_var 1) (da_cons (de_var 7) (da_cons (de_item (de_var 2) (de_var 8)) da_nil))))))) da_nil)))) (dss_one (ds_if (dt_cmp (do_eq o) (de_lensetX o m_len m_set (de_var 6)) (de_var 3)) (dss_one (ds_ret (de_callTy dc_tuple m_tuple PyProof.Rows.boot_tuple (da_cons (de_frz (dl_lc [("place", 8)] o (di_seq (de_var 5)) (fun _ _ _ _ _ o => (dg_name 8 o.nd)) (fun _ _ _ _ _ o => dts_nil) (fun _ _ _ _ _ o => (de_item (de_var 2) (de_var 8))))) da_nil)))) dss_nil)))))) (dss_one (ds_ret (de_var 2)))))))
theorem ok_law_box {f : Addr} {fd : FuncData} (F0 : L2.Fun K "_law_box" "_law_box" s_law_box f fd) (m_len : mg "len" = none) (m_abs : mg "abs" = none) : FnD P w K mg base 1 f fd ["_law_script", "_law_k"] F_law_box :=
  dfn F0 sc_law_box (fun _ _ _ _ _ _ o => (dss_cons (ds_set 2 o.nd (de_bin do_add (de_bin do_mul de_int (de_var 1)) de_int)) (dss_cons (ds_if (dt_cmp (do_ltX o) (de_var 1) (de_callB dc_len m_len boot_len (da_cons (de_var 0) da_nil))) (dss_one (ds_set 2 o.nd (de_item (de_var 0) (de_var 1)))) dss_nil) (dss_cons (ds_if (dt_cmp (do_eq o) (de_bin do_mod (de_var 2) de_int) de_int) (dss_one (ds_ret (de_thw (dl_lst (da_cons (de_bin do_fdiv (de_callB dc_abs m_abs PyProof.Rows.boot_abs (da_cons (de_var 2) da_nil)) de_int) (da_cons (de_bin do_add (de_bin do_add (de_bin do_mod (de_var 2) de_int) (de_bin do_mul de_int (de_var 1))) de_int) da_nil)))))) dss_nil) (dss_one (ds_ret (de_thw (dl_lst (da_cons de_int (da_cons (de_bin do_add (de_bin do_add (de_bin do_mod (de_var 2) de_int) (de_bin do_mul de_int (de_var 1))) de_int) da_nil))))))))))
theorem ok_law_take {f : Addr} {fd : FuncData} (F0 : L2.Fun K "_law_take" "_law_take" s_law_take f fd) (m_divmod : mg "divmod" = none) : FnD P w K mg base 1 f fd ["_law_box_here", "_law_many"] F_law_take :=
  dfn F0 sc_law_take (fun _ _ _ _ _ _ o => (dss_cons (ds_if (dt_cmp do_gt (de_item (de_var 0) de_int) de_int) (dss_cons (ds_asg (vs := [2]) (de_callB dc_divmod m_divmod PyProof.Rows.boot_divmod (da_cons (de_item (de_var 0) de_int) (da_cons (de_var 1) da_nil))) (dg_tup o.calm (dgs_cons (dg_ix (de_var 0) de_int) (dgs_cons (dg_name 2 o.nd) dgs_nil)))) (dss_one (ds_ret (de_var 2)))) dss_nil) (dss_cons (ds_asg (vs := []) (de_bin do_mod (de_bin do_add (de_bin do_mul (de_item (de_var 0) de_int) de_int) de_int) de_int) (dg_ix (de_var 0) de_int)) (dss_cons (ds_set 3 o.nd (de_bin do_add (de_bin do_fdiv (de_item (de_var 0) de_int) de_int) de_int)) (dss_one (ds_ret (de_bin do_mod (de_bin do_fdiv (de_bin do_mod (de_bin do_mul (de_bin do_mul (de_var 3) (de_var 3)) (de_var 3)) de_int) de_int) (de_var 1))))))))
theorem ok_law_face {f : Addr} {fd : FuncData} (F0 : L2.Fun K "_law_face" "_law_face" s_law_face f fd) {f_law_take : Addr} {fd_law_take : FuncData} (G_law_take : FnD P w K mg base 1 f_law_take fd_law_take ["_law_box_here", "_law_many"] F_law_take) (A_law_take : At K mg "_law_take" f_law_take fd_law_take ["_law_box_here", "_law_many"]) (m_list : mg "list" = none) (m_range : mg "range" = none) (m_len : mg "len" = none) (m_tuple : mg "tuple" = none) : FnD P w K mg base 2 f fd ["_law_box_here", "_law_least", "_law_most"] F_law_face :=
  dfn F0 sc_law_face (fun _ _ _ _ _ _ o => (dss_cons (ds_set 3 o.nd (de_thw (dl_callTy (dcl_list o) m_list PyProof.Rows.boot_list (da_cons de_str da_nil)))) (dss_cons (ds_set 4 o.nd (de_bin do_add (de_var 1) (de_call o G_law_take A_law_take (by decide) (da_cons (de_var 0) (da_cons (de_bin do_add (de_bin do_sub (de_var 2) (de_var 1)) de_int) da_nil))))) (dss_cons (ds_setLcF 5 [("_law_turn", 6)] o (di_rng1 m_range (de_var 4)) (fun _ _ _ _ _ o => (dg_name 6 o.nd)) (fun _ _ _ _ _ o => dts_nil) (fun _ _ _ _ _ o => (de_tup (da_cons (de_methL PySem.F.slot_list_pop PySem.F.type_list_pop dm_pop (de_var 3) (da_cons (de_call o G_law_take A_law_take (by decide) (da_cons (de_var 0) (da_cons (de_callB dc_len m_len boot_len (da_cons (de_var 3) da_nil)) da_nil))) da_nil)) (da_cons (de_bin do_add de_int (de_call o G_law_take A_law_take (by decide) (da_cons (de_var 0) (da_cons de_int da_nil)))) da_nil))))) (dss_one (ds_ret (de_tup (da_cons (de_bin do_add de_int (de_call o G_law_take A_law_take (by decide) (da_cons (de_var 0) (da_cons de_int da_nil)))) (da_cons (de_callTy dc_tuple m_tuple PyProof.Rows.boot_tuple (da_cons (de_var 5) da_nil)) da_nil)))))))))
theorem ok_law_letters {f : Addr} {fd : FuncData} (F0 : L2.Fun K "_law_letters" "_law_letters" s_law_letters f fd) : FnD P w K mg base 1 f fd ["_law_face_here"] F_law_letters :=
  dfn F0 sc_law_letters (fun _ _ _ _ _ _ o => (dss_one (ds_ret (de_frz (dl_lc [("_law_one", 1)] o (di_seq (de_item (de_var 0) de_int)) (fun _ _ _ _ _ o => (dg_name 1 o.nd)) (fun _ _ _ _ _ o => dts_nil) (fun _ _ _ _ _ o => (de_item (de_var 1) de_int)))))))
theorem ok_law_rows {f : Addr} {fd : FuncData} (F0 : L2.Fun K "_law_rows" "_law_rows" s_law_rows f fd) {f_law_take : Addr} {fd_law_take : FuncData} (G_law_take : FnD P w K mg base 1 f_law_take fd_law_take ["_law_box_here", "_law_many"] F_law_take) (A_law_take : At K mg "_law_take" f_law_take fd_law_take ["_law_box_here", "_law_many"]) (m_range : mg "range" = none) : FnD P w K mg base 2 f fd ["_law_box_here", "_law_many"] F_law_rows :=
  dfn F0 sc_law_rows (fun _ _ _ _ _ _ o => (dss_cons (ds_setLcF 2 [("_law_place", 8)] o (di_rng1 m_range (de_var 1)) (fun _ _ _ _ _ o => (dg_name 8 o.nd)) (fun _ _ _ _ _ o => dts_nil) (fun _ _ _ _ _ o => (de_call o G_law_take A_law_take (by decide) (da_cons (de_var 0) (da_cons de_int da_nil))))) (dss_cons (ds_set 3 o.nd (de_frz (dl_lc [("_law_place", 8)] o (di_rng1 m_range (de_var 1)) (fun _ _ _ _ _ o => (dg_name 8 o.nd)) (fun _ _ _ _ _ o => dts_nil) (fun _ _ _ _ _ o => (de_call o G_law_take A_law_take (by decide) (da_cons (de_var 0) (da_cons de_int da_nil))))))) (dss_cons (ds_set 4 o.nd (de_frz (dl_lst (da_cons de_int (da_cons de_int (da_cons de_int (da_cons (de_un du_neg de_int) (da_cons de_int (da_cons (de_un du_neg de_int) (da_cons de_int da_nil)))))))))) (dss_cons (ds_set 5 o.nd (de_frz (dl_lc [("_law_first", 9)] o (di_rng1 m_range de_int) (fun _ _ _ _ _ o => (dg_name 9 o.nd)) (fun _ _ _ _ _ o => dts_nil) (fun _ _ _ _ _ o => (de_frz (dl_lc [("_law_second", 10)] o (di_rng1 m_range de_int) (fun _ _ _ _ _ o => (dg_name 10 o.nd)) (fun _ _ _ _ _ o => dts_nil) (fun _ _ _ _ _ o => (de_item (de_var 4) (de_call o G_law_take A_law_take (by decide) (da_cons (de_var 0) (da_cons de_int da_nil))))))))))) (dss_cons (ds_setLcM 6 [("_law_first", 9)] o (di_seq (de_var 2)) (fun _ _ _ _ _ o => (dg_name 9 o.nd)) (fun _ _ _ _ _ o => dts_nil) (fun _ _ _ _ _ o => (de_thw (dl_lc [("_law_second", 10)] o (di_seq (de_var 3)) (fun _ _ _ _ _ o => (dg_name 10 o.nd)) (fun _ _ _ _ _ o => dts_nil) (fun _ _ _ _ _ o => (de_item (de_item (de_var 5) (de_var 9)) (de_var 10))))))) (dss_cons (ds_for (vs := [7]) o (di_rng1 m_range (de_call o G_law_take A_law_take (by decide) (da_cons (de_var 0) (da_cons de_int da_nil)))) (dg_name 7 o.nd) (dss_one (ds_asg (vs := []) (de_bin do_sub (de_call o G_law_take A_law_take (by decide) (da_cons (de_var 0) (da_cons de_int da_nil))) de_int) (dg_ix (de_item (de_var 6) (de_call o G_law_take A_law_take (by decide) (da_cons (de_var 0) (da_cons (de_var 1) da_nil)))) (de_call o G_law_take A_law_take (by decide) (da_cons (de_var 0) (da_cons (de_var 1) da_nil))))))) (dss_fix2 6 (dss_one (ds_ret (de_var 6)))))))))))
theorem ok_law_list {f : Addr} {fd : FuncData} (F0 : L2.Fun K "_law_list" "_law_list" s_law_list f fd) {f_law_letters : Addr} {fd_law_letters : FuncData} (G_law_letters : FnD P w K mg base 1 f_law_letters fd_law_letters ["_law_face_here"] F_law_letters) (A_law_letters : At K mg "_law_letters" f_law_letters fd_law_letters ["_law_face_here"]) (m_zip : mg "zip" = none) (m_tuple : mg "tuple" = none) : FnD P w K mg base 2 f fd ["_law_face_here", "_law_rows_here"] F_law_list :=
  dfn F0 sc_law_list (fun _ _ _ _ _ _ o => (dss_cons (ds_set 2 o.nd (de_call o G_law_letters A_law_letters (by decide) (da_cons (de_var 0) da_nil))) (dss_cons (ds_set 3 o.nd (de_thw (dl_lst da_nil))) (dss_cons (ds_for (vs := [4, 5]) o (di_zip m_zip o.calm (de_var 2) (de_var 1)) (dg_tup o.calm (dgs_cons (dg_name 4 o.nd) (dgs_cons (dg_name 5 o.nd) dgs_nil))) (dss_one (ds_for (vs := [6, 7]) o (di_zip m_zip o.calm (de_var 2) (de_var 5)) (dg_tup o.calm (dgs_cons (dg_name 6 o.nd) (dgs_cons (dg_name 7 o.nd) dgs_nil))) (dss_one (ds_if (dt_cmp (do_ne o) (de_var 7) de_int) (dss_one (ds_expr (de_methL PySem.F.slot_list_append PySem.F.type_list_append dm_append (de_var 3) (da_cons (de_tup (da_cons (de_var 4) (da_cons (de_var 6) (da_cons (de_var 7) da_nil)))) da_nil)))) dss_nil))))) (dss_one (ds_ret (de_callTy dc_tuple m_tuple PyProof.Rows.boot_tuple (da_cons (de_var 3) da_nil))))))))
theorem ok_law_pairs {f : Addr} {fd : FuncData} (F0 : L2.Fun K "_law_pairs" "_law_pairs" s_law_pairs f fd) {f_law_list : Addr} {fd_law_list : FuncData} (G_law_list : FnD P w K mg base 2 f_law_list fd_law_list ["_law_face_here", "_law_rows_here"] F_law_list) (A_law_list : At K mg "_law_list" f_law_list fd_law_list ["_law_face_here", "_law_rows_here"]) {f_law_rows : Addr} {fd_law_rows : FuncData} (G_law_rows : FnD P w K mg base 2 f_law_rows fd_law_rows ["_law_box_here", "_law_many"] F_law_rows) (A_law_rows : At K mg "_law_rows" f_law_rows fd_law_rows ["_law_box_here", "_law_many"]) (m_len : mg "len" = none) : FnD P w K mg base 3 f fd ["_law_box_here", "_law_face_here"] F_law_pairs :=
  dfn F0 sc_law_pairs (fun _ _ _ _ _ _ o => (dss_one (ds_ret (de_call o G_law_list A_law_list (by decide) (da_cons (de_var 1) (da_cons (de_call o G_law_rows A_law_rows (by decide) (da_cons (de_var 0) (da_cons (de_callB dc_len m_len boot_len (da_cons (de_item (de_var 1) de_int) da_nil)) da_nil))) da_nil))))))
theorem ok_law_fresh {f : Addr} {fd : FuncData} (F0 : L2.Fun K "_law_fresh" "_law_fresh" s_law_fresh f fd) {f_law_letters : Addr} {fd_law_letters : FuncData} (G_law_letters : FnD P w K mg base 1 f_law_letters fd_law_letters ["_law_face_here"] F_law_letters) (A_law_letters : At K mg "_law_letters" f_law_letters fd_law_letters ["_law_face_here"]) {f_law_take : Addr} {fd_law_take : FuncData} (G_law_take : FnD P w K mg base 1 f_law_take fd_law_take ["_law_box_here", "_law_many"] F_law_take) (A_law_take : At K mg "_law_take" f_law_take fd_law_take ["_law_box_here", "_law_many"]) (m_len : mg "len" = none) : FnD P w K mg base 2 f fd ["_law_box_here", "_law_face_here"] F_law_fresh :=
  dfn F0 sc_law_fresh (fun _ _ _ _ _ _ o => (dss_cons (ds_set 2 o.nd (de_call o G_law_letters A_law_letters (by decide) (da_cons (de_var 1) da_nil))) (dss_cons (ds_setLcF 3 [("_law_letter", 4)] o (di_txt de_str) (fun _ _ _ _ _ o => (dg_name 4 o.nd)) (fun _ _ _ _ _ o => (dts_one (dt_cmp (do_notin o) (de_var 4) (de_var 2)))) (fun _ _ _ _ _ o => (de_var 4))) (dss_one (ds_ret (de_item (de_var 3) (de_call o G_law_take A_law_take (by decide) (da_cons (de_var 0) (da_cons (de_callB dc_len m_len boot_len (da_cons (de_var 3) da_nil)) da_nil)))))))))
theorem ok_law_word {f : Addr} {fd : FuncData} (F0 : L2.Fun K "_law_word" "_law_word" s_law_word f fd) {f_law_take : Addr} {fd_law_take : FuncData} (G_law_take : FnD P w K mg base 1 f_law_take fd_law_take ["_law_box_here", "_law_many"] F_law_take) (A_law_take : At K mg "_law_take" f_law_take fd_law_take ["_law_box_here", "_law_many"]) (m_range : mg "range" = none) (m_len : mg "len" = none) : FnD P w K mg base 2 f fd ["_law_box_here", "_law_letters_here"] F_law_word_v1 :=
  dfn F0 sc_law_word (fun _ _ _ _ _ _ o => (dss_one (ds_ret (de_methS PySem.F.slot_str_join PySem.F.type_str_join dm_join de_str (da_cons (de_frz (dl_lc [("_law_place", 2)] o (di_rng1 m_range (de_bin do_add de_int (de_call o G_law_take A_law_take (by decide) (da_cons (de_var 0) (da_cons de_int da_nil))))) (fun _ _ _ _ _ o => (dg_name 2 o.nd)) (fun _ _ _ _ _ o => dts_nil) (fun _ _ _ _ _ o => (de_item (de_var 1) (de_call o G_law_take A_law_take (by decide) (da_cons (de_var 0) (da_cons (de_callB dc_len m_len boot_len (da_cons (de_var 1) da_nil)) da_nil))))))) da_nil)))))
theorem ok_law_swapped {f : Addr} {fd : FuncData} (F0 : L2.Fun K "_law_swapped" "_law_swapped" s_law_swapped f fd) {f_law_take : Addr} {fd_law_take : FuncData} (G_law_take : FnD P w K mg base 1 f_law_take fd_law_take ["_law_box_here", "_law_many"] F_law_take) (A_law_take : At K mg "_law_take" f_law_take fd_law_take ["_law_box_here", "_law_many"]) : FnD P w K mg base 2 f fd ["_law_box_here", "_law_text", "_law_letter", "_law_other"] F_law_swapped :=
  dfn F0 sc_law_swapped (fun _ _ _ _ _ _ o => (dss_cons (ds_set 4 o.nd (de_thw (dl_lst da_nil))) (dss_cons (ds_for (vs := [5]) o (di_txt (de_var 1)) (dg_name 5 o.nd) (dss_one (ds_if (dt_w (dw_and (dt_cmp (do_eq o) (de_var 5) (de_var 3)) (dw_and1 (dt_cmp (do_eq o) (de_call o G_law_take A_law_take (by decide) (da_cons (de_var 0) (da_cons de_int da_nil))) de_int)))) (dss_one (ds_expr (de_methL PySem.F.slot_list_append PySem.F.type_list_append dm_append (de_var 4) (da_cons (de_var 2) da_nil)))) (dss_one (ds_expr (de_methL PySem.F.slot_list_append PySem.F.type_list_append dm_append (de_var 4) (da_cons (de_var 5) da_nil))))))) (dss_fix 4 (dss_one (ds_ret (de_methS PySem.F.slot_str_join PySem.F.type_str_join dm_join de_str (da_cons (de_var 4) da_nil))))))))
theorem ok_law_same_lines {f : Addr} {fd : FuncData} (F0 : L2.Fun K "_law_same_lines" "_law_same_lines" s_law_same_lines f fd) (m_len : mg "len" = none) : FnD P w K mg base 1 f fd ["_law_lines", "_law_others", "_law_text"] F_law_same_lines :=
  dfn F0 sc_law_same_lines (fun _ _ _ _ _ _ o => (dss_one (ds_ret (de_and (de_cmp (do_eq o) (de_frz (dl_lc [("_law_line", 3)] o (di_seq (de_var 0)) (fun _ _ _ _ _ o => (dg_name 3 o.nd)) (fun _ _ _ _ _ o => dts_nil) (fun _ _ _ _ _ o => (de_callB dc_len m_len boot_len (da_cons (de_var 3) da_nil))))) (de_frz (dl_lc [("_law_line", 3)] o (di_seq (de_var 1)) (fun _ _ _ _ _ o => (dg_name 3 o.nd)) (fun _ _ _ _ _ o => dts_nil) (fun _ _ _ _ _ o => (de_callB dc_len m_len boot_len (da_cons (de_var 3) da_nil)))))) (de_one (de_cmp (do_eq o) (de_methS PySem.F.slot_str_join PySem.F.type_str_join dm_join de_str (da_cons (de_var 1) da_nil)) (de_var 2)))))))
theorem ok_law_lines_right {f : Addr} {fd : FuncData} (F0 : L2.Fun K "_law_lines_right" "_law_lines_right" s_law_lines_right f fd) {f_evened : Addr} {fd_evened : FuncData} (G_evened : FnD P w K mg base 8 f_evened fd_evened ["face", "pairs", "text", "number"] F_evened) (A_evened : At K mg "evened" f_evened fd_evened ["face", "pairs", "text", "number"]) {f_law_same_lines : Addr} {fd_law_same_lines : FuncData} (G_law_same_lines : FnD P w K mg base 1 f_law_same_lines fd_law_same_lines ["_law_lines", "_law_others", "_law_text"] F_law_same_lines) (A_law_same_lines : At K mg "_law_same_lines" f_law_same_lines fd_law_same_lines ["_law_lines", "_law_others", "_law_text"]) {f_filled : Addr} {fd_filled : FuncData} (G_filled : FnD P w K mg base 7 f_filled fd_filled ["face", "pairs", "text", "number"] F_filled) (A_filled : At K mg "filled" f_filled fd_filled ["face", "pairs", "text", "number"]) {f_shows_even : Addr} {fd_shows_even : FuncData} (G_shows_even : FnD P w K mg base 8 f_shows_even fd_shows_even ["face", "pairs", "text", "number"] F_shows_even) (A_shows_even : At K mg "shows_even" f_shows_even fd_shows_even ["face", "pairs", "text", "number"]) {f_spread : Addr} {fd_spread : FuncData} (G_spread : FnD P w K mg base 6 f_spread fd_spread ["face", "pairs", "text", "number"] F_spread) (A_spread : At K mg "spread" f_spread fd_spread ["face", "pairs", "text", "number"]) : FnD P w K mg base 9 f fd ["_law_elder", "_law_later", "_law_texts", "_law_number"] F_law_lines_right :=
  dfn F0 sc_law_lines_right (fun _ _ _ _ _ _ o => (dss_cons (ds_asg (vs := [4, 5, 6, 7, 8, 9]) (de_tup (da_cons (de_var 0) (da_cons (de_var 1) (da_cons (de_var 2) da_nil)))) (dg_tup o.calm (dgs_cons (dg_tup o.calm (dgs_cons (dg_name 4 o.nd) (dgs_cons (dg_name 5 o.nd) dgs_nil))) (dgs_cons (dg_tup o.calm (dgs_cons (dg_name 6 o.nd) (dgs_cons (dg_name 7 o.nd) dgs_nil))) (dgs_cons (dg_tup o.calm (dgs_cons (dg_name 8 o.nd) (dgs_cons (dg_name 9 o.nd) dgs_nil))) dgs_nil))))) (dss_cons (ds_par o.calm o.nd (da_cons (de_call o G_evened A_evened (by decide) (da_cons (de_var 4) (da_cons (de_var 5) (da_cons (de_var 8) (da_cons (de_var 3) da_nil))))) (da_cons (de_call o G_evened A_evened (by decide) (da_cons (de_var 6) (da_cons (de_var 7) (da_cons (de_var 9) (da_cons (de_var 3) da_nil))))) da_nil))) (dss_cons (ds_if (dt_not (dt_val (de_call o G_law_same_lines A_law_same_lines (by decide) (da_cons (de_var 10) (da_cons (de_var 11) (da_cons (de_var 9) da_nil)))))) (dss_one (ds_ret de_bl)) dss_nil) (dss_cons (ds_if (dt_not (dt_val (de_call o G_law_same_lines A_law_same_lines (by decide) (da_cons (de_call o G_filled A_filled (by decide) (da_cons (de_var 4) (da_cons (de_var 5) (da_cons (de_var 8) (da_cons (de_var 3) da_nil))))) (da_cons (de_call o G_filled A_filled (by decide) (da_cons (de_var 6) (da_cons (de_var 7) (da_cons (de_var 9) (da_cons (de_var 3) da_nil))))) (da_cons (de_var 9) da_nil)))))) (dss_one (ds_ret de_bl)) dss_nil) (dss_cons (ds_if (dt_cmp (do_ne o) (de_call o G_shows_even A_shows_even (by decide) (da_cons (de_var 4) (da_cons (de_var 5) (da_cons (de_var 8) (da_cons (de_var 3) da_nil))))) (de_call o G_shows_even A_shows_even (by decide) (da_cons (de_var 6) (da_cons (de_var 7) (da_cons (de_var 9) (da_cons (de_var 3) da_nil)))))) (dss_one (ds_ret de_bl)) dss_nil) (dss_cons (ds_if (dt_cmp (do_in o) de_str (de_item (de_var 10) de_int)) (dss_one (ds_ret (de_cmp (do_eq o) (de_call o G_spread A_spread (by decide) (da_cons (de_var 4) (da_cons (de_var 5) (da_cons (de_item (de_var 10) de_int) (da_cons (de_var 3) da_nil))))) (de_call o G_spread A_spread (by decide) (da_cons (de_var 6) (da_cons (de_var 7) (da_cons (de_item (de_var 11) de_int) (da_cons (de_var 3) da_nil)))))))) dss_nil) (dss_one (ds_ret de_bl)))))))))
theorem ok_law {f : Addr} {fd : FuncData} (F0 : L2.Fun K "law" "law" s_law f fd) {f_law_box : Addr} {fd_law_box : FuncData} (G_law_box : FnD P w K mg base 1 f_law_box fd_law_box ["_law_script", "_law_k"] F_law_box) (A_law_box : At K mg "_law_box" f_law_box fd_law_box ["_law_script", "_law_k"]) {f_law_face : Addr} {fd_law_face : FuncData} (G_law_face : FnD P w K mg base 2 f_law_face fd_law_face ["_law_box_here", "_law_least", "_law_most"] F_law_face) (A_law_face : At K mg "_law_face" f_law_face fd_law_face ["_law_box_here", "_law_least", "_law_most"]) {f_law_pairs : Addr} {fd_law_pairs : FuncData} (G_law_pairs : FnD P w K mg base 3 f_law_pairs fd_law_pairs ["_law_box_here", "_law_face_here"] F_law_pairs) (A_law_pairs : At K mg "_law_pairs" f_law_pairs fd_law_pairs ["_law_box_here", "_law_face_here"]) {f_law_letters : Addr} {fd_law_letters : FuncData} (G_law_letters : FnD P w K mg base 1 f_law_letters fd_law_letters ["_law_face_here"] F_law_letters) (A_law_letters : At K mg "_law_letters" f_law_letters fd_law_letters ["_law_face_here"]) {f_law_take : Addr} {fd_law_take : FuncData} (G_law_take : FnD P w K mg base 1 f_law_take fd_law_take ["_law_box_here", "_law_many"] F_law_take) (A_law_take : At K mg "_law_take" f_law_take fd_law_take ["_law_box_here", "_law_many"]) {f_law_fresh : Addr} {fd_law_fresh : FuncData} (G_law_fresh : FnD P w K mg base 2 f_law_fresh fd_law_fresh ["_law_box_here", "_law_face_here"] F_law_fresh) (A_law_fresh : At K mg "_law_fresh" f_law_fresh fd_law_fresh ["_law_box_here", "_law_face_here"]) {f_with_like : Addr} {fd_with_like : FuncData} (G_with_like : FnD P w K mg base 3 f_with_like fd_with_like ["face", "pairs", "letter", "other"] F_with_like) (A_with_like : At K mg "with_like" f_with_like fd_with_like ["face", "pairs", "letter", "other"]) {f_law_word : Addr} {fd_law_word : FuncData} (G_law_word : FnD P w K mg base 2 f_law_word fd_law_word ["_law_box_here", "_law_letters_here"] F_law_word_v1) (A_law_word : At K mg "_law_word" f_law_word fd_law_word ["_law_box_here", "_law_letters_here"]) {f_law_swapped : Addr} {fd_law_swapped : FuncData} (G_law_swapped : FnD P w K mg base 2 f_law_swapped fd_law_swapped ["_law_box_here", "_law_text", "_law_letter", "_law_other"] F_law_swapped) (A_law_swapped : At K mg "_law_swapped" f_law_swapped fd_law_swapped ["_law_box_here", "_law_text", "_law_letter", "_law_other"]) {f_begins : Addr} {fd_begins : FuncData} (G_begins : FnD P w K mg base 5 f_begins fd_begins ["face", "pairs", "text"] F_begins) (A_begins : At K mg "begins" f_begins fd_begins ["face", "pairs", "text"]) {f_wide : Addr} {fd_wide : FuncData} (G_wide : FnD P w K mg base 5 f_wide fd_wide ["face", "pairs", "text"] F_wide) (A_wide : At K mg "wide" f_wide fd_wide ["face", "pairs", "text"]) {f_sign_at : Addr} {fd_sign_at : FuncData} (G_sign_at : FnD P w K mg base 5 f_sign_at fd_sign_at ["face", "pairs", "text", "number"] F_sign_at) (A_sign_at : At K mg "sign_at" f_sign_at fd_sign_at ["face", "pairs", "text", "number"]) {f_law_lines_right : Addr} {fd_law_lines_right : FuncData} (G_law_lines_right : FnD P w K mg base 9 f_law_lines_right fd_law_lines_right ["_law_elder", "_law_later", "_law_texts", "_law_number"] F_law_lines_right) (A_law_lines_right : At K mg "_law_lines_right" f_law_lines_right fd_law_lines_right ["_law_elder", "_law_later", "_law_texts", "_law_number"]) {f_parters : Addr} {fd_parters : FuncData} (G_parters : FnD P w K mg base 4 f_parters fd_parters ["face", "pairs"] F_parters) (A_parters : At K mg "parters" f_parters fd_parters ["face", "pairs"]) {f_shows_lefts : Addr} {fd_shows_lefts : FuncData} (G_shows_lefts : FnD P w K mg base 4 f_shows_lefts fd_shows_lefts ["face", "pairs"] F_shows_lefts) (A_shows_lefts : At K mg "shows_lefts" f_shows_lefts fd_shows_lefts ["face", "pairs"]) {f_gap_of : Addr} {fd_gap_of : FuncData} (G_gap_of : FnD P w K mg base 3 f_gap_of fd_gap_of ["face", "pairs", "left", "right"] F_gap_of) (A_gap_of : At K mg "gap_of" f_gap_of fd_gap_of ["face", "pairs", "left", "right"]) {f_with_gap : Addr} {fd_with_gap : FuncData} (G_with_gap : FnD P w K mg base 3 f_with_gap fd_with_gap ["face", "pairs", "left", "right", "gap"] F_with_gap) (A_with_gap : At K mg "with_gap" f_with_gap fd_with_gap ["face", "pairs", "left", "right", "gap"]) {f_moved_lines : Addr} {fd_moved_lines : FuncData} (G_moved_lines : FnD P w K mg base 5 f_moved_lines fd_moved_lines ["face", "pairs", "other", "texts"] F_moved_lines) (A_moved_lines : At K mg "moved_lines" f_moved_lines fd_moved_lines ["face", "pairs", "other", "texts"]) (m_range : mg "range" = none) (m_len : mg "len" = none) (m_min : mg "min" = none) (m_max : mg "max" = none) : FnD P w K mg base 10 f fd ["_law_script"] F_law :=
  dfn F0 sc_law (fun _ _ _ _ _ _ o => (dss_cons (ds_for (vs := [1]) o (di_rng1 m_range (de_callB (dc_max2 o) m_max PyProof.Rows.boot_max (da_cons de_int (da_cons (de_callB (dc_min2 o) m_min PyProof.Rows.boot_min (da_cons (de_callB dc_len m_len boot_len (da_cons (de_var 0) da_nil)) (da_cons de_int da_nil))) da_nil)))) (dg_name 1 o.nd) (dss_cons (ds_set 2 o.nd (de_call o G_law_box A_law_box (by decide) (da_cons (de_var 0) (da_cons (de_var 1) da_nil)))) (dss_cons (ds_set 3 o.nd (de_call o G_law_face A_law_face (by decide) (da_cons (de_var 2) (da_cons de_int (da_cons de_int da_nil))))) (dss_cons (ds_asg (vs := [4, 5]) (de_tup (da_cons (de_call o G_law_letters A_law_letters (by decide) (da_cons (de_var 3) da_nil)) (da_cons (de_call o G_law_pairs A_law_pairs (by decide) (da_cons (de_var 2) (da_cons (de_var 3) da_nil))) da_nil))) (dg_tup o.calm (dgs_cons (dg_name 4 o.nd) (dgs_cons (dg_name 5 o.nd) dgs_nil)))) (dss_cons (ds_par o.calm o.nd (da_cons (de_call o G_law_fresh A_law_fresh (by decide) (da_cons (de_var 2) (da_cons (de_var 3) da_nil))) (da_cons (de_item (de_var 4) (de_call o G_law_take A_law_take (by decide) (da_cons (de_var 2) (da_cons (de_callB dc_len m_len boot_len (da_cons (de_var 4) da_nil)) da_nil)))) da_nil))) (dss_cons (ds_asg (vs := [8, 9]) (de_call o G_with_like A_with_like (by decide) (da_cons (de_var 3) (da_cons (de_var 5) (da_cons (de_var 6) (da_cons (de_var 7) da_nil))))) (dg_tup o.calm (dgs_cons (dg_name 8 o.nd) (dgs_cons (dg_name 9 o.nd) dgs_nil)))) (dss_cons (ds_setLcF 10 [("_law_turn", 19)] o (di_rng1 m_range (de_bin do_add de_int (de_call o G_law_take A_law_take (by decide) (da_cons (de_var 2) (da_cons de_int da_nil))))) (fun _ _ _ _ _ o => (dg_name 19 o.nd)) (fun _ _ _ _ _ o => dts_nil) (fun _ _ _ _ _ o => (de_call o G_law_word A_law_word (by decide) (da_cons (de_var 2) (da_cons (de_var 4) da_nil))))) (dss_cons (ds_set 11 o.nd (de_methS PySem.F.slot_str_join PySem.F.type_str_join dm_join de_str (da_cons (de_var 10) da_nil))) (dss_cons (ds_set 12 o.nd (de_call o G_law_swapped A_law_swapped (by decide) (da_cons (de_var 2) (da_cons (de_var 11) (da_cons (de_var 6) (da_cons (de_var 7) da_nil)))))) (dss_cons (ds_if (dt_cmp (do_ne o) (de_call o G_begins A_begins (by decide) (da_cons (de_var 8) (da_cons (de_var 9) (da_cons (de_var 12) da_nil)))) (de_call o G_begins A_begins (by decide) (da_cons (de_var 3) (da_cons (de_var 5) (da_cons (de_var 11) da_nil))))) (dss_one (ds_ret de_bl)) dss_nil) (dss_cons (ds_if (dt_cmp (do_ne o) (de_call o G_wide A_wide (by decide) (da_cons (de_var 8) (da_cons (de_var 9) (da_cons (de_var 12) da_nil)))) (de_call o G_wide A_wide (by decide) (da_cons (de_var 3) (da_cons (de_var 5) (da_cons (de_var 11) da_nil))))) (dss_one (ds_ret de_bl)) dss_nil) (dss_cons (ds_set 13 o.nd (de_call o G_law_take A_law_take (by decide) (da_cons (de_var 2) (da_cons de_int da_nil)))) (dss_cons (ds_if (dt_cmp (do_ne o) (de_call o G_sign_at A_sign_at (by decide) (da_cons (de_var 8) (da_cons (de_var 9) (da_cons (de_var 12) (da_cons (de_var 13) da_nil))))) (de_call o G_sign_at A_sign_at (by decide) (da_cons (de_var 3) (da_cons (de_var 5) (da_cons (de_var 11) (da_cons (de_var 13) da_nil)))))) (dss_one (ds_ret de_bl)) dss_nil) (dss_cons (ds_set 14 o.nd (de_bin do_add (de_callB (dc_max o) m_max PyProof.Rows.boot_max (da_cons (de_frz (dl_lc [("_law_word_here", 20)] o (di_seq (de_var 10)) (fun _ _ _ _ _ o => (dg_name 20 o.nd)) (fun _ _ _ _ _ o => dts_nil) (fun _ _ _ _ _ o => (de_call o G_wide A_wide (by decide) (da_cons (de_var 3) (da_cons (de_var 5) (da_cons (de_var 20) da_nil))))))) da_nil)) (de_call o G_law_take A_law_take (by decide) (da_cons (de_var 2) (da_cons de_int da_nil))))) (dss_cons (ds_if (dt_not (dt_val (de_call o G_law_lines_right A_law_lines_right (by decide) (da_cons (de_tup (da_cons (de_var 3) (da_cons (de_var 5) da_nil))) (da_cons (de_tup (da_cons (de_var 8) (da_cons (de_var 9) da_nil))) (da_cons (de_tup (da_cons (de_var 11) (da_cons (de_var 12) da_nil))) (da_cons (de_var 14) da_nil))))))) (dss_one (ds_ret de_bl)) dss_nil) (dss_cons (ds_if (dt_w (dw_or (dt_cmp (do_ne o) (de_call o G_parters A_parters (by decide) (da_cons (de_var 8) (da_cons (de_var 9) da_nil))) (de_call o G_parters A_parters (by decide) (da_cons (de_var 3) (da_cons (de_var 5) da_nil)))) (dw_or1 (dt_cmp (do_ne o) (de_call o G_shows_lefts A_shows_lefts (by decide) (da_cons (de_var 8) (da_cons (de_var 9) da_nil))) (de_call o G_shows_lefts A_shows_lefts (by decide) (da_cons (de_var 3) (da_cons (de_var 5) da_nil))))))) (dss_one (ds_ret de_bl)) dss_nil) (dss_cons (ds_par o.calm o.nd (da_cons (de_item (de_var 4) (de_call o G_law_take A_law_take (by decide) (da_cons (de_var 2) (da_cons (de_callB dc_len m_len boot_len (da_cons (de_var 4) da_nil)) da_nil)))) (da_cons (de_bin do_sub (de_call o G_law_take A_law_take (by decide) (da_cons (de_var 2) (da_cons de_int da_nil))) de_int) da_nil))) (dss_cons (ds_set 17 o.nd (de_tup da_nil)) (dss_cons (ds_if (dt_w (dw_and (dt_cmp do_inStr (de_bin do_add (de_var 6) (de_var 15)) (de_var 12)) (dw_and1 (dt_cmp (do_ne o) (de_var 16) (de_call o G_gap_of A_gap_of (by decide) (da_cons (de_var 3) (da_cons (de_var 5) (da_cons (de_var 7) (da_cons (de_var 15) da_nil))))))))) (dss_one (ds_set 17 o.nd (de_tup (da_cons de_int da_nil)))) dss_nil) (dss_cons (ds_set 18 o.nd (de_call o G_with_gap A_with_gap (by decide) (da_cons (de_var 8) (da_cons (de_var 9) (da_cons (de_var 6) (da_cons (de_var 15) (da_cons (de_var 16) da_nil))))))) (dss_one (ds_if (dt_cmp (do_ne o) (de_call o G_moved_lines A_moved_lines (by decide) (da_cons (de_var 8) (da_cons (de_var 9) (da_cons (de_var 18) (da_cons (de_tup (da_cons (de_var 11) (da_cons (de_var 12) (da_cons de_str da_nil)))) da_nil))))) (de_var 17)) (dss_one (ds_ret de_bl)) dss_nil)))))))))))))))))))))) (dss_one (ds_ret de_bl))))
end
theorem all_mk {l : PySem.W.OpenLaw} {w : World} {K : PySem.W.Frag} {h : Heap} {mg : Str → Option Value} {fa : Addr} (X : K.In h) (G : h.Ns mainGlobals mg) (hfa : mg "law" = some (.ref fa))
    {f0 : Addr} {od0 an0 : Option Addr} {sl0 : Array (Option Value)} {oc0 kV0 dc0 pm0 cd0 ct0 : Value}
    {f1 : Addr} {od1 an1 : Option Addr} {sl1 : Array (Option Value)} {oc1 kV1 dc1 pm1 cd1 ct1 : Value}
    {f2 : Addr} {od2 an2 : Option Addr} {sl2 : Array (Option Value)} {oc2 kV2 dc2 pm2 cd2 ct2 : Value}
    {f3 : Addr} {od3 an3 : Option Addr} {sl3 : Array (Option Value)} {oc3 kV3 dc3 pm3 cd3 ct3 : Value}
    {f4 : Addr} {od4 an4 : Option Addr} {sl4 : Array (Option Value)} {oc4 kV4 dc4 pm4 cd4 ct4 : Value}
    {f5 : Addr} {od5 an5 : Option Addr} {sl5 : Array (Option Value)} {oc5 kV5 dc5 pm5 cd5 ct5 : Value}
    {f6 : Addr} {od6 an6 : Option Addr} {sl6 : Array (Option Value)} {oc6 kV6 dc6 pm6 cd6 ct6 : Value}
    {f7 : Addr} {od7 an7 : Option Addr} {sl7 : Array (Option Value)} {oc7 kV7 dc7 pm7 cd7 ct7 : Value}
    {f8 : Addr} {od8 an8 : Option Addr} {sl8 : Array (Option Value)} {oc8 kV8 dc8 pm8 cd8 ct8 : Value}
    {f9 : Addr} {od9 an9 : Option Addr} {sl9 : Array (Option Value)} {oc9 kV9 dc9 pm9 cd9 ct9 : Value}
    {f10 : Addr} {od10 an10 : Option Addr} {sl10 : Array (Option Value)} {oc10 kV10 dc10 pm10 cd10 ct10 : Value}
    {f11 : Addr} {od11 an11 : Option Addr} {sl11 : Array (Option Value)} {oc11 kV11 dc11 pm11 cd11 ct11 : Value}
    {f12 : Addr} {od12 an12 : Option Addr} {sl12 : Array (Option Value)} {oc12 kV12 dc12 pm12 cd12 ct12 : Value}
    {f13 : Addr} {od13 an13 : Option Addr} {sl13 : Array (Option Value)} {oc13 kV13 dc13 pm13 cd13 ct13 : Value}
    {f14 : Addr} {od14 an14 : Option Addr} {sl14 : Array (Option Value)} {oc14 kV14 dc14 pm14 cd14 ct14 : Value}
    {f15 : Addr} {od15 an15 : Option Addr} {sl15 : Array (Option Value)} {oc15 kV15 dc15 pm15 cd15 ct15 : Value}
    {f16 : Addr} {od16 an16 : Option Addr} {sl16 : Array (Option Value)} {oc16 kV16 dc16 pm16 cd16 ct16 : Value}
    {f17 : Addr} {od17 an17 : Option Addr} {sl17 : Array (Option Value)} {oc17 kV17 dc17 pm17 cd17 ct17 : Value}
    {f18 : Addr} {od18 an18 : Option Addr} {sl18 : Array (Option Value)} {oc18 kV18 dc18 pm18 cd18 ct18 : Value}
    {f19 : Addr} {od19 an19 : Option Addr} {sl19 : Array (Option Value)} {oc19 kV19 dc19 pm19 cd19 ct19 : Value}
    {f20 : Addr} {od20 an20 : Option Addr} {sl20 : Array (Option Value)} {oc20 kV20 dc20 pm20 cd20 ct20 : Value}
    {f21 : Addr} {od21 an21 : Option Addr} {sl21 : Array (Option Value)} {oc21 kV21 dc21 pm21 cd21 ct21 : Value}
    {f22 : Addr} {od22 an22 : Option Addr} {sl22 : Array (Option Value)} {oc22 kV22 dc22 pm22 cd22 ct22 : Value}
    {f23 : Addr} {od23 an23 : Option Addr} {sl23 : Array (Option Value)} {oc23 kV23 dc23 pm23 cd23 ct23 : Value}
    {f24 : Addr} {od24 an24 : Option Addr} {sl24 : Array (Option Value)} {oc24 kV24 dc24 pm24 cd24 ct24 : Value}
    {f25 : Addr} {od25 an25 : Option Addr} {sl25 : Array (Option Value)} {oc25 kV25 dc25 pm25 cd25 ct25 : Value}
    {f26 : Addr} {od26 an26 : Option Addr} {sl26 : Array (Option Value)} {oc26 kV26 dc26 pm26 cd26 ct26 : Value}
    {f27 : Addr} {od27 an27 : Option Addr} {sl27 : Array (Option Value)} {oc27 kV27 dc27 pm27 cd27 ct27 : Value}
    {f28 : Addr} {od28 an28 : Option Addr} {sl28 : Array (Option Value)} {oc28 kV28 dc28 pm28 cd28 ct28 : Value}
    {f29 : Addr} {od29 an29 : Option Addr} {sl29 : Array (Option Value)} {oc29 kV29 dc29 pm29 cd29 ct29 : Value}
    {f30 : Addr} {od30 an30 : Option Addr} {sl30 : Array (Option Value)} {oc30 kV30 dc30 pm30 cd30 ct30 : Value}
    {f31 : Addr} {od31 an31 : Option Addr} {sl31 : Array (Option Value)} {oc31 kV31 dc31 pm31 cd31 ct31 : Value}
    {f32 : Addr} {od32 an32 : Option Addr} {sl32 : Array (Option Value)} {oc32 kV32 dc32 pm32 cd32 ct32 : Value}
    {f33 : Addr} {od33 an33 : Option Addr} {sl33 : Array (Option Value)} {oc33 kV33 dc33 pm33 cd33 ct33 : Value}
    {f34 : Addr} {od34 an34 : Option Addr} {sl34 : Array (Option Value)} {oc34 kV34 dc34 pm34 cd34 ct34 : Value}
    {f35 : Addr} {od35 an35 : Option Addr} {sl35 : Array (Option Value)} {oc35 kV35 dc35 pm35 cd35 ct35 : Value}
    {f36 : Addr} {od36 an36 : Option Addr} {sl36 : Array (Option Value)} {oc36 kV36 dc36 pm36 cd36 ct36 : Value}
    {f37 : Addr} {od37 an37 : Option Addr} {sl37 : Array (Option Value)} {oc37 kV37 dc37 pm37 cd37 ct37 : Value}
    {f38 : Addr} {od38 an38 : Option Addr} {sl38 : Array (Option Value)} {oc38 kV38 dc38 pm38 cd38 ct38 : Value}
    {f39 : Addr} {od39 an39 : Option Addr} {sl39 : Array (Option Value)} {oc39 kV39 dc39 pm39 cd39 ct39 : Value}
    {f40 : Addr} {od40 an40 : Option Addr} {sl40 : Array (Option Value)} {oc40 kV40 dc40 pm40 cd40 ct40 : Value}
    {f41 : Addr} {od41 an41 : Option Addr} {sl41 : Array (Option Value)} {oc41 kV41 dc41 pm41 cd41 ct41 : Value}
    {f42 : Addr} {od42 an42 : Option Addr} {sl42 : Array (Option Value)} {oc42 kV42 dc42 pm42 cd42 ct42 : Value}
    {f43 : Addr} {od43 an43 : Option Addr} {sl43 : Array (Option Value)} {oc43 kV43 dc43 pm43 cd43 ct43 : Value}
    {f44 : Addr} {od44 an44 : Option Addr} {sl44 : Array (Option Value)} {oc44 kV44 dc44 pm44 cd44 ct44 : Value}
    {f45 : Addr} {od45 an45 : Option Addr} {sl45 : Array (Option Value)} {oc45 kV45 dc45 pm45 cd45 ct45 : Value}
    {f46 : Addr} {od46 an46 : Option Addr} {sl46 : Array (Option Value)} {oc46 kV46 dc46 pm46 cd46 ct46 : Value}
    {f47 : Addr} {od47 an47 : Option Addr} {sl47 : Array (Option Value)} {oc47 kV47 dc47 pm47 cd47 ct47 : Value}
    {f48 : Addr} {od48 an48 : Option Addr} {sl48 : Array (Option Value)} {oc48 kV48 dc48 pm48 cd48 ct48 : Value}
    {f49 : Addr} {od49 an49 : Option Addr} {sl49 : Array (Option Value)} {oc49 kV49 dc49 pm49 cd49 ct49 : Value}
    {f50 : Addr} {od50 an50 : Option Addr} {sl50 : Array (Option Value)} {oc50 kV50 dc50 pm50 cd50 ct50 : Value}
    {f51 : Addr} {od51 an51 : Option Addr} {sl51 : Array (Option Value)} {oc51 kV51 dc51 pm51 cd51 ct51 : Value}
    {f52 : Addr} {od52 an52 : Option Addr} {sl52 : Array (Option Value)} {oc52 kV52 dc52 pm52 cd52 ct52 : Value}
    {f53 : Addr} {od53 an53 : Option Addr} {sl53 : Array (Option Value)} {oc53 kV53 dc53 pm53 cd53 ct53 : Value}
    {f54 : Addr} {od54 an54 : Option Addr} {sl54 : Array (Option Value)} {oc54 kV54 dc54 pm54 cd54 ct54 : Value}
    {f55 : Addr} {od55 an55 : Option Addr} {sl55 : Array (Option Value)} {oc55 kV55 dc55 pm55 cd55 ct55 : Value}
    {f56 : Addr} {od56 an56 : Option Addr} {sl56 : Array (Option Value)} {oc56 kV56 dc56 pm56 cd56 ct56 : Value}
    {f57 : Addr} {od57 an57 : Option Addr} {sl57 : Array (Option Value)} {oc57 kV57 dc57 pm57 cd57 ct57 : Value}
    {a_NoLetter b_NoLetter n_NoLetter m_NoLetter : Addr} {cd_NoLetter cb_NoLetter : ClassData} {d1_NoLetter d2_NoLetter d3_NoLetter d4_NoLetter : Option Addr} {sl_NoLetter sb_NoLetter sn_NoLetter sm_NoLetter : Array (Option Value)} {c3_NoLetter c4_NoLetter : Value} {es_NoLetter em_NoLetter : Array DictEntry} {ep_NoLetter eq_NoLetter : Nat} {s1_NoLetter s2_NoLetter s3_NoLetter s4_NoLetter s6_NoLetter : Option Value}
    {a_NoLine b_NoLine n_NoLine m_NoLine : Addr} {cd_NoLine cb_NoLine : ClassData} {d1_NoLine d2_NoLine d3_NoLine d4_NoLine : Option Addr} {sl_NoLine sb_NoLine sn_NoLine sm_NoLine : Array (Option Value)} {c3_NoLine c4_NoLine : Value} {es_NoLine em_NoLine : Array DictEntry} {ep_NoLine eq_NoLine : Nat} {s1_NoLine s2_NoLine s3_NoLine s4_NoLine s6_NoLine : Option Value}
    {a_NoNumber b_NoNumber n_NoNumber m_NoNumber : Addr} {cd_NoNumber cb_NoNumber : ClassData} {d1_NoNumber d2_NoNumber d3_NoNumber d4_NoNumber : Option Addr} {sl_NoNumber sb_NoNumber sn_NoNumber sm_NoNumber : Array (Option Value)} {c3_NoNumber c4_NoNumber : Value} {es_NoNumber em_NoNumber : Array DictEntry} {ep_NoNumber eq_NoNumber : Nat} {s1_NoNumber s2_NoNumber s3_NoNumber s4_NoNumber s6_NoNumber : Option Value}
    {a_TooMany b_TooMany n_TooMany m_TooMany : Addr} {cd_TooMany cb_TooMany : ClassData} {d1_TooMany d2_TooMany d3_TooMany d4_TooMany : Option Addr} {sl_TooMany sb_TooMany sn_TooMany sm_TooMany : Array (Option Value)} {c3_TooMany c4_TooMany : Value} {es_TooMany em_TooMany : Array DictEntry} {ep_TooMany eq_TooMany : Nat} {s1_TooMany s2_TooMany s3_TooMany s4_TooMany s6_TooMany : Option Value}
    {a_NoGap b_NoGap n_NoGap m_NoGap : Addr} {cd_NoGap cb_NoGap : ClassData} {d1_NoGap d2_NoGap d3_NoGap d4_NoGap : Option Addr} {sl_NoGap sb_NoGap sn_NoGap sm_NoGap : Array (Option Value)} {c3_NoGap c4_NoGap : Value} {es_NoGap em_NoGap : Array DictEntry} {ep_NoGap eq_NoGap : Nat} {s1_NoGap s2_NoGap s3_NoGap s4_NoGap s6_NoGap : Option Value}
    {a_TooWide b_TooWide n_TooWide m_TooWide : Addr} {cd_TooWide cb_TooWide : ClassData} {d1_TooWide d2_TooWide d3_TooWide d4_TooWide : Option Addr} {sl_TooWide sb_TooWide sn_TooWide sm_TooWide : Array (Option Value)} {c3_TooWide c4_TooWide : Value} {es_TooWide em_TooWide : Array DictEntry} {ep_TooWide eq_TooWide : Nat} {s1_TooWide s2_TooWide s3_TooWide s4_TooWide s6_TooWide : Option Value}
    {t_LETTERS : Tok}
    {t_FAR : Tok}
    {t_MOST_LETTERS : Tok}
    {t_MOST_WIDE : Tok}
    (a0 : PySem.W.nsIn K mainGlobals "is_from_to" = some (some (.ref f0))) (l0 : K.lookup f0 = some ⟨oc0, od0, .func (PySem.W.fnOf "is_from_to" "is_from_to" (defArgs s_is_from_to) (defBody s_is_from_to) (defScope s_is_from_to) .none kV0 dc0 pm0 an0 cd0 ct0), sl0⟩) (c0 : PySem.W.codeIn K cd0 "is_from_to" = true) (k0 : PySem.W.keepIn K (.ref f0) = true)
    (a1 : PySem.W.nsIn K mainGlobals "is_letter" = some (some (.ref f1))) (l1 : K.lookup f1 = some ⟨oc1, od1, .func (PySem.W.fnOf "is_letter" "is_letter" (defArgs s_is_letter) (defBody s_is_letter) (defScope s_is_letter) .none kV1 dc1 pm1 an1 cd1 ct1), sl1⟩) (c1 : PySem.W.codeIn K cd1 "is_letter" = true) (k1 : PySem.W.keepIn K (.ref f1) = true)
    (a2 : PySem.W.nsIn K mainGlobals "is_gap" = some (some (.ref f2))) (l2 : K.lookup f2 = some ⟨oc2, od2, .func (PySem.W.fnOf "is_gap" "is_gap" (defArgs s_is_gap) (defBody s_is_gap) (defScope s_is_gap) .none kV2 dc2 pm2 an2 cd2 ct2), sl2⟩) (c2 : PySem.W.codeIn K cd2 "is_gap" = true) (k2 : PySem.W.keepIn K (.ref f2) = true)
    (a3 : PySem.W.nsIn K mainGlobals "letters_of" = some (some (.ref f3))) (l3 : K.lookup f3 = some ⟨oc3, od3, .func (PySem.W.fnOf "letters_of" "letters_of" (defArgs s_letters_of) (defBody s_letters_of) (defScope s_letters_of) .none kV3 dc3 pm3 an3 cd3 ct3), sl3⟩) (c3 : PySem.W.codeIn K cd3 "letters_of" = true) (k3 : PySem.W.keepIn K (.ref f3) = true)
    (a4 : PySem.W.nsIn K mainGlobals "place_of" = some (some (.ref f4))) (l4 : K.lookup f4 = some ⟨oc4, od4, .func (PySem.W.fnOf "place_of" "place_of" (defArgs s_place_of) (defBody s_place_of) (defScope s_place_of) .none kV4 dc4 pm4 an4 cd4 ct4), sl4⟩) (c4 : PySem.W.codeIn K cd4 "place_of" = true) (k4 : PySem.W.keepIn K (.ref f4) = true)
    (a5 : PySem.W.nsIn K mainGlobals "need_letter" = some (some (.ref f5))) (l5 : K.lookup f5 = some ⟨oc5, od5, .func (PySem.W.fnOf "need_letter" "need_letter" (defArgs s_need_letter) (defBody s_need_letter) (defScope s_need_letter) .none kV5 dc5 pm5 an5 cd5 ct5), sl5⟩) (c5 : PySem.W.codeIn K cd5 "need_letter" = true) (k5 : PySem.W.keepIn K (.ref f5) = true)
    (a6 : PySem.W.nsIn K mainGlobals "gap_in" = some (some (.ref f6))) (l6 : K.lookup f6 = some ⟨oc6, od6, .func (PySem.W.fnOf "gap_in" "gap_in" (defArgs s_gap_in) (defBody s_gap_in) (defScope s_gap_in) .none kV6 dc6 pm6 an6 cd6 ct6), sl6⟩) (c6 : PySem.W.codeIn K cd6 "gap_in" = true) (k6 : PySem.W.keepIn K (.ref f6) = true)
    (a7 : PySem.W.nsIn K mainGlobals "gap_of" = some (some (.ref f7))) (l7 : K.lookup f7 = some ⟨oc7, od7, .func (PySem.W.fnOf "gap_of" "gap_of" (defArgs s_gap_of) (defBody s_gap_of) (defScope s_gap_of) .none kV7 dc7 pm7 an7 cd7 ct7), sl7⟩) (c7 : PySem.W.codeIn K cd7 "gap_of" = true) (k7 : PySem.W.keepIn K (.ref f7) = true)
    (a8 : PySem.W.nsIn K mainGlobals "rows_of" = some (some (.ref f8))) (l8 : K.lookup f8 = some ⟨oc8, od8, .func (PySem.W.fnOf "rows_of" "rows_of" (defArgs s_rows_of) (defBody s_rows_of) (defScope s_rows_of) .none kV8 dc8 pm8 an8 cd8 ct8), sl8⟩) (c8 : PySem.W.codeIn K cd8 "rows_of" = true) (k8 : PySem.W.keepIn K (.ref f8) = true)
    (a9 : PySem.W.nsIn K mainGlobals "from_rows" = some (some (.ref f9))) (l9 : K.lookup f9 = some ⟨oc9, od9, .func (PySem.W.fnOf "from_rows" "from_rows" (defArgs s_from_rows) (defBody s_from_rows) (defScope s_from_rows) .none kV9 dc9 pm9 an9 cd9 ct9), sl9⟩) (c9 : PySem.W.codeIn K cd9 "from_rows" = true) (k9 : PySem.W.keepIn K (.ref f9) = true)
    (a10 : PySem.W.nsIn K mainGlobals "is_sign" = some (some (.ref f10))) (l10 : K.lookup f10 = some ⟨oc10, od10, .func (PySem.W.fnOf "is_sign" "is_sign" (defArgs s_is_sign) (defBody s_is_sign) (defScope s_is_sign) .none kV10 dc10 pm10 an10 cd10 ct10), sl10⟩) (c10 : PySem.W.codeIn K cd10 "is_sign" = true) (k10 : PySem.W.keepIn K (.ref f10) = true)
    (a11 : PySem.W.nsIn K mainGlobals "is_text" = some (some (.ref f11))) (l11 : K.lookup f11 = some ⟨oc11, od11, .func (PySem.W.fnOf "is_text" "is_text" (defArgs s_is_text) (defBody s_is_text) (defScope s_is_text) .none kV11 dc11 pm11 an11 cd11 ct11), sl11⟩) (c11 : PySem.W.codeIn K cd11 "is_text" = true) (k11 : PySem.W.keepIn K (.ref f11) = true)
    (a12 : PySem.W.nsIn K mainGlobals "need_text" = some (some (.ref f12))) (l12 : K.lookup f12 = some ⟨oc12, od12, .func (PySem.W.fnOf "need_text" "need_text" (defArgs s_need_text) (defBody s_need_text) (defScope s_need_text) .none kV12 dc12 pm12 an12 cd12 ct12), sl12⟩) (c12 : PySem.W.codeIn K cd12 "need_text" = true) (k12 : PySem.W.keepIn K (.ref f12) = true)
    (a13 : PySem.W.nsIn K mainGlobals "sign_width" = some (some (.ref f13))) (l13 : K.lookup f13 = some ⟨oc13, od13, .func (PySem.W.fnOf "sign_width" "sign_width" (defArgs s_sign_width) (defBody s_sign_width) (defScope s_sign_width) .none kV13 dc13 pm13 an13 cd13 ct13), sl13⟩) (c13 : PySem.W.codeIn K cd13 "sign_width" = true) (k13 : PySem.W.keepIn K (.ref f13) = true)
    (a14 : PySem.W.nsIn K mainGlobals "between" = some (some (.ref f14))) (l14 : K.lookup f14 = some ⟨oc14, od14, .func (PySem.W.fnOf "between" "between" (defArgs s_between) (defBody s_between) (defScope s_between) .none kV14 dc14 pm14 an14 cd14 ct14), sl14⟩) (c14 : PySem.W.codeIn K cd14 "between" = true) (k14 : PySem.W.keepIn K (.ref f14) = true)
    (a15 : PySem.W.nsIn K mainGlobals "begins_in" = some (some (.ref f15))) (l15 : K.lookup f15 = some ⟨oc15, od15, .func (PySem.W.fnOf "begins_in" "begins_in" (defArgs s_begins_in) (defBody s_begins_in) (defScope s_begins_in) .none kV15 dc15 pm15 an15 cd15 ct15), sl15⟩) (c15 : PySem.W.codeIn K cd15 "begins_in" = true) (k15 : PySem.W.keepIn K (.ref f15) = true)
    (a16 : PySem.W.nsIn K mainGlobals "begins" = some (some (.ref f16))) (l16 : K.lookup f16 = some ⟨oc16, od16, .func (PySem.W.fnOf "begins" "begins" (defArgs s_begins) (defBody s_begins) (defScope s_begins) .none kV16 dc16 pm16 an16 cd16 ct16), sl16⟩) (c16 : PySem.W.codeIn K cd16 "begins" = true) (k16 : PySem.W.keepIn K (.ref f16) = true)
    (a17 : PySem.W.nsIn K mainGlobals "wide_in" = some (some (.ref f17))) (l17 : K.lookup f17 = some ⟨oc17, od17, .func (PySem.W.fnOf "wide_in" "wide_in" (defArgs s_wide_in) (defBody s_wide_in) (defScope s_wide_in) .none kV17 dc17 pm17 an17 cd17 ct17), sl17⟩) (c17 : PySem.W.codeIn K cd17 "wide_in" = true) (k17 : PySem.W.keepIn K (.ref f17) = true)
    (a18 : PySem.W.nsIn K mainGlobals "wide" = some (some (.ref f18))) (l18 : K.lookup f18 = some ⟨oc18, od18, .func (PySem.W.fnOf "wide" "wide" (defArgs s_wide) (defBody s_wide) (defScope s_wide) .none kV18 dc18 pm18 an18 cd18 ct18), sl18⟩) (c18 : PySem.W.codeIn K cd18 "wide" = true) (k18 : PySem.W.keepIn K (.ref f18) = true)
    (a19 : PySem.W.nsIn K mainGlobals "need_whole" = some (some (.ref f19))) (l19 : K.lookup f19 = some ⟨oc19, od19, .func (PySem.W.fnOf "need_whole" "need_whole" (defArgs s_need_whole) (defBody s_need_whole) (defScope s_need_whole) .none kV19 dc19 pm19 an19 cd19 ct19), sl19⟩) (c19 : PySem.W.codeIn K cd19 "need_whole" = true) (k19 : PySem.W.keepIn K (.ref f19) = true)
    (a20 : PySem.W.nsIn K mainGlobals "sign_at" = some (some (.ref f20))) (l20 : K.lookup f20 = some ⟨oc20, od20, .func (PySem.W.fnOf "sign_at" "sign_at" (defArgs s_sign_at) (defBody s_sign_at) (defScope s_sign_at) .none kV20 dc20 pm20 an20 cd20 ct20), sl20⟩) (c20 : PySem.W.codeIn K cd20 "sign_at" = true) (k20 : PySem.W.keepIn K (.ref f20) = true)
    (a21 : PySem.W.nsIn K mainGlobals "need_fresh" = some (some (.ref f21))) (l21 : K.lookup f21 = some ⟨oc21, od21, .func (PySem.W.fnOf "need_fresh" "need_fresh" (defArgs s_need_fresh) (defBody s_need_fresh) (defScope s_need_fresh) .none kV21 dc21 pm21 an21 cd21 ct21), sl21⟩) (c21 : PySem.W.codeIn K cd21 "need_fresh" = true) (k21 : PySem.W.keepIn K (.ref f21) = true)
    (a22 : PySem.W.nsIn K mainGlobals "need_room" = some (some (.ref f22))) (l22 : K.lookup f22 = some ⟨oc22, od22, .func (PySem.W.fnOf "need_room" "need_room" (defArgs s_need_room) (defBody s_need_room) (defScope s_need_room) .none kV22 dc22 pm22 an22 cd22 ct22), sl22⟩) (c22 : PySem.W.codeIn K cd22 "need_room" = true) (k22 : PySem.W.keepIn K (.ref f22) = true)
    (a23 : PySem.W.nsIn K mainGlobals "with_like" = some (some (.ref f23))) (l23 : K.lookup f23 = some ⟨oc23, od23, .func (PySem.W.fnOf "with_like" "with_like" (defArgs s_with_like) (defBody s_with_like) (defScope s_with_like) .none kV23 dc23 pm23 an23 cd23 ct23), sl23⟩) (c23 : PySem.W.codeIn K cd23 "with_like" = true) (k23 : PySem.W.keepIn K (.ref f23) = true)
    (a24 : PySem.W.nsIn K mainGlobals "with_gap" = some (some (.ref f24))) (l24 : K.lookup f24 = some ⟨oc24, od24, .func (PySem.W.fnOf "with_gap" "with_gap" (defArgs s_with_gap) (defBody s_with_gap) (defScope s_with_gap) .none kV24 dc24 pm24 an24 cd24 ct24), sl24⟩) (c24 : PySem.W.codeIn K cd24 "with_gap" = true) (k24 : PySem.W.keepIn K (.ref f24) = true)
    (a25 : PySem.W.nsIn K mainGlobals "is_moved" = some (some (.ref f25))) (l25 : K.lookup f25 = some ⟨oc25, od25, .func (PySem.W.fnOf "is_moved" "is_moved" (defArgs s_is_moved) (defBody s_is_moved) (defScope s_is_moved) .none kV25 dc25 pm25 an25 cd25 ct25), sl25⟩) (c25 : PySem.W.codeIn K cd25 "is_moved" = true) (k25 : PySem.W.keepIn K (.ref f25) = true)
    (a26 : PySem.W.nsIn K mainGlobals "moved_lines" = some (some (.ref f26))) (l26 : K.lookup f26 = some ⟨oc26, od26, .func (PySem.W.fnOf "moved_lines" "moved_lines" (defArgs s_moved_lines) (defBody s_moved_lines) (defScope s_moved_lines) .none kV26 dc26 pm26 an26 cd26 ct26), sl26⟩) (c26 : PySem.W.codeIn K cd26 "moved_lines" = true) (k26 : PySem.W.keepIn K (.ref f26) = true)
    (a27 : PySem.W.nsIn K mainGlobals "words_of" = some (some (.ref f27))) (l27 : K.lookup f27 = some ⟨oc27, od27, .func (PySem.W.fnOf "words_of" "words_of" (defArgs s_words_of) (defBody s_words_of) (defScope s_words_of) .none kV27 dc27 pm27 an27 cd27 ct27), sl27⟩) (c27 : PySem.W.codeIn K cd27 "words_of" = true) (k27 : PySem.W.keepIn K (.ref f27) = true)
    (a28 : PySem.W.nsIn K mainGlobals "line_of" = some (some (.ref f28))) (l28 : K.lookup f28 = some ⟨oc28, od28, .func (PySem.W.fnOf "line_of" "line_of" (defArgs s_line_of) (defBody s_line_of) (defScope s_line_of) .none kV28 dc28 pm28 an28 cd28 ct28), sl28⟩) (c28 : PySem.W.codeIn K cd28 "line_of" = true) (k28 : PySem.W.keepIn K (.ref f28) = true)
    (a29 : PySem.W.nsIn K mainGlobals "room_of" = some (some (.ref f29))) (l29 : K.lookup f29 = some ⟨oc29, od29, .func (PySem.W.fnOf "room_of" "room_of" (defArgs s_room_of) (defBody s_room_of) (defScope s_room_of) .none kV29 dc29 pm29 an29 cd29 ct29), sl29⟩) (c29 : PySem.W.codeIn K cd29 "room_of" = true) (k29 : PySem.W.keepIn K (.ref f29) = true)
    (a30 : PySem.W.nsIn K mainGlobals "need_wide" = some (some (.ref f30))) (l30 : K.lookup f30 = some ⟨oc30, od30, .func (PySem.W.fnOf "need_wide" "need_wide" (defArgs s_need_wide) (defBody s_need_wide) (defScope s_need_wide) .none kV30 dc30 pm30 an30 cd30 ct30), sl30⟩) (c30 : PySem.W.codeIn K cd30 "need_wide" = true) (k30 : PySem.W.keepIn K (.ref f30) = true)
    (a31 : PySem.W.nsIn K mainGlobals "need_words" = some (some (.ref f31))) (l31 : K.lookup f31 = some ⟨oc31, od31, .func (PySem.W.fnOf "need_words" "need_words" (defArgs s_need_words) (defBody s_need_words) (defScope s_need_words) .none kV31 dc31 pm31 an31 cd31 ct31), sl31⟩) (c31 : PySem.W.codeIn K cd31 "need_words" = true) (k31 : PySem.W.keepIn K (.ref f31) = true)
    (a32 : PySem.W.nsIn K mainGlobals "filled" = some (some (.ref f32))) (l32 : K.lookup f32 = some ⟨oc32, od32, .func (PySem.W.fnOf "filled" "filled" (defArgs s_filled) (defBody s_filled) (defScope s_filled) .none kV32 dc32 pm32 an32 cd32 ct32), sl32⟩) (c32 : PySem.W.codeIn K cd32 "filled" = true) (k32 : PySem.W.keepIn K (.ref f32) = true)
    (a33 : PySem.W.nsIn K mainGlobals "cost_in" = some (some (.ref f33))) (l33 : K.lookup f33 = some ⟨oc33, od33, .func (PySem.W.fnOf "cost_in" "cost_in" (defArgs s_cost_in) (defBody s_cost_in) (defScope s_cost_in) .none kV33 dc33 pm33 an33 cd33 ct33), sl33⟩) (c33 : PySem.W.codeIn K cd33 "cost_in" = true) (k33 : PySem.W.keepIn K (.ref f33) = true)
    (a34 : PySem.W.nsIn K mainGlobals "prices_of" = some (some (.ref f34))) (l34 : K.lookup f34 = some ⟨oc34, od34, .func (PySem.W.fnOf "prices_of" "prices_of" (defArgs s_prices_of) (defBody s_prices_of) (defScope s_prices_of) .none kV34 dc34 pm34 an34 cd34 ct34), sl34⟩) (c34 : PySem.W.codeIn K cd34 "prices_of" = true) (k34 : PySem.W.keepIn K (.ref f34) = true)
    (a35 : PySem.W.nsIn K mainGlobals "evened" = some (some (.ref f35))) (l35 : K.lookup f35 = some ⟨oc35, od35, .func (PySem.W.fnOf "evened" "evened" (defArgs s_evened) (defBody s_evened) (defScope s_evened) .none kV35 dc35 pm35 an35 cd35 ct35), sl35⟩) (c35 : PySem.W.codeIn K cd35 "evened" = true) (k35 : PySem.W.keepIn K (.ref f35) = true)
    (a36 : PySem.W.nsIn K mainGlobals "shows_even" = some (some (.ref f36))) (l36 : K.lookup f36 = some ⟨oc36, od36, .func (PySem.W.fnOf "shows_even" "shows_even" (defArgs s_shows_even) (defBody s_shows_even) (defScope s_shows_even) .none kV36 dc36 pm36 an36 cd36 ct36), sl36⟩) (c36 : PySem.W.codeIn K cd36 "shows_even" = true) (k36 : PySem.W.keepIn K (.ref f36) = true)
    (a37 : PySem.W.nsIn K mainGlobals "spread" = some (some (.ref f37))) (l37 : K.lookup f37 = some ⟨oc37, od37, .func (PySem.W.fnOf "spread" "spread" (defArgs s_spread) (defBody s_spread) (defScope s_spread) .none kV37 dc37 pm37 an37 cd37 ct37), sl37⟩) (c37 : PySem.W.codeIn K cd37 "spread" = true) (k37 : PySem.W.keepIn K (.ref f37) = true)
    (a38 : PySem.W.nsIn K mainGlobals "grouped" = some (some (.ref f38))) (l38 : K.lookup f38 = some ⟨oc38, od38, .func (PySem.W.fnOf "grouped" "grouped" (defArgs s_grouped) (defBody s_grouped) (defScope s_grouped) .none kV38 dc38 pm38 an38 cd38 ct38), sl38⟩) (c38 : PySem.W.codeIn K cd38 "grouped" = true) (k38 : PySem.W.keepIn K (.ref f38) = true)
    (a39 : PySem.W.nsIn K mainGlobals "left_parting" = some (some (.ref f39))) (l39 : K.lookup f39 = some ⟨oc39, od39, .func (PySem.W.fnOf "left_parting" "left_parting" (defArgs s_left_parting) (defBody s_left_parting) (defScope s_left_parting) .none kV39 dc39 pm39 an39 cd39 ct39), sl39⟩) (c39 : PySem.W.codeIn K cd39 "left_parting" = true) (k39 : PySem.W.keepIn K (.ref f39) = true)
    (a40 : PySem.W.nsIn K mainGlobals "parting_letter" = some (some (.ref f40))) (l40 : K.lookup f40 = some ⟨oc40, od40, .func (PySem.W.fnOf "parting_letter" "parting_letter" (defArgs s_parting_letter) (defBody s_parting_letter) (defScope s_parting_letter) .none kV40 dc40 pm40 an40 cd40 ct40), sl40⟩) (c40 : PySem.W.codeIn K cd40 "parting_letter" = true) (k40 : PySem.W.keepIn K (.ref f40) = true)
    (a41 : PySem.W.nsIn K mainGlobals "twos" = some (some (.ref f41))) (l41 : K.lookup f41 = some ⟨oc41, od41, .func (PySem.W.fnOf "twos" "twos" (defArgs s_twos) (defBody s_twos) (defScope s_twos) .none kV41 dc41 pm41 an41 cd41 ct41), sl41⟩) (c41 : PySem.W.codeIn K cd41 "twos" = true) (k41 : PySem.W.keepIn K (.ref f41) = true)
    (a42 : PySem.W.nsIn K mainGlobals "shows_lefts" = some (some (.ref f42))) (l42 : K.lookup f42 = some ⟨oc42, od42, .func (PySem.W.fnOf "shows_lefts" "shows_lefts" (defArgs s_shows_lefts) (defBody s_shows_lefts) (defScope s_shows_lefts) .none kV42 dc42 pm42 an42 cd42 ct42), sl42⟩) (c42 : PySem.W.codeIn K cd42 "shows_lefts" = true) (k42 : PySem.W.keepIn K (.ref f42) = true)
    (a43 : PySem.W.nsIn K mainGlobals "choices" = some (some (.ref f43))) (l43 : K.lookup f43 = some ⟨oc43, od43, .func (PySem.W.fnOf "choices" "choices" (defArgs s_choices) (defBody s_choices) (defScope s_choices) .none kV43 dc43 pm43 an43 cd43 ct43), sl43⟩) (c43 : PySem.W.codeIn K cd43 "choices" = true) (k43 : PySem.W.keepIn K (.ref f43) = true)
    (a44 : PySem.W.nsIn K mainGlobals "parters" = some (some (.ref f44))) (l44 : K.lookup f44 = some ⟨oc44, od44, .func (PySem.W.fnOf "parters" "parters" (defArgs s_parters) (defBody s_parters) (defScope s_parters) .none kV44 dc44 pm44 an44 cd44 ct44), sl44⟩) (c44 : PySem.W.codeIn K cd44 "parters" = true) (k44 : PySem.W.keepIn K (.ref f44) = true)
    (a45 : PySem.W.nsIn K mainGlobals "_law_box" = some (some (.ref f45))) (l45 : K.lookup f45 = some ⟨oc45, od45, .func (PySem.W.fnOf "_law_box" "_law_box" (defArgs s_law_box) (defBody s_law_box) (defScope s_law_box) .none kV45 dc45 pm45 an45 cd45 ct45), sl45⟩) (c45 : PySem.W.codeIn K cd45 "_law_box" = true) (k45 : PySem.W.keepIn K (.ref f45) = true)
    (a46 : PySem.W.nsIn K mainGlobals "_law_take" = some (some (.ref f46))) (l46 : K.lookup f46 = some ⟨oc46, od46, .func (PySem.W.fnOf "_law_take" "_law_take" (defArgs s_law_take) (defBody s_law_take) (defScope s_law_take) .none kV46 dc46 pm46 an46 cd46 ct46), sl46⟩) (c46 : PySem.W.codeIn K cd46 "_law_take" = true) (k46 : PySem.W.keepIn K (.ref f46) = true)
    (a47 : PySem.W.nsIn K mainGlobals "_law_face" = some (some (.ref f47))) (l47 : K.lookup f47 = some ⟨oc47, od47, .func (PySem.W.fnOf "_law_face" "_law_face" (defArgs s_law_face) (defBody s_law_face) (defScope s_law_face) .none kV47 dc47 pm47 an47 cd47 ct47), sl47⟩) (c47 : PySem.W.codeIn K cd47 "_law_face" = true) (k47 : PySem.W.keepIn K (.ref f47) = true)
    (a48 : PySem.W.nsIn K mainGlobals "_law_letters" = some (some (.ref f48))) (l48 : K.lookup f48 = some ⟨oc48, od48, .func (PySem.W.fnOf "_law_letters" "_law_letters" (defArgs s_law_letters) (defBody s_law_letters) (defScope s_law_letters) .none kV48 dc48 pm48 an48 cd48 ct48), sl48⟩) (c48 : PySem.W.codeIn K cd48 "_law_letters" = true) (k48 : PySem.W.keepIn K (.ref f48) = true)
    (a49 : PySem.W.nsIn K mainGlobals "_law_rows" = some (some (.ref f49))) (l49 : K.lookup f49 = some ⟨oc49, od49, .func (PySem.W.fnOf "_law_rows" "_law_rows" (defArgs s_law_rows) (defBody s_law_rows) (defScope s_law_rows) .none kV49 dc49 pm49 an49 cd49 ct49), sl49⟩) (c49 : PySem.W.codeIn K cd49 "_law_rows" = true) (k49 : PySem.W.keepIn K (.ref f49) = true)
    (a50 : PySem.W.nsIn K mainGlobals "_law_list" = some (some (.ref f50))) (l50 : K.lookup f50 = some ⟨oc50, od50, .func (PySem.W.fnOf "_law_list" "_law_list" (defArgs s_law_list) (defBody s_law_list) (defScope s_law_list) .none kV50 dc50 pm50 an50 cd50 ct50), sl50⟩) (c50 : PySem.W.codeIn K cd50 "_law_list" = true) (k50 : PySem.W.keepIn K (.ref f50) = true)
    (a51 : PySem.W.nsIn K mainGlobals "_law_pairs" = some (some (.ref f51))) (l51 : K.lookup f51 = some ⟨oc51, od51, .func (PySem.W.fnOf "_law_pairs" "_law_pairs" (defArgs s_law_pairs) (defBody s_law_pairs) (defScope s_law_pairs) .none kV51 dc51 pm51 an51 cd51 ct51), sl51⟩) (c51 : PySem.W.codeIn K cd51 "_law_pairs" = true) (k51 : PySem.W.keepIn K (.ref f51) = true)
    (a52 : PySem.W.nsIn K mainGlobals "_law_fresh" = some (some (.ref f52))) (l52 : K.lookup f52 = some ⟨oc52, od52, .func (PySem.W.fnOf "_law_fresh" "_law_fresh" (defArgs s_law_fresh) (defBody s_law_fresh) (defScope s_law_fresh) .none kV52 dc52 pm52 an52 cd52 ct52), sl52⟩) (c52 : PySem.W.codeIn K cd52 "_law_fresh" = true) (k52 : PySem.W.keepIn K (.ref f52) = true)
    (a53 : PySem.W.nsIn K mainGlobals "_law_word" = some (some (.ref f53))) (l53 : K.lookup f53 = some ⟨oc53, od53, .func (PySem.W.fnOf "_law_word" "_law_word" (defArgs s_law_word) (defBody s_law_word) (defScope s_law_word) .none kV53 dc53 pm53 an53 cd53 ct53), sl53⟩) (c53 : PySem.W.codeIn K cd53 "_law_word" = true) (k53 : PySem.W.keepIn K (.ref f53) = true)
    (a54 : PySem.W.nsIn K mainGlobals "_law_swapped" = some (some (.ref f54))) (l54 : K.lookup f54 = some ⟨oc54, od54, .func (PySem.W.fnOf "_law_swapped" "_law_swapped" (defArgs s_law_swapped) (defBody s_law_swapped) (defScope s_law_swapped) .none kV54 dc54 pm54 an54 cd54 ct54), sl54⟩) (c54 : PySem.W.codeIn K cd54 "_law_swapped" = true) (k54 : PySem.W.keepIn K (.ref f54) = true)
    (a55 : PySem.W.nsIn K mainGlobals "_law_same_lines" = some (some (.ref f55))) (l55 : K.lookup f55 = some ⟨oc55, od55, .func (PySem.W.fnOf "_law_same_lines" "_law_same_lines" (defArgs s_law_same_lines) (defBody s_law_same_lines) (defScope s_law_same_lines) .none kV55 dc55 pm55 an55 cd55 ct55), sl55⟩) (c55 : PySem.W.codeIn K cd55 "_law_same_lines" = true) (k55 : PySem.W.keepIn K (.ref f55) = true)
    (a56 : PySem.W.nsIn K mainGlobals "_law_lines_right" = some (some (.ref f56))) (l56 : K.lookup f56 = some ⟨oc56, od56, .func (PySem.W.fnOf "_law_lines_right" "_law_lines_right" (defArgs s_law_lines_right) (defBody s_law_lines_right) (defScope s_law_lines_right) .none kV56 dc56 pm56 an56 cd56 ct56), sl56⟩) (c56 : PySem.W.codeIn K cd56 "_law_lines_right" = true) (k56 : PySem.W.keepIn K (.ref f56) = true)
    (a57 : PySem.W.nsIn K mainGlobals "law" = some (some (.ref f57))) (l57 : K.lookup f57 = some ⟨oc57, od57, .func (PySem.W.fnOf "law" "law" (defArgs s_law) (defBody s_law) (defScope s_law) .none kV57 dc57 pm57 an57 cd57 ct57), sl57⟩) (c57 : PySem.W.codeIn K cd57 "law" = true) (k57 : PySem.W.keepIn K (.ref f57) = true)
    (xa_NoLetter : PySem.W.nsIn K mainGlobals "NoLetter" = some (some (.ref a_NoLetter))) (h1_NoLetter : K.lookup a_NoLetter = some ⟨.type "type", d1_NoLetter, .cls cd_NoLetter, sl_NoLetter⟩) (q1_NoLetter : cd_NoLetter.mro = .ref a_NoLetter :: .ref b_NoLetter :: veTail) (q2_NoLetter : sl_NoLetter.toList = [s1_NoLetter, s2_NoLetter, s3_NoLetter, s4_NoLetter, some (.builtin "ValueError.__new__"), s6_NoLetter]) (q3_NoLetter : cd_NoLetter.hasDel = false) (q4_NoLetter : cd_NoLetter.ns = n_NoLetter) (h2_NoLetter : K.lookup n_NoLetter = some ⟨c3_NoLetter, d3_NoLetter, .dict es_NoLetter ep_NoLetter, sn_NoLetter⟩) (q5_NoLetter : allStr es_NoLetter = true) (n1_NoLetter : PySem.W.nsIn K n_NoLetter "__init__" = some none) (h3_NoLetter : K.lookup b_NoLetter = some ⟨.type "type", d2_NoLetter, .cls cb_NoLetter, sb_NoLetter⟩) (q6_NoLetter : cb_NoLetter.ns = m_NoLetter) (h4_NoLetter : K.lookup m_NoLetter = some ⟨c4_NoLetter, d4_NoLetter, .dict em_NoLetter eq_NoLetter, sm_NoLetter⟩) (q7_NoLetter : allStr em_NoLetter = true) (n2_NoLetter : PySem.W.nsIn K m_NoLetter "__init__" = some none) (xk_NoLetter : PySem.W.keepIn K (.ref a_NoLetter) = true) (xb_NoLetter : PySem.W.subIn K (.ref a_NoLetter) (.type "BaseException") = some true) (xt_NoLetter : PySem.W.typeIn K (.ref a_NoLetter) = some (.type "type"))
    (xa_NoLine : PySem.W.nsIn K mainGlobals "NoLine" = some (some (.ref a_NoLine))) (h1_NoLine : K.lookup a_NoLine = some ⟨.type "type", d1_NoLine, .cls cd_NoLine, sl_NoLine⟩) (q1_NoLine : cd_NoLine.mro = .ref a_NoLine :: .ref b_NoLine :: veTail) (q2_NoLine : sl_NoLine.toList = [s1_NoLine, s2_NoLine, s3_NoLine, s4_NoLine, some (.builtin "ValueError.__new__"), s6_NoLine]) (q3_NoLine : cd_NoLine.hasDel = false) (q4_NoLine : cd_NoLine.ns = n_NoLine) (h2_NoLine : K.lookup n_NoLine = some ⟨c3_NoLine, d3_NoLine, .dict es_NoLine ep_NoLine, sn_NoLine⟩) (q5_NoLine : allStr es_NoLine = true) (n1_NoLine : PySem.W.nsIn K n_NoLine "__init__" = some none) (h3_NoLine : K.lookup b_NoLine = some ⟨.type "type", d2_NoLine, .cls cb_NoLine, sb_NoLine⟩) (q6_NoLine : cb_NoLine.ns = m_NoLine) (h4_NoLine : K.lookup m_NoLine = some ⟨c4_NoLine, d4_NoLine, .dict em_NoLine eq_NoLine, sm_NoLine⟩) (q7_NoLine : allStr em_NoLine = true) (n2_NoLine : PySem.W.nsIn K m_NoLine "__init__" = some none) (xk_NoLine : PySem.W.keepIn K (.ref a_NoLine) = true) (xb_NoLine : PySem.W.subIn K (.ref a_NoLine) (.type "BaseException") = some true) (xt_NoLine : PySem.W.typeIn K (.ref a_NoLine) = some (.type "type"))
    (xa_NoNumber : PySem.W.nsIn K mainGlobals "NoNumber" = some (some (.ref a_NoNumber))) (h1_NoNumber : K.lookup a_NoNumber = some ⟨.type "type", d1_NoNumber, .cls cd_NoNumber, sl_NoNumber⟩) (q1_NoNumber : cd_NoNumber.mro = .ref a_NoNumber :: .ref b_NoNumber :: veTail) (q2_NoNumber : sl_NoNumber.toList = [s1_NoNumber, s2_NoNumber, s3_NoNumber, s4_NoNumber, some (.builtin "ValueError.__new__"), s6_NoNumber]) (q3_NoNumber : cd_NoNumber.hasDel = false) (q4_NoNumber : cd_NoNumber.ns = n_NoNumber) (h2_NoNumber : K.lookup n_NoNumber = some ⟨c3_NoNumber, d3_NoNumber, .dict es_NoNumber ep_NoNumber, sn_NoNumber⟩) (q5_NoNumber : allStr es_NoNumber = true) (n1_NoNumber : PySem.W.nsIn K n_NoNumber "__init__" = some none) (h3_NoNumber : K.lookup b_NoNumber = some ⟨.type "type", d2_NoNumber, .cls cb_NoNumber, sb_NoNumber⟩) (q6_NoNumber : cb_NoNumber.ns = m_NoNumber) (h4_NoNumber : K.lookup m_NoNumber = some ⟨c4_NoNumber, d4_NoNumber, .dict em_NoNumber eq_NoNumber, sm_NoNumber⟩) (q7_NoNumber : allStr em_NoNumber = true) (n2_NoNumber : PySem.W.nsIn K m_NoNumber "__init__" = some none) (xk_NoNumber : PySem.W.keepIn K (.ref a_NoNumber) = true) (xb_NoNumber : PySem.W.subIn K (.ref a_NoNumber) (.type "BaseException") = some true) (xt_NoNumber : PySem.W.typeIn K (.ref a_NoNumber) = some (.type "type"))
    (xa_TooMany : PySem.W.nsIn K mainGlobals "TooMany" = some (some (.ref a_TooMany))) (h1_TooMany : K.lookup a_TooMany = some ⟨.type "type", d1_TooMany, .cls cd_TooMany, sl_TooMany⟩) (q1_TooMany : cd_TooMany.mro = .ref a_TooMany :: .ref b_TooMany :: veTail) (q2_TooMany : sl_TooMany.toList = [s1_TooMany, s2_TooMany, s3_TooMany, s4_TooMany, some (.builtin "ValueError.__new__"), s6_TooMany]) (q3_TooMany : cd_TooMany.hasDel = false) (q4_TooMany : cd_TooMany.ns = n_TooMany) (h2_TooMany : K.lookup n_TooMany = some ⟨c3_TooMany, d3_TooMany, .dict es_TooMany ep_TooMany, sn_TooMany⟩) (q5_TooMany : allStr es_TooMany = true) (n1_TooMany : PySem.W.nsIn K n_TooMany "__init__" = some none) (h3_TooMany : K.lookup b_TooMany = some ⟨.type "type", d2_TooMany, .cls cb_TooMany, sb_TooMany⟩) (q6_TooMany : cb_TooMany.ns = m_TooMany) (h4_TooMany : K.lookup m_TooMany = some ⟨c4_TooMany, d4_TooMany, .dict em_TooMany eq_TooMany, sm_TooMany⟩) (q7_TooMany : allStr em_TooMany = true) (n2_TooMany : PySem.W.nsIn K m_TooMany "__init__" = some none) (xk_TooMany : PySem.W.keepIn K (.ref a_TooMany) = true) (xb_TooMany : PySem.W.subIn K (.ref a_TooMany) (.type "BaseException") = some true) (xt_TooMany : PySem.W.typeIn K (.ref a_TooMany) = some (.type "type"))
    (xa_NoGap : PySem.W.nsIn K mainGlobals "NoGap" = some (some (.ref a_NoGap))) (h1_NoGap : K.lookup a_NoGap = some ⟨.type "type", d1_NoGap, .cls cd_NoGap, sl_NoGap⟩) (q1_NoGap : cd_NoGap.mro = .ref a_NoGap :: .ref b_NoGap :: veTail) (q2_NoGap : sl_NoGap.toList = [s1_NoGap, s2_NoGap, s3_NoGap, s4_NoGap, some (.builtin "ValueError.__new__"), s6_NoGap]) (q3_NoGap : cd_NoGap.hasDel = false) (q4_NoGap : cd_NoGap.ns = n_NoGap) (h2_NoGap : K.lookup n_NoGap = some ⟨c3_NoGap, d3_NoGap, .dict es_NoGap ep_NoGap, sn_NoGap⟩) (q5_NoGap : allStr es_NoGap = true) (n1_NoGap : PySem.W.nsIn K n_NoGap "__init__" = some none) (h3_NoGap : K.lookup b_NoGap = some ⟨.type "type", d2_NoGap, .cls cb_NoGap, sb_NoGap⟩) (q6_NoGap : cb_NoGap.ns = m_NoGap) (h4_NoGap : K.lookup m_NoGap = some ⟨c4_NoGap, d4_NoGap, .dict em_NoGap eq_NoGap, sm_NoGap⟩) (q7_NoGap : allStr em_NoGap = true) (n2_NoGap : PySem.W.nsIn K m_NoGap "__init__" = some none) (xk_NoGap : PySem.W.keepIn K (.ref a_NoGap) = true) (xb_NoGap : PySem.W.subIn K (.ref a_NoGap) (.type "BaseException") = some true) (xt_NoGap : PySem.W.typeIn K (.ref a_NoGap) = some (.type "type"))
    (xa_TooWide : PySem.W.nsIn K mainGlobals "TooWide" = some (some (.ref a_TooWide))) (h1_TooWide : K.lookup a_TooWide = some ⟨.type "type", d1_TooWide, .cls cd_TooWide, sl_TooWide⟩) (q1_TooWide : cd_TooWide.mro = .ref a_TooWide :: .ref b_TooWide :: veTail) (q2_TooWide : sl_TooWide.toList = [s1_TooWide, s2_TooWide, s3_TooWide, s4_TooWide, some (.builtin "ValueError.__new__"), s6_TooWide]) (q3_TooWide : cd_TooWide.hasDel = false) (q4_TooWide : cd_TooWide.ns = n_TooWide) (h2_TooWide : K.lookup n_TooWide = some ⟨c3_TooWide, d3_TooWide, .dict es_TooWide ep_TooWide, sn_TooWide⟩) (q5_TooWide : allStr es_TooWide = true) (n1_TooWide : PySem.W.nsIn K n_TooWide "__init__" = some none) (h3_TooWide : K.lookup b_TooWide = some ⟨.type "type", d2_TooWide, .cls cb_TooWide, sb_TooWide⟩) (q6_TooWide : cb_TooWide.ns = m_TooWide) (h4_TooWide : K.lookup m_TooWide = some ⟨c4_TooWide, d4_TooWide, .dict em_TooWide eq_TooWide, sm_TooWide⟩) (q7_TooWide : allStr em_TooWide = true) (n2_TooWide : PySem.W.nsIn K m_TooWide "__init__" = some none) (xk_TooWide : PySem.W.keepIn K (.ref a_TooWide) = true) (xb_TooWide : PySem.W.subIn K (.ref a_TooWide) (.type "BaseException") = some true) (xt_TooWide : PySem.W.typeIn K (.ref a_TooWide) = some (.type "type"))
    (zc_LETTERS : PySem.W.nsIn K mainGlobals "LETTERS" = some (some (.str "abcdefghijklmnopqrstuvwxyz" t_LETTERS)))
    (zc_FAR : PySem.W.nsIn K mainGlobals "FAR" = some (some (.int 9 t_FAR)))
    (zc_MOST_LETTERS : PySem.W.nsIn K mainGlobals "MOST_LETTERS" = some (some (.int 10 t_MOST_LETTERS)))
    (zc_MOST_WIDE : PySem.W.nsIn K mainGlobals "MOST_WIDE" = some (some (.int 999 t_MOST_WIDE)))
    (z_isinstance : PySem.W.nsIn K mainGlobals "isinstance" = some none)
    (z_int : PySem.W.nsIn K mainGlobals "int" = some none)
    (z_bool : PySem.W.nsIn K mainGlobals "bool" = some none)
    (z_str : PySem.W.nsIn K mainGlobals "str" = some none)
    (z_len : PySem.W.nsIn K mainGlobals "len" = some none)
    (z_tuple : PySem.W.nsIn K mainGlobals "tuple" = some none)
    (z_enumerate : PySem.W.nsIn K mainGlobals "enumerate" = some none)
    (z_zip : PySem.W.nsIn K mainGlobals "zip" = some none)
    (z_all : PySem.W.nsIn K mainGlobals "all" = some none)
    (z_any : PySem.W.nsIn K mainGlobals "any" = some none)
    (z_range : PySem.W.nsIn K mainGlobals "range" = some none)
    (z_reversed : PySem.W.nsIn K mainGlobals "reversed" = some none)
    (z_divmod : PySem.W.nsIn K mainGlobals "divmod" = some none)
    (z_set : PySem.W.nsIn K mainGlobals "set" = some none)
    (z_abs : PySem.W.nsIn K mainGlobals "abs" = some none)
    (z_list : PySem.W.nsIn K mainGlobals "list" = some none)
    (z_min : PySem.W.nsIn K mainGlobals "min" = some none)
    (z_max : PySem.W.nsIn K mainGlobals "max" = some none) :
    ∃ fd : FuncData, (∀ (s : Shared) (v : Value), BindsTo s fd ⟨[v], []⟩ [("_law_script", v)]) ∧ ∀ base : Heap, K.In base → base.Ns mainGlobals mg → FnD l.prog w K mg base 10 fa fd ["_law_script"] (F_law) := by
  have e := hfa.symm.trans (PySem.W.mg_of X G a57)
  cases e
  have F0 := fun_mk (st := s_is_from_to) l0 c0 k0
  have F1 := fun_mk (st := s_is_letter) l1 c1 k1
  have F2 := fun_mk (st := s_is_gap) l2 c2 k2
  have F3 := fun_mk (st := s_letters_of) l3 c3 k3
  have F4 := fun_mk (st := s_place_of) l4 c4 k4
  have F5 := fun_mk (st := s_need_letter) l5 c5 k5
  have F6 := fun_mk (st := s_gap_in) l6 c6 k6
  have F7 := fun_mk (st := s_gap_of) l7 c7 k7
  have F8 := fun_mk (st := s_rows_of) l8 c8 k8
  have F9 := fun_mk (st := s_from_rows) l9 c9 k9
  have F10 := fun_mk (st := s_is_sign) l10 c10 k10
  have F11 := fun_mk (st := s_is_text) l11 c11 k11
  have F12 := fun_mk (st := s_need_text) l12 c12 k12
  have F13 := fun_mk (st := s_sign_width) l13 c13 k13
  have F14 := fun_mk (st := s_between) l14 c14 k14
  have F15 := fun_mk (st := s_begins_in) l15 c15 k15
  have F16 := fun_mk (st := s_begins) l16 c16 k16
  have F17 := fun_mk (st := s_wide_in) l17 c17 k17
  have F18 := fun_mk (st := s_wide) l18 c18 k18
  have F19 := fun_mk (st := s_need_whole) l19 c19 k19
  have F20 := fun_mk (st := s_sign_at) l20 c20 k20
  have F21 := fun_mk (st := s_need_fresh) l21 c21 k21
  have F22 := fun_mk (st := s_need_room) l22 c22 k22
  have F23 := fun_mk (st := s_with_like) l23 c23 k23
  have F24 := fun_mk (st := s_with_gap) l24 c24 k24
  have F25 := fun_mk (st := s_is_moved) l25 c25 k25
  have F26 := fun_mk (st := s_moved_lines) l26 c26 k26
  have F27 := fun_mk (st := s_words_of) l27 c27 k27
  have F28 := fun_mk (st := s_line_of) l28 c28 k28
  have F29 := fun_mk (st := s_room_of) l29 c29 k29
  have F30 := fun_mk (st := s_need_wide) l30 c30 k30
  have F31 := fun_mk (st := s_need_words) l31 c31 k31
  have F32 := fun_mk (st := s_filled) l32 c32 k32
  have F33 := fun_mk (st := s_cost_in) l33 c33 k33
  have F34 := fun_mk (st := s_prices_of) l34 c34 k34
  have F35 := fun_mk (st := s_evened) l35 c35 k35
  have F36 := fun_mk (st := s_shows_even) l36 c36 k36
  have F37 := fun_mk (st := s_spread) l37 c37 k37
  have F38 := fun_mk (st := s_grouped) l38 c38 k38
  have F39 := fun_mk (st := s_left_parting) l39 c39 k39
  have F40 := fun_mk (st := s_parting_letter) l40 c40 k40
  have F41 := fun_mk (st := s_twos) l41 c41 k41
  have F42 := fun_mk (st := s_shows_lefts) l42 c42 k42
  have F43 := fun_mk (st := s_choices) l43 c43 k43
  have F44 := fun_mk (st := s_parters) l44 c44 k44
  have F45 := fun_mk (st := s_law_box) l45 c45 k45
  have F46 := fun_mk (st := s_law_take) l46 c46 k46
  have F47 := fun_mk (st := s_law_face) l47 c47 k47
  have F48 := fun_mk (st := s_law_letters) l48 c48 k48
  have F49 := fun_mk (st := s_law_rows) l49 c49 k49
  have F50 := fun_mk (st := s_law_list) l50 c50 k50
  have F51 := fun_mk (st := s_law_pairs) l51 c51 k51
  have F52 := fun_mk (st := s_law_fresh) l52 c52 k52
  have F53 := fun_mk (st := s_law_word) l53 c53 k53
  have F54 := fun_mk (st := s_law_swapped) l54 c54 k54
  have F55 := fun_mk (st := s_law_same_lines) l55 c55 k55
  have F56 := fun_mk (st := s_law_lines_right) l56 c56 k56
  have F57 := fun_mk (st := s_law) l57 c57 k57
  have b0 := F0.binds (ps := ["thing", "least", "most"]) fun _ _ _ _ _ _ us hl => match us, hl with | [_, _, _], _ => rfl
  have A_is_from_to : At K mg "is_from_to" _ _ _ := ⟨PySem.W.mg_of X G a0, k0, b0⟩
  have b1 := F1.binds (ps := ["thing"]) fun _ _ _ _ _ _ us hl => match us, hl with | [_], _ => rfl
  have A_is_letter : At K mg "is_letter" _ _ _ := ⟨PySem.W.mg_of X G a1, k1, b1⟩
  have b2 := F2.binds (ps := ["thing"]) fun _ _ _ _ _ _ us hl => match us, hl with | [_], _ => rfl
  have A_is_gap : At K mg "is_gap" _ _ _ := ⟨PySem.W.mg_of X G a2, k2, b2⟩
  have b3 := F3.binds (ps := ["face"]) fun _ _ _ _ _ _ us hl => match us, hl with | [_], _ => rfl
  have A_letters_of : At K mg "letters_of" _ _ _ := ⟨PySem.W.mg_of X G a3, k3, b3⟩
  have b4 := F4.binds (ps := ["face", "thing"]) fun _ _ _ _ _ _ us hl => match us, hl with | [_, _], _ => rfl
  have A_place_of : At K mg "place_of" _ _ _ := ⟨PySem.W.mg_of X G a4, k4, b4⟩
  have b5 := F5.binds (ps := ["face", "thing"]) fun _ _ _ _ _ _ us hl => match us, hl with | [_, _], _ => rfl
  have A_need_letter : At K mg "need_letter" _ _ _ := ⟨PySem.W.mg_of X G a5, k5, b5⟩
  have b6 := F6.binds (ps := ["pairs", "left", "right"]) fun _ _ _ _ _ _ us hl => match us, hl with | [_, _, _], _ => rfl
  have A_gap_in : At K mg "gap_in" _ _ _ := ⟨PySem.W.mg_of X G a6, k6, b6⟩
  have b7 := F7.binds (ps := ["face", "pairs", "left", "right"]) fun _ _ _ _ _ _ us hl => match us, hl with | [_, _, _, _], _ => rfl
  have A_gap_of : At K mg "gap_of" _ _ _ := ⟨PySem.W.mg_of X G a7, k7, b7⟩
  have b8 := F8.binds (ps := ["face", "pairs"]) fun _ _ _ _ _ _ us hl => match us, hl with | [_, _], _ => rfl
  have A_rows_of : At K mg "rows_of" _ _ _ := ⟨PySem.W.mg_of X G a8, k8, b8⟩
  have b9 := F9.binds (ps := ["face", "rows"]) fun _ _ _ _ _ _ us hl => match us, hl with | [_, _], _ => rfl
  have A_from_rows : At K mg "from_rows" _ _ _ := ⟨PySem.W.mg_of X G a9, k9, b9⟩
  have b10 := F10.binds (ps := ["face", "thing"]) fun _ _ _ _ _ _ us hl => match us, hl with | [_, _], _ => rfl
  have A_is_sign : At K mg "is_sign" _ _ _ := ⟨PySem.W.mg_of X G a10, k10, b10⟩
  have b11 := F11.binds (ps := ["face", "thing"]) fun _ _ _ _ _ _ us hl => match us, hl with | [_, _], _ => rfl
  have A_is_text : At K mg "is_text" _ _ _ := ⟨PySem.W.mg_of X G a11, k11, b11⟩
  have b12 := F12.binds (ps := ["face", "thing"]) fun _ _ _ _ _ _ us hl => match us, hl with | [_, _], _ => rfl
  have A_need_text : At K mg "need_text" _ _ _ := ⟨PySem.W.mg_of X G a12, k12, b12⟩
  have b13 := F13.binds (ps := ["face", "sign"]) fun _ _ _ _ _ _ us hl => match us, hl with | [_, _], _ => rfl
  have A_sign_width : At K mg "sign_width" _ _ _ := ⟨PySem.W.mg_of X G a13, k13, b13⟩
  have b14 := F14.binds (ps := ["pairs", "one", "other"]) fun _ _ _ _ _ _ us hl => match us, hl with | [_, _, _], _ => rfl
  have A_between : At K mg "between" _ _ _ := ⟨PySem.W.mg_of X G a14, k14, b14⟩
  have b15 := F15.binds (ps := ["face", "pairs", "text"]) fun _ _ _ _ _ _ us hl => match us, hl with | [_, _, _], _ => rfl
  have A_begins_in : At K mg "begins_in" _ _ _ := ⟨PySem.W.mg_of X G a15, k15, b15⟩
  have b16 := F16.binds (ps := ["face", "pairs", "text"]) fun _ _ _ _ _ _ us hl => match us, hl with | [_, _, _], _ => rfl
  have A_begins : At K mg "begins" _ _ _ := ⟨PySem.W.mg_of X G a16, k16, b16⟩
  have b17 := F17.binds (ps := ["face", "pairs", "text"]) fun _ _ _ _ _ _ us hl => match us, hl with | [_, _, _], _ => rfl
  have A_wide_in : At K mg "wide_in" _ _ _ := ⟨PySem.W.mg_of X G a17, k17, b17⟩
  have b18 := F18.binds (ps := ["face", "pairs", "text"]) fun _ _ _ _ _ _ us hl => match us, hl with | [_, _, _], _ => rfl
  have A_wide : At K mg "wide" _ _ _ := ⟨PySem.W.mg_of X G a18, k18, b18⟩
  have b19 := F19.binds (ps := ["thing"]) fun _ _ _ _ _ _ us hl => match us, hl with | [_], _ => rfl
  have A_need_whole : At K mg "need_whole" _ _ _ := ⟨PySem.W.mg_of X G a19, k19, b19⟩
  have b20 := F20.binds (ps := ["face", "pairs", "text", "number"]) fun _ _ _ _ _ _ us hl => match us, hl with | [_, _, _, _], _ => rfl
  have A_sign_at : At K mg "sign_at" _ _ _ := ⟨PySem.W.mg_of X G a20, k20, b20⟩
  have b21 := F21.binds (ps := ["face", "letter"]) fun _ _ _ _ _ _ us hl => match us, hl with | [_, _], _ => rfl
  have A_need_fresh : At K mg "need_fresh" _ _ _ := ⟨PySem.W.mg_of X G a21, k21, b21⟩
  have b22 := F22.binds (ps := ["face"]) fun _ _ _ _ _ _ us hl => match us, hl with | [_], _ => rfl
  have A_need_room : At K mg "need_room" _ _ _ := ⟨PySem.W.mg_of X G a22, k22, b22⟩
  have b23 := F23.binds (ps := ["face", "pairs", "letter", "other"]) fun _ _ _ _ _ _ us hl => match us, hl with | [_, _, _, _], _ => rfl
  have A_with_like : At K mg "with_like" _ _ _ := ⟨PySem.W.mg_of X G a23, k23, b23⟩
  have b24 := F24.binds (ps := ["face", "pairs", "left", "right", "gap"]) fun _ _ _ _ _ _ us hl => match us, hl with | [_, _, _, _, _], _ => rfl
  have A_with_gap : At K mg "with_gap" _ _ _ := ⟨PySem.W.mg_of X G a24, k24, b24⟩
  have b25 := F25.binds (ps := ["pairs", "other", "text"]) fun _ _ _ _ _ _ us hl => match us, hl with | [_, _, _], _ => rfl
  have A_is_moved : At K mg "is_moved" _ _ _ := ⟨PySem.W.mg_of X G a25, k25, b25⟩
  have b26 := F26.binds (ps := ["face", "pairs", "other", "texts"]) fun _ _ _ _ _ _ us hl => match us, hl with | [_, _, _, _], _ => rfl
  have A_moved_lines : At K mg "moved_lines" _ _ _ := ⟨PySem.W.mg_of X G a26, k26, b26⟩
  have b27 := F27.binds (ps := ["face", "text"]) fun _ _ _ _ _ _ us hl => match us, hl with | [_, _], _ => rfl
  have A_words_of : At K mg "words_of" _ _ _ := ⟨PySem.W.mg_of X G a27, k27, b27⟩
  have b28 := F28.binds (ps := ["words", "first", "behind"]) fun _ _ _ _ _ _ us hl => match us, hl with | [_, _, _], _ => rfl
  have A_line_of : At K mg "line_of" _ _ _ := ⟨PySem.W.mg_of X G a28, k28, b28⟩
  have b29 := F29.binds (ps := ["face", "pairs", "line", "number"]) fun _ _ _ _ _ _ us hl => match us, hl with | [_, _, _, _], _ => rfl
  have A_room_of : At K mg "room_of" _ _ _ := ⟨PySem.W.mg_of X G a29, k29, b29⟩
  have b30 := F30.binds (ps := ["number"]) fun _ _ _ _ _ _ us hl => match us, hl with | [_], _ => rfl
  have A_need_wide : At K mg "need_wide" _ _ _ := ⟨PySem.W.mg_of X G a30, k30, b30⟩
  have b31 := F31.binds (ps := ["face", "pairs", "text", "number"]) fun _ _ _ _ _ _ us hl => match us, hl with | [_, _, _, _], _ => rfl
  have A_need_words : At K mg "need_words" _ _ _ := ⟨PySem.W.mg_of X G a31, k31, b31⟩
  have b32 := F32.binds (ps := ["face", "pairs", "text", "number"]) fun _ _ _ _ _ _ us hl => match us, hl with | [_, _, _, _], _ => rfl
  have A_filled : At K mg "filled" _ _ _ := ⟨PySem.W.mg_of X G a32, k32, b32⟩
  have b33 := F33.binds (ps := ["face", "pairs", "words", "ends", "number"]) fun _ _ _ _ _ _ us hl => match us, hl with | [_, _, _, _, _], _ => rfl
  have A_cost_in : At K mg "cost_in" _ _ _ := ⟨PySem.W.mg_of X G a33, k33, b33⟩
  have b34 := F34.binds (ps := ["face", "pairs", "words", "number"]) fun _ _ _ _ _ _ us hl => match us, hl with | [_, _, _, _], _ => rfl
  have A_prices_of : At K mg "prices_of" _ _ _ := ⟨PySem.W.mg_of X G a34, k34, b34⟩
  have b35 := F35.binds (ps := ["face", "pairs", "text", "number"]) fun _ _ _ _ _ _ us hl => match us, hl with | [_, _, _, _], _ => rfl
  have A_evened : At K mg "evened" _ _ _ := ⟨PySem.W.mg_of X G a35, k35, b35⟩
  have b36 := F36.binds (ps := ["face", "pairs", "text", "number"]) fun _ _ _ _ _ _ us hl => match us, hl with | [_, _, _, _], _ => rfl
  have A_shows_even : At K mg "shows_even" _ _ _ := ⟨PySem.W.mg_of X G a36, k36, b36⟩
  have b37 := F37.binds (ps := ["face", "pairs", "text", "number"]) fun _ _ _ _ _ _ us hl => match us, hl with | [_, _, _, _], _ => rfl
  have A_spread : At K mg "spread" _ _ _ := ⟨PySem.W.mg_of X G a37, k37, b37⟩
  have b38 := F38.binds (ps := ["letters", "marks"]) fun _ _ _ _ _ _ us hl => match us, hl with | [_, _], _ => rfl
  have A_grouped : At K mg "grouped" _ _ _ := ⟨PySem.W.mg_of X G a38, k38, b38⟩
  have b39 := F39.binds (ps := ["face", "pairs"]) fun _ _ _ _ _ _ us hl => match us, hl with | [_, _], _ => rfl
  have A_left_parting : At K mg "left_parting" _ _ _ := ⟨PySem.W.mg_of X G a39, k39, b39⟩
  have b40 := F40.binds (ps := ["face", "pairs", "one", "other"]) fun _ _ _ _ _ _ us hl => match us, hl with | [_, _, _, _], _ => rfl
  have A_parting_letter : At K mg "parting_letter" _ _ _ := ⟨PySem.W.mg_of X G a40, k40, b40⟩
  have b41 := F41.binds (ps := ["letters"]) fun _ _ _ _ _ _ us hl => match us, hl with | [_], _ => rfl
  have A_twos : At K mg "twos" _ _ _ := ⟨PySem.W.mg_of X G a41, k41, b41⟩
  have b42 := F42.binds (ps := ["face", "pairs"]) fun _ _ _ _ _ _ us hl => match us, hl with | [_, _], _ => rfl
  have A_shows_lefts : At K mg "shows_lefts" _ _ _ := ⟨PySem.W.mg_of X G a42, k42, b42⟩
  have b43 := F43.binds (ps := ["many", "count"]) fun _ _ _ _ _ _ us hl => match us, hl with | [_, _], _ => rfl
  have A_choices : At K mg "choices" _ _ _ := ⟨PySem.W.mg_of X G a43, k43, b43⟩
  have b44 := F44.binds (ps := ["face", "pairs"]) fun _ _ _ _ _ _ us hl => match us, hl with | [_, _], _ => rfl
  have A_parters : At K mg "parters" _ _ _ := ⟨PySem.W.mg_of X G a44, k44, b44⟩
  have b45 := F45.binds (ps := ["_law_script", "_law_k"]) fun _ _ _ _ _ _ us hl => match us, hl with | [_, _], _ => rfl
  have A_law_box : At K mg "_law_box" _ _ _ := ⟨PySem.W.mg_of X G a45, k45, b45⟩
  have b46 := F46.binds (ps := ["_law_box_here", "_law_many"]) fun _ _ _ _ _ _ us hl => match us, hl with | [_, _], _ => rfl
  have A_law_take : At K mg "_law_take" _ _ _ := ⟨PySem.W.mg_of X G a46, k46, b46⟩
  have b47 := F47.binds (ps := ["_law_box_here", "_law_least", "_law_most"]) fun _ _ _ _ _ _ us hl => match us, hl with | [_, _, _], _ => rfl
  have A_law_face : At K mg "_law_face" _ _ _ := ⟨PySem.W.mg_of X G a47, k47, b47⟩
  have b48 := F48.binds (ps := ["_law_face_here"]) fun _ _ _ _ _ _ us hl => match us, hl with | [_], _ => rfl
  have A_law_letters : At K mg "_law_letters" _ _ _ := ⟨PySem.W.mg_of X G a48, k48, b48⟩
  have b49 := F49.binds (ps := ["_law_box_here", "_law_many"]) fun _ _ _ _ _ _ us hl => match us, hl with | [_, _], _ => rfl
  have A_law_rows : At K mg "_law_rows" _ _ _ := ⟨PySem.W.mg_of X G a49, k49, b49⟩
  have b50 := F50.binds (ps := ["_law_face_here", "_law_rows_here"]) fun _ _ _ _ _ _ us hl => match us, hl with | [_, _], _ => rfl
  have A_law_list : At K mg "_law_list" _ _ _ := ⟨PySem.W.mg_of X G a50, k50, b50⟩
  have b51 := F51.binds (ps := ["_law_box_here", "_law_face_here"]) fun _ _ _ _ _ _ us hl => match us, hl with | [_, _], _ => rfl
  have A_law_pairs : At K mg "_law_pairs" _ _ _ := ⟨PySem.W.mg_of X G a51, k51, b51⟩
  have b52 := F52.binds (ps := ["_law_box_here", "_law_face_here"]) fun _ _ _ _ _ _ us hl => match us, hl with | [_, _], _ => rfl
  have A_law_fresh : At K mg "_law_fresh" _ _ _ := ⟨PySem.W.mg_of X G a52, k52, b52⟩
  have b53 := F53.binds (ps := ["_law_box_here", "_law_letters_here"]) fun _ _ _ _ _ _ us hl => match us, hl with | [_, _], _ => rfl
  have A_law_word : At K mg "_law_word" _ _ _ := ⟨PySem.W.mg_of X G a53, k53, b53⟩
  have b54 := F54.binds (ps := ["_law_box_here", "_law_text", "_law_letter", "_law_other"]) fun _ _ _ _ _ _ us hl => match us, hl with | [_, _, _, _], _ => rfl
  have A_law_swapped : At K mg "_law_swapped" _ _ _ := ⟨PySem.W.mg_of X G a54, k54, b54⟩
  have b55 := F55.binds (ps := ["_law_lines", "_law_others", "_law_text"]) fun _ _ _ _ _ _ us hl => match us, hl with | [_, _, _], _ => rfl
  have A_law_same_lines : At K mg "_law_same_lines" _ _ _ := ⟨PySem.W.mg_of X G a55, k55, b55⟩
  have b56 := F56.binds (ps := ["_law_elder", "_law_later", "_law_texts", "_law_number"]) fun _ _ _ _ _ _ us hl => match us, hl with | [_, _, _, _], _ => rfl
  have A_law_lines_right : At K mg "_law_lines_right" _ _ _ := ⟨PySem.W.mg_of X G a56, k56, b56⟩
  have b57 := F57.binds (ps := ["_law_script"]) fun _ _ _ _ _ _ us hl => match us, hl with | [_], _ => rfl
  have A_law : At K mg "law" _ _ _ := ⟨PySem.W.mg_of X G a57, k57, b57⟩
  have X_NoLetter : ExcAt K mg "NoLetter" a_NoLetter := ⟨PySem.W.mg_of X G xa_NoLetter, exc_two h1_NoLetter q1_NoLetter q2_NoLetter q3_NoLetter q4_NoLetter h2_NoLetter q5_NoLetter n1_NoLetter h3_NoLetter q6_NoLetter h4_NoLetter q7_NoLetter n2_NoLetter rfl, xk_NoLetter, xb_NoLetter, xt_NoLetter⟩
  have X_NoLine : ExcAt K mg "NoLine" a_NoLine := ⟨PySem.W.mg_of X G xa_NoLine, exc_two h1_NoLine q1_NoLine q2_NoLine q3_NoLine q4_NoLine h2_NoLine q5_NoLine n1_NoLine h3_NoLine q6_NoLine h4_NoLine q7_NoLine n2_NoLine rfl, xk_NoLine, xb_NoLine, xt_NoLine⟩
  have X_NoNumber : ExcAt K mg "NoNumber" a_NoNumber := ⟨PySem.W.mg_of X G xa_NoNumber, exc_two h1_NoNumber q1_NoNumber q2_NoNumber q3_NoNumber q4_NoNumber h2_NoNumber q5_NoNumber n1_NoNumber h3_NoNumber q6_NoNumber h4_NoNumber q7_NoNumber n2_NoNumber rfl, xk_NoNumber, xb_NoNumber, xt_NoNumber⟩
  have X_TooMany : ExcAt K mg "TooMany" a_TooMany := ⟨PySem.W.mg_of X G xa_TooMany, exc_two h1_TooMany q1_TooMany q2_TooMany q3_TooMany q4_TooMany h2_TooMany q5_TooMany n1_TooMany h3_TooMany q6_TooMany h4_TooMany q7_TooMany n2_TooMany rfl, xk_TooMany, xb_TooMany, xt_TooMany⟩
  have X_NoGap : ExcAt K mg "NoGap" a_NoGap := ⟨PySem.W.mg_of X G xa_NoGap, exc_two h1_NoGap q1_NoGap q2_NoGap q3_NoGap q4_NoGap h2_NoGap q5_NoGap n1_NoGap h3_NoGap q6_NoGap h4_NoGap q7_NoGap n2_NoGap rfl, xk_NoGap, xb_NoGap, xt_NoGap⟩
  have X_TooWide : ExcAt K mg "TooWide" a_TooWide := ⟨PySem.W.mg_of X G xa_TooWide, exc_two h1_TooWide q1_TooWide q2_TooWide q3_TooWide q4_TooWide h2_TooWide q5_TooWide n1_TooWide h3_TooWide q6_TooWide h4_TooWide q7_TooWide n2_TooWide rfl, xk_TooWide, xb_TooWide, xt_TooWide⟩
  have c_LETTERS := PySem.W.mg_of X G zc_LETTERS
  have c_FAR := PySem.W.mg_of X G zc_FAR
  have c_MOST_LETTERS := PySem.W.mg_of X G zc_MOST_LETTERS
  have c_MOST_WIDE := PySem.W.mg_of X G zc_MOST_WIDE
  have m_isinstance := PySem.W.mg_none_of X G z_isinstance
  have m_int := PySem.W.mg_none_of X G z_int
  have m_bool := PySem.W.mg_none_of X G z_bool
  have m_str := PySem.W.mg_none_of X G z_str
  have m_len := PySem.W.mg_none_of X G z_len
  have m_tuple := PySem.W.mg_none_of X G z_tuple
  have m_enumerate := PySem.W.mg_none_of X G z_enumerate
  have m_zip := PySem.W.mg_none_of X G z_zip
  have m_all := PySem.W.mg_none_of X G z_all
  have m_any := PySem.W.mg_none_of X G z_any
  have m_range := PySem.W.mg_none_of X G z_range
  have m_reversed := PySem.W.mg_none_of X G z_reversed
  have m_divmod := PySem.W.mg_none_of X G z_divmod
  have m_set := PySem.W.mg_none_of X G z_set
  have m_abs := PySem.W.mg_none_of X G z_abs
  have m_list := PySem.W.mg_none_of X G z_list
  have m_min := PySem.W.mg_none_of X G z_min
  have m_max := PySem.W.mg_none_of X G z_max
  refine ⟨PySem.W.fnOf "law" "law" (defArgs s_law) (defBody s_law) (defScope s_law) .none kV57 dc57 pm57 an57 cd57 ct57, fun s v => .of_eq rfl, fun base _ _ => ?_⟩
  have G_is_from_to := ok_is_from_to (P := l.prog) (w := w) (mg := mg) (base := base) F0 m_isinstance m_int m_bool
  have G_is_letter := ok_is_letter (P := l.prog) (w := w) (mg := mg) (base := base) F1 m_isinstance m_str m_len c_LETTERS
  have G_is_gap := ok_is_gap (P := l.prog) (w := w) (mg := mg) (base := base) F2 G_is_from_to A_is_from_to c_FAR
  have G_letters_of := ok_letters_of (P := l.prog) (w := w) (mg := mg) (base := base) F3 m_tuple
  have G_place_of := ok_place_of (P := l.prog) (w := w) (mg := mg) (base := base) F4 m_enumerate
  have G_need_letter := ok_need_letter (P := l.prog) (w := w) (mg := mg) (base := base) F5 G_place_of A_place_of X_NoLetter
  have G_gap_in := ok_gap_in (P := l.prog) (w := w) (mg := mg) (base := base) F6 
  have G_gap_of := ok_gap_of (P := l.prog) (w := w) (mg := mg) (base := base) F7 G_need_letter A_need_letter G_gap_in A_gap_in
  have G_rows_of := ok_rows_of (P := l.prog) (w := w) (mg := mg) (base := base) F8 G_letters_of A_letters_of G_gap_in A_gap_in m_tuple
  have G_from_rows := ok_from_rows (P := l.prog) (w := w) (mg := mg) (base := base) F9 G_letters_of A_letters_of m_zip m_tuple
  have G_is_sign := ok_is_sign (P := l.prog) (w := w) (mg := mg) (base := base) F10 G_place_of A_place_of
  have G_is_text := ok_is_text (P := l.prog) (w := w) (mg := mg) (base := base) F11 G_is_sign A_is_sign m_isinstance m_str m_all
  have G_need_text := ok_need_text (P := l.prog) (w := w) (mg := mg) (base := base) F12 G_is_text A_is_text X_NoLine
  have G_sign_width := ok_sign_width (P := l.prog) (w := w) (mg := mg) (base := base) F13 G_place_of A_place_of
  have G_between := ok_between (P := l.prog) (w := w) (mg := mg) (base := base) F14 G_gap_in A_gap_in
  have G_begins_in := ok_begins_in (P := l.prog) (w := w) (mg := mg) (base := base) F15 G_sign_width A_sign_width G_between A_between m_enumerate m_tuple
  have G_begins := ok_begins (P := l.prog) (w := w) (mg := mg) (base := base) F16 G_need_text A_need_text G_begins_in A_begins_in
  have G_wide_in := ok_wide_in (P := l.prog) (w := w) (mg := mg) (base := base) F17 G_begins_in A_begins_in G_sign_width A_sign_width
  have G_wide := ok_wide (P := l.prog) (w := w) (mg := mg) (base := base) F18 G_need_text A_need_text G_wide_in A_wide_in
  have G_need_whole := ok_need_whole (P := l.prog) (w := w) (mg := mg) (base := base) F19 m_isinstance m_int m_bool X_NoNumber
  have G_sign_at := ok_sign_at (P := l.prog) (w := w) (mg := mg) (base := base) F20 G_need_text A_need_text G_need_whole A_need_whole G_begins_in A_begins_in G_sign_width A_sign_width m_enumerate
  have G_need_fresh := ok_need_fresh (P := l.prog) (w := w) (mg := mg) (base := base) F21 G_is_letter A_is_letter G_place_of A_place_of X_NoLetter
  have G_need_room := ok_need_room (P := l.prog) (w := w) (mg := mg) (base := base) F22 m_len c_MOST_LETTERS X_TooMany
  have G_with_like := ok_with_like (P := l.prog) (w := w) (mg := mg) (base := base) F23 G_need_fresh A_need_fresh G_need_letter A_need_letter G_need_room A_need_room G_letters_of A_letters_of G_gap_in A_gap_in G_from_rows A_from_rows
  have G_with_gap := ok_with_gap (P := l.prog) (w := w) (mg := mg) (base := base) F24 G_need_letter A_need_letter G_is_gap A_is_gap G_letters_of A_letters_of G_gap_in A_gap_in G_from_rows A_from_rows X_NoGap
  have G_is_moved := ok_is_moved (P := l.prog) (w := w) (mg := mg) (base := base) F25 G_between A_between m_zip m_any
  have G_moved_lines := ok_moved_lines (P := l.prog) (w := w) (mg := mg) (base := base) F26 G_need_text A_need_text G_is_moved A_is_moved m_isinstance m_tuple m_enumerate X_NoLine
  have G_words_of := ok_words_of (P := l.prog) (w := w) (mg := mg) (base := base) F27 G_need_text A_need_text X_NoLine
  have G_line_of := ok_line_of (P := l.prog) (w := w) (mg := mg) (base := base) F28 
  have G_room_of := ok_room_of (P := l.prog) (w := w) (mg := mg) (base := base) F29 G_wide_in A_wide_in
  have G_need_wide := ok_need_wide (P := l.prog) (w := w) (mg := mg) (base := base) F30 G_is_from_to A_is_from_to c_MOST_WIDE X_NoNumber
  have G_need_words := ok_need_words (P := l.prog) (w := w) (mg := mg) (base := base) F31 G_words_of A_words_of G_need_wide A_need_wide G_room_of A_room_of X_TooWide
  have G_filled := ok_filled (P := l.prog) (w := w) (mg := mg) (base := base) F32 G_need_words A_need_words G_room_of A_room_of m_tuple
  have G_cost_in := ok_cost_in (P := l.prog) (w := w) (mg := mg) (base := base) F33 G_room_of A_room_of G_line_of A_line_of m_len
  have G_prices_of := ok_prices_of (P := l.prog) (w := w) (mg := mg) (base := base) F34 G_cost_in A_cost_in m_range m_reversed m_len
  have G_evened := ok_evened (P := l.prog) (w := w) (mg := mg) (base := base) F35 G_need_words A_need_words G_prices_of A_prices_of G_cost_in A_cost_in G_line_of A_line_of m_len m_range m_reversed m_tuple
  have G_shows_even := ok_shows_even (P := l.prog) (w := w) (mg := mg) (base := base) F36 G_prices_of A_prices_of G_need_words A_need_words m_tuple
  have G_spread := ok_spread (P := l.prog) (w := w) (mg := mg) (base := base) F37 G_words_of A_words_of G_need_wide A_need_wide G_room_of A_room_of m_len m_divmod m_range m_int m_tuple X_NoLine X_TooWide
  have G_grouped := ok_grouped (P := l.prog) (w := w) (mg := mg) (base := base) F38 m_zip m_tuple
  have G_left_parting := ok_left_parting (P := l.prog) (w := w) (mg := mg) (base := base) F39 G_grouped A_grouped G_rows_of A_rows_of G_letters_of A_letters_of
  have G_parting_letter := ok_parting_letter (P := l.prog) (w := w) (mg := mg) (base := base) F40 G_letters_of A_letters_of G_gap_in A_gap_in
  have G_twos := ok_twos (P := l.prog) (w := w) (mg := mg) (base := base) F41 m_enumerate
  have G_shows_lefts := ok_shows_lefts (P := l.prog) (w := w) (mg := mg) (base := base) F42 G_left_parting A_left_parting G_twos A_twos G_parting_letter A_parting_letter m_tuple
  have G_choices := ok_choices (P := l.prog) (w := w) (mg := mg) (base := base) F43 m_range
  have G_parters := ok_parters (P := l.prog) (w := w) (mg := mg) (base := base) F44 G_letters_of A_letters_of G_left_parting A_left_parting G_choices A_choices G_gap_in A_gap_in m_len m_range m_tuple m_set
  have G_law_box := ok_law_box (P := l.prog) (w := w) (mg := mg) (base := base) F45 m_len m_abs
  have G_law_take := ok_law_take (P := l.prog) (w := w) (mg := mg) (base := base) F46 m_divmod
  have G_law_face := ok_law_face (P := l.prog) (w := w) (mg := mg) (base := base) F47 G_law_take A_law_take m_list m_range m_len m_tuple
  have G_law_letters := ok_law_letters (P := l.prog) (w := w) (mg := mg) (base := base) F48 
  have G_law_rows := ok_law_rows (P := l.prog) (w := w) (mg := mg) (base := base) F49 G_law_take A_law_take m_range
  have G_law_list := ok_law_list (P := l.prog) (w := w) (mg := mg) (base := base) F50 G_law_letters A_law_letters m_zip m_tuple
  have G_law_pairs := ok_law_pairs (P := l.prog) (w := w) (mg := mg) (base := base) F51 G_law_list A_law_list G_law_rows A_law_rows m_len
  have G_law_fresh := ok_law_fresh (P := l.prog) (w := w) (mg := mg) (base := base) F52 G_law_letters A_law_letters G_law_take A_law_take m_len
  have G_law_word := ok_law_word (P := l.prog) (w := w) (mg := mg) (base := base) F53 G_law_take A_law_take m_range m_len
  have G_law_swapped := ok_law_swapped (P := l.prog) (w := w) (mg := mg) (base := base) F54 G_law_take A_law_take
  have G_law_same_lines := ok_law_same_lines (P := l.prog) (w := w) (mg := mg) (base := base) F55 m_len
  have G_law_lines_right := ok_law_lines_right (P := l.prog) (w := w) (mg := mg) (base := base) F56 G_evened A_evened G_law_same_lines A_law_same_lines G_filled A_filled G_shows_even A_shows_even G_spread A_spread
  have G_law := ok_law (P := l.prog) (w := w) (mg := mg) (base := base) F57 G_law_box A_law_box G_law_face A_law_face G_law_pairs A_law_pairs G_law_letters A_law_letters G_law_take A_law_take G_law_fresh A_law_fresh G_with_like A_with_like G_law_word A_law_word G_law_swapped A_law_swapped G_begins A_begins G_wide A_wide G_sign_at A_sign_at G_law_lines_right A_law_lines_right G_parters A_parters G_shows_lefts A_shows_lefts G_gap_of A_gap_of G_with_gap A_with_gap G_moved_lines A_moved_lines m_range m_len m_min m_max
  exact G_law
end DV.k69

set_option maxHeartbeats 4000000
namespace DV
open PySem
/-! What a data-level program promises: plain rules. -/
def R.wp {α : Type} (r : R α) (P : α → Sto → Prop) (E : Str → Sto → Prop) : Prop :=
  match r with
  | .ok a S => P a S
  | .ex c S => E c S
  | .no => False
structure K where
  nx : En → Sto → Prop
  rt : D → Sto → Prop := fun _ _ => False
  bk : En → Sto → Prop := fun _ _ => False
  ct : En → Sto → Prop := fun _ _ => False
  ex : Str → Sto → Prop := fun _ _ => False
def F.wp (f : F) (N : K) : Prop :=
  match f with
  | .nx σ S => N.nx σ S
  | .rt d S => N.rt d S
  | .bk σ S => N.bk σ S
  | .ct σ S => N.ct σ S
  | .ex c S => N.ex c S
  | .no => False
abbrev noE : Str → Sto → Prop := fun _ _ => False
section
variable {α β : Type} {P : α → Sto → Prop} {E : Str → Sto → Prop} {N : K} {σ : En} {S : Sto}
@[simp ↓] theorem wp_ok (a : α) (S : Sto) : (R.ok a S).wp P E = P a S := id rfl
@[simp ↓] theorem wp_ex (c : Str) (S : Sto) : (R.ex c S : R α).wp P E = E c S := id rfl
@[simp ↓] theorem wp_no : (R.no : R α).wp P E = False := id rfl
@[simp ↓] theorem wp_nx : (F.nx σ S).wp N = N.nx σ S := id rfl
@[simp ↓] theorem wp_rt (d : D) : (F.rt d S).wp N = N.rt d S := id rfl
@[simp ↓] theorem wp_bk : (F.bk σ S).wp N = N.bk σ S := id rfl
@[simp ↓] theorem wp_ct : (F.ct σ S).wp N = N.ct σ S := id rfl
@[simp ↓] theorem wp_fex (c : Str) : (F.ex c S).wp N = N.ex c S := id rfl
@[simp ↓] theorem wp_fno : F.no.wp N = False := id rfl
@[simp ↓] theorem wp_bind (r : R β) (k : β → Sto → R α) : (r.bind k).wp P E = r.wp (fun a S => (k a S).wp P E) E := by cases r <;> rfl
@[simp ↓] theorem wp_run (r : R β) (k : β → Sto → F) : (r.run k).wp N = r.wp (fun a S => (k a S).wp N) N.ex := by cases r <;> rfl
theorem R.wp.mono {r : R α} {P' : α → Sto → Prop} {E' : Str → Sto → Prop} (h : r.wp P E) (hp : ∀ a S, P a S → P' a S) (he : ∀ c S, E c S → E' c S) : r.wp P' E' := by
  cases r with
  | ok a S => exact hp _ _ h
  | ex c S => exact he _ _ h
  | no => exact h
theorem R.wp.to {r : R α} {P' : α → Sto → Prop} (h : r.wp P noE) (hp : ∀ a S, P a S → P' a S) : r.wp P' E := h.mono hp fun _ _ h => h.elim
theorem R.wp.out {r : R α} (h : r.wp P noE) : ∃ a S, r = .ok a S ∧ P a S := by
  cases r with
  | ok a S => exact ⟨a, S, rfl, h⟩
  | ex c S => exact h.elim
  | no => exact h.elim
theorem F.wp.mono {f : F} {N' : K} (h : f.wp N) (h1 : ∀ σ S, N.nx σ S → N'.nx σ S) (h2 : ∀ d S, N.rt d S → N'.rt d S) (h3 : ∀ σ S, N.bk σ S → N'.bk σ S) (h4 : ∀ σ S, N.ct σ S → N'.ct σ S) (h5 : ∀ c S, N.ex c S → N'.ex c S) : f.wp N' := by
  cases f with
  | nx σ S => exact h1 _ _ h
  | rt d S => exact h2 _ _ h
  | bk σ S => exact h3 _ _ h
  | ct σ S => exact h4 _ _ h
  | ex c S => exact h5 _ _ h
  | no => exact h
/-! ### statements -/
@[simp ↓] theorem wp_seq (a b : Sx) : (seqS a b σ S).wp N = (a σ S).wp { N with nx := fun σ S => (b σ S).wp N } := by
  unfold seqS
  cases a σ S <;> rfl
@[simp ↓] theorem wp_pass : (passS σ S).wp N = N.nx σ S := id rfl
@[simp ↓] theorem wp_brk : (brkS σ S).wp N = N.bk σ S := id rfl
@[simp ↓] theorem wp_cnt : (cntS σ S).wp N = N.ct σ S := id rfl
@[simp ↓] theorem wp_asg (e : Ex) (g : Tg) : (asgS e g σ S).wp N = (e σ S).wp (fun d S1 => (g d σ S1).wp (fun σ2 S2 => N.nx σ2 S2) N.ex) N.ex := by
  unfold asgS
  rw [wp_run]
  congr 1
  funext d S1
  rw [wp_run]
  rfl
@[simp ↓] theorem wp_par (is : List Nat) (a : Ax) : (parS is a σ S).wp N = (a σ S).wp (fun ds S1 => N.nx (setAll is ds σ) S1) N.ex := by
  unfold parS
  rw [wp_run]
  rfl
@[simp ↓] theorem wp_expr (e : Ex) : (exprS e σ S).wp N = (e σ S).wp (fun _ S1 => N.nx σ S1) N.ex := by
  unfold exprS
  rw [wp_run]
  rfl
@[simp ↓] theorem wp_ret (e : Ex) : (retS e σ S).wp N = (e σ S).wp (fun d S1 => N.rt d S1) N.ex := by
  unfold retS
  rw [wp_run]
  rfl
@[simp ↓] theorem wp_if (c : Tx) (a b : Sx) : (ifS c a b σ S).wp N = (c σ S).wp (fun k S1 => (if k = true then a σ S1 else b σ S1).wp N) N.ex := by
  unfold ifS
  rw [wp_run]
theorem wp_ite {f g : F} {p : Prop} [Decidable p] : (if p then f else g).wp N = if p then f.wp N else g.wp N := by split <;> rfl
theorem wp_iteR {f g : R α} {p : Prop} [Decidable p] : (if p then f else g).wp P E = if p then f.wp P E else g.wp P E := by split <;> rfl
@[simp ↓] theorem wp_raise (c : Str) : (raiseS c σ S).wp N = N.ex c S := id rfl
@[simp ↓] theorem wp_for (it : It) (g : Tg) (b : Sx) : (forS it g b σ S).wp N = (it σ S).wp (fun xs S1 => (forL g b xs σ S1).wp N) N.ex := by
  unfold forS
  rw [wp_run]
/-- a walk: I of what has been walked -/
theorem wp_forL {g : Tg} {b : Sx} {xs : List D} (I : List D → En → Sto → Prop) (h0 : I [] σ S)
    (hs : ∀ pre x post σ S, xs = pre ++ x :: post → I pre σ S → (g x σ S).wp (fun σ1 S1 => (b σ1 S1).wp { N with nx := fun σ2 S2 => I (pre ++ [x]) σ2 S2, ct := fun σ2 S2 => I (pre ++ [x]) σ2 S2, bk := fun σ2 S2 => N.nx σ2 S2 }) N.ex)
    (he : ∀ σ S, I xs σ S → N.nx σ S) : (forL g b xs σ S).wp N := by
  have key : ∀ (post pre : List D) (σ : En) (S : Sto), xs = pre ++ post → I pre σ S → (forL g b post σ S).wp N := by
    intro post
    induction post with
    | nil =>
      intro pre σ S e h
      rw [List.append_nil] at e
      subst e
      exact he σ S h
    | cons x post ih =>
      intro pre σ S e h
      have z := hs pre x post σ S e h
      have e2 : xs = (pre ++ [x]) ++ post := by rw [e]; simp
      unfold forL
      cases hg : g x σ S with
      | ok σ1 S1 =>
        rw [hg] at z
        have z2 : (b σ1 S1).wp _ := z
        simp only
        cases hb : b σ1 S1 with
        | nx σ2 S2 => rw [hb] at z2; exact ih _ σ2 S2 e2 z2
        | ct σ2 S2 => rw [hb] at z2; exact ih _ σ2 S2 e2 z2
        | bk σ2 S2 => rw [hb] at z2; exact z2
        | rt d S2 => rw [hb] at z2; exact z2
        | ex c S2 => rw [hb] at z2; exact z2
        | no => rw [hb] at z2; exact z2
      | ex c S1 => rw [hg] at z; exact z
      | no => rw [hg] at z; exact z
  exact key xs [] σ S rfl h0
/-- a comprehension that may change the store: I of what has been walked and what has been made -/
theorem wp_lcL {g : Tg} {c : Tx} {e : Ex} {xs : List D} {P : List D → Sto → Prop} {E : Str → Sto → Prop} (I : List D → List D → Sto → Prop) (h0 : I [] [] S)
    (hs : ∀ pre x post acc S, xs = pre ++ x :: post → I pre acc S → (g x σ S).wp (fun σ1 S1 => (c σ1 S1).wp (fun k S2 => if k = true then (e σ1 S2).wp (fun d S3 => I (pre ++ [x]) (acc ++ [d]) S3) noE else I (pre ++ [x]) acc S2) noE) noE)
    (he : ∀ acc S, I xs acc S → P acc S) : (lcL g c e σ xs S).wp P E := by
  have key : ∀ (post pre acc : List D) (S : Sto), xs = pre ++ post → I pre acc S → (lcL g c e σ post S).wp (fun ds S' => I xs (acc ++ ds) S') E := by
    intro post
    induction post with
    | nil =>
      intro pre acc S e h
      rw [List.append_nil] at e
      subst e
      show I xs (acc ++ []) S
      rw [List.append_nil]
      exact h
    | cons x post ih =>
      intro pre acc S e1 h
      have z := hs pre x post acc S e1 h
      have e2 : xs = (pre ++ [x]) ++ post := by rw [e1]; simp
      unfold lcL
      cases hg : g x σ S with
      | ex c S1 => rw [hg] at z; exact z.elim
      | no => rw [hg] at z; exact z.elim
      | ok σ1 S1 =>
        rw [hg, wp_ok] at z
        simp only
        cases hc : c σ1 S1 with
        | ex c S1 => rw [hc] at z; exact z.elim
        | no => rw [hc] at z; exact z.elim
        | ok k S2 =>
          rw [hc, wp_ok] at z
          simp only
          cases k with
          | false =>
            simp only [Bool.false_eq_true, if_false] at z ⊢
            exact ih _ _ _ e2 z
          | true =>
            simp only [if_true] at z ⊢
            cases hd : e σ1 S2 with
            | ex c S1 => rw [hd] at z; exact z.elim
            | no => rw [hd] at z; exact z.elim
            | ok d S3 =>
              rw [hd, wp_ok] at z
              simp only
              rw [wp_bind]
              refine (ih _ _ _ e2 z).mono (fun ds S' h => ?_) fun _ _ h => h
              show I xs (acc ++ d :: ds) S'
              have : acc ++ d :: ds = acc ++ [d] ++ ds := by simp
              rw [this]
              exact h
  exact (key xs [] [] S rfl h0).mono (fun a S h => he _ _ h) fun _ _ h => h
/-- a comprehension that changes nothing -/
theorem lcL_pure {g : Tg} {c : Tx} {e : Ex} {xs : List D} (p : D → Bool) (f : D → D)
    (h : ∀ x ∈ xs, ∃ σ1, g x σ S = .ok σ1 S ∧ c σ1 S = .ok (p x) S ∧ (p x = true → e σ1 S = .ok (f x) S)) : lcL g c e σ xs S = .ok ((xs.filter p).map f) S := by
  induction xs with
  | nil => rfl
  | cons x xs ih =>
    obtain ⟨σ1, h1, h2, h3⟩ := h x (List.mem_cons_self ..)
    have ih := ih fun y hy => h y (List.mem_cons_of_mem _ hy)
    unfold lcL
    rw [h1]
    simp only [h2]
    cases hp : p x with
    | false => simp [ih, hp]
    | true => simp [h3 hp, ih, hp]
/-! ### expressions -/
@[simp ↓] theorem wp_cons (e : Ex) (r : Ax) {P : List D → Sto → Prop} : (consA e r σ S).wp P E = (e σ S).wp (fun d S1 => (r σ S1).wp (fun ds S2 => P (d :: ds) S2) E) E := by
  unfold consA
  rw [wp_bind]
  congr 1
  funext d S1
  rw [wp_bind]
  rfl
@[simp ↓] theorem wp_nil {P : List D → Sto → Prop} : (nilA σ S).wp P E = P [] S := id rfl
@[simp ↓] theorem wp_c (d : PyData) {P : D → Sto → Prop} : (cE d σ S).wp P E = P (.py d) S := id rfl
@[simp ↓] theorem wp_op (g : D → D → Sto → R D) (a b : Ex) {P : D → Sto → Prop} : (opE g a b σ S).wp P E = (a σ S).wp (fun x S1 => (b σ S1).wp (fun y S2 => (g x y S2).wp P E) E) E := by
  unfold opE
  rw [wp_bind]
  congr 1
  funext d S1
  rw [wp_bind]
@[simp ↓] theorem wp_op1 (g : D → Sto → R D) (a : Ex) {P : D → Sto → Prop} : (op1 g a σ S).wp P E = (a σ S).wp (fun x S1 => (g x S1).wp P E) E := by
  unfold op1
  rw [wp_bind]
@[simp ↓] theorem wp_call (g : List D → Sto → R D) (a : Ax) {P : D → Sto → Prop} : (callE g a σ S).wp P E = (a σ S).wp (fun ds S1 => (g ds S1).wp P E) E := by
  unfold callE
  rw [wp_bind]
@[simp ↓] theorem wp_callL (g : List D → Sto → R (List D)) (a : Ax) {P : List D → Sto → Prop} : (callL g a σ S).wp P E = (a σ S).wp (fun ds S1 => (g ds S1).wp P E) E := by
  unfold callL
  rw [wp_bind]
@[simp ↓] theorem wp_methL (g : D → List D → Sto → R D) (o : Ex) (a : Ax) {P : D → Sto → Prop} : (methL g o a σ S).wp P E = (o σ S).wp (fun x S1 => if lsOk S1 x = true then (a σ S1).wp (fun ds S2 => (g x ds S2).wp P E) E else False) E := by
  unfold methL
  rw [wp_bind]
  congr 1
  funext d S1
  rw [wp_iteR, wp_bind]
  rfl
@[simp ↓] theorem wp_tup (a : Ax) {P : D → Sto → Prop} : (tupE a σ S).wp P E = (a σ S).wp (fun ds S1 => match pysOf ds with
  | some ps => P (.py (.tuple ps)) S1
  | none => False) E := by
  unfold tupE
  rw [wp_bind]
  congr 1
  funext d S1
  cases pysOf d <;> rfl
@[simp ↓] theorem wp_frz (a : Ax) {P : D → Sto → Prop} : (frzE a σ S).wp P E = (a σ S).wp (fun ds S1 => match pysOf ds with
  | some ps => P (.py (.list ps)) S1
  | none => False) E := by
  unfold frzE frz
  rw [wp_bind]
  congr 1
  funext d S1
  cases pysOf d <;> rfl
@[simp ↓] theorem wp_thw (a : Ax) {P : D → Sto → Prop} : (thwE a σ S).wp P E = (a σ S).wp (fun ds S1 => P (.obj S1.length) (S1 ++ [.lst ds])) E := by
  unfold thwE thw
  rw [wp_bind]
  rfl
@[simp ↓] theorem wp_lcX (it : It) (vs : List Nat) (g : Tg) (c : Tx) (e : Ex) {P : List D → Sto → Prop} : (lcX it vs g c e σ S).wp P E = (it σ S).wp (fun xs S1 => (lcL g c e (wipeD σ vs) xs S1).wp P E) E := by
  unfold lcX
  rw [wp_bind]
@[simp ↓] theorem wp_val (a : Ex) {P : Bool → Sto → Prop} : (valT a σ S).wp P E = (a σ S).wp (fun x S1 => ∃ k, x = .py (.bool k) ∧ P k S1) E := by
  unfold valT
  rw [wp_bind]
  congr 1
  funext d S1
  split
  · exact propext ⟨fun h => ⟨_, rfl, h⟩, fun ⟨k, e, h⟩ => by cases e; exact h⟩
  · rename_i hn
    exact propext ⟨fun h => h.elim, fun ⟨k, e, h⟩ => (hn k e).elim⟩
@[simp ↓] theorem wp_andT (a b : Tx) {P : Bool → Sto → Prop} : (andT a b σ S).wp P E = (a σ S).wp (fun k S1 => if k = true then (b σ S1).wp P E else P false S1) E := by
  unfold andT
  rw [wp_bind]
  congr 1
  funext d S1
  split <;> rfl
@[simp ↓] theorem wp_orT (a b : Tx) {P : Bool → Sto → Prop} : (orT a b σ S).wp P E = (a σ S).wp (fun k S1 => if k = true then P true S1 else (b σ S1).wp P E) E := by
  unfold orT
  rw [wp_bind]
  congr 1
  funext d S1
  split <;> rfl
@[simp ↓] theorem wp_notT (a : Tx) {P : Bool → Sto → Prop} : (notT a σ S).wp P E = (a σ S).wp (fun k S1 => P (!k) S1) E := by
  unfold notT
  rw [wp_bind]
  rfl
@[simp ↓] theorem wp_yes {P : Bool → Sto → Prop} : (yesT σ S).wp P E = P true S := id rfl
@[simp ↓] theorem wp_ifE (c : Tx) (a b : Ex) {P : D → Sto → Prop} : (ifE c a b σ S).wp P E = (c σ S).wp (fun k S1 => if k = true then (a σ S1).wp P E else (b σ S1).wp P E) E := by
  unfold ifE
  rw [wp_bind]
  congr 1
  funext d S1
  split <;> rfl
@[simp] theorem var_zero (d : D) (r : En) : varE 0 (some d :: r) S = .ok d S := id rfl
@[simp] theorem var_succ (i : Nat) (x : Option D) (r : En) : varE (i + 1) (x :: r) S = varE i r S := id rfl
@[simp ↓] theorem wp_nm (i : Nat) (d : D) {P : En → Sto → Prop} : (nmG i d σ S).wp P E = P (σ.set i (some d)) S := id rfl
@[simp ↓] theorem wp_tupG (n : Nat) (r : List D → En → Sto → R En) (ps : List PyData) {P : En → Sto → Prop} : (tupG n r (.py (.tuple ps)) σ S).wp P E = if ps.length = n then (r (ps.map .py) σ S).wp P E else False := by
  unfold tupG
  rw [wp_iteR]
  rfl
@[simp ↓] theorem wp_consG (g : Tg) (r : List D → En → Sto → R En) (d : D) (ds : List D) {P : En → Sto → Prop} : (consG g r (d :: ds) σ S).wp P E = (g d σ S).wp (fun σ1 S1 => (r ds σ1 S1).wp P E) E := by
  unfold consG
  rw [wp_bind]
@[simp ↓] theorem wp_nilG {P : En → Sto → Prop} : (nilG [] σ S).wp P E = P σ S := id rfl
def seqD : D → Option (List PyData)
  | .py (.list ds) => some ds
  | .py (.tuple ds) => some ds
  | _ => none
@[simp] theorem seqD_list (ds : List PyData) : seqD (.py (.list ds)) = some ds := id rfl
@[simp] theorem seqD_tuple (ds : List PyData) : seqD (.py (.tuple ds)) = some ds := id rfl
@[simp ↓] theorem wp_seqI (e : Ex) {P : List D → Sto → Prop} : (seqI e σ S).wp P E = (e σ S).wp (fun d S1 => ∃ ds, seqD d = some ds ∧ P (ds.map .py) S1) E := by
  unfold seqI
  rw [wp_bind]
  congr 1
  funext d S1
  rcases d with d | n | n
  · cases d
    case list ds => exact propext ⟨fun h => ⟨ds, rfl, h⟩, fun ⟨_, e, h⟩ => by cases e; exact h⟩
    case tuple ds => exact propext ⟨fun h => ⟨ds, rfl, h⟩, fun ⟨_, e, h⟩ => by cases e; exact h⟩
    all_goals exact propext ⟨fun h => h.elim, fun ⟨_, e, _⟩ => by cases e⟩
  · exact propext ⟨fun h => h.elim, fun ⟨_, e, _⟩ => by cases e⟩
  · exact propext ⟨fun h => h.elim, fun ⟨_, e, _⟩ => by cases e⟩
@[simp ↓] theorem wp_rng1 (e : Ex) {P : List D → Sto → Prop} : (rng1I e σ S).wp P E = (e σ S).wp (fun d S1 => ∃ j, d = .py (.int j) ∧ (-(2 ^ 62) ≤ j ∧ j ≤ 16777216) ∧ P (rngV 0 j.toNat) S1) E := by
  unfold rng1I
  rw [wp_bind]
  congr 1
  funext d S1
  split
  · rw [wp_iteR]
    split
    · rename_i h
      exact propext ⟨fun p => ⟨_, rfl, h, p⟩, fun ⟨j, e, _, p⟩ => by cases e; exact p⟩
    · rename_i h
      exact propext ⟨fun p => p.elim, fun ⟨j, e, h', p⟩ => by cases e; exact h h'⟩
  · rename_i hn
    exact propext ⟨fun h => h.elim, fun ⟨k, e, _, h⟩ => (hn k e).elim⟩
@[simp ↓] theorem wp_zip (a b : Ex) {P : List D → Sto → Prop} : (zipI a b σ S).wp P E = (a σ S).wp (fun x S1 => (b σ S1).wp (fun y S2 => ∃ xs ys, pyWalk S2 x = some xs ∧ pyWalk S2 y = some ys ∧ P ((xs.zip ys).map fun p => D.py (.tuple [p.1, p.2])) S2) E) E := by
  unfold zipI
  rw [wp_bind]
  congr 1
  funext d S1
  rw [wp_bind]
  congr 1
  funext d2 S2
  split
  · rename_i h1 h2
    exact propext ⟨fun p => ⟨_, _, h1, h2, p⟩, fun ⟨_, _, e1, e2, p⟩ => by rw [h1] at e1; rw [h2] at e2; cases e1; cases e2; exact p⟩
  · rename_i hn
    exact propext ⟨fun h => h.elim, fun ⟨_, _, e1, e2, _⟩ => (hn _ _ e1 e2).elim⟩
/-! ### operators upon known values -/
section
variable {i j : Int} {S : Sto}
@[simp] theorem addD_int : addD (.py (.int i)) (.py (.int j)) S = .ok (.py (.int (i + j))) S := id rfl
@[simp] theorem subD_int : subD (.py (.int i)) (.py (.int j)) S = .ok (.py (.int (i - j))) S := id rfl
@[simp] theorem mulD_l (h : -(2 ^ 64) < i ∧ i < 2 ^ 64) : mulD (.py (.int i)) (.py (.int j)) S = .ok (.py (.int (i * j))) S := if_pos (.inl h)
@[simp] theorem mulD_r (h : -(2 ^ 64) < j ∧ j < 2 ^ 64) : mulD (.py (.int i)) (.py (.int j)) S = .ok (.py (.int (i * j))) S := if_pos (.inr h)
@[simp] theorem fdivD_int (h : 0 < j ∧ j < 1073741824) : fdivD (.py (.int i)) (.py (.int j)) S = .ok (.py (.int (i / j))) S := if_pos h
@[simp] theorem modD_int (h : 0 < j) : modD (.py (.int i)) (.py (.int j)) S = .ok (.py (.int (i % j))) S := if_pos h
@[simp] theorem divmodD_int (h : 0 < j ∧ j < 1073741824) : divmodD [.py (.int i), .py (.int j)] S = .ok (.py (.tuple [.int (i / j), .int (i % j)])) S := if_pos h
@[simp] theorem negD_int : negD (.py (.int i)) S = .ok (.py (.int (-i))) S := id rfl
@[simp] theorem eqD_int : eqD (.py (.int i)) (.py (.int j)) S = .ok (.py (.bool (decide (i = j)))) S := id rfl
@[simp] theorem neD_int : neD (.py (.int i)) (.py (.int j)) S = .ok (.py (.bool (!decide (i = j)))) S := id rfl
@[simp] theorem eqD_str {x y : Str} : eqD (.py (.str x)) (.py (.str y)) S = .ok (.py (.bool (decide (x = y)))) S := id rfl
@[simp] theorem neD_str {x y : Str} : neD (.py (.str x)) (.py (.str y)) S = .ok (.py (.bool (!decide (x = y)))) S := id rfl
@[simp] theorem ltD_int : ltD (.py (.int i)) (.py (.int j)) S = .ok (.py (.bool (decide (i < j)))) S := id rfl
@[simp] theorem cmpI_int {p : Int → Int → Bool} : cmpI p (.py (.int i)) (.py (.int j)) S = .ok (.py (.bool (p i j))) S := id rfl
@[simp] theorem lenD_list {ds : List PyData} : lenD [.py (.list ds)] S = .ok (.py (.int (ds.length : Nat))) S := by simp [lenD, seqOf]
@[simp] theorem lenD_tuple {ds : List PyData} : lenD [.py (.tuple ds)] S = .ok (.py (.int (ds.length : Nat))) S := by simp [lenD, seqOf]
theorem lenD_obj {n : Nat} {ds : List D} (h : S[n]? = some (.lst ds)) : lenD [.obj n] S = .ok (.py (.int (ds.length : Nat))) S := by simp [lenD, seqOf, h]
@[simp] theorem tupleD_list {ds : List PyData} : tupleD [.py (.list ds)] S = .ok (.py (.tuple ds)) S := by simp [tupleD, seqOf]
theorem tupleD_obj {n : Nat} {ds : List PyData} (h : S[n]? = some (.lst (ds.map .py))) : tupleD [.obj n] S = .ok (.py (.tuple ds)) S := by simp [tupleD, seqOf, h]
@[simp] theorem listD_list {ds : List PyData} : listD [.py (.list ds)] S = .ok (ds.map .py) S := by simp [listD, seqOf]
@[simp] theorem max2D_int : max2D [.py (.int i), .py (.int j)] S = .ok (.py (.int (if j > i then j else i))) S := id rfl
@[simp] theorem min2D_int : min2D [.py (.int i), .py (.int j)] S = .ok (.py (.int (if j < i then j else i))) S := id rfl
@[simp] theorem absD_int : absD [.py (.int i)] S = .ok (.py (.int (if i < 0 then -i else i))) S := id rfl
theorem atI_nat {α : Type} {xs : List α} (k : Nat) (x : α) (h : xs[k]? = some x) : L2.atI xs (k : Int) = some x := L2.atI_nat h
theorem itemD_list {ds : List PyData} (k : Nat) {d : PyData} (h : ds[k]? = some d) : itemD (.py (.list ds)) (.py (.int k)) S = .ok (.py d) S := by
  simp [itemD, seqOf, atI_nat k (D.py d) (xs := ds.map .py) (by simp [h])]
theorem itemD_tuple {ds : List PyData} (k : Nat) {d : PyData} (h : ds[k]? = some d) : itemD (.py (.tuple ds)) (.py (.int k)) S = .ok (.py d) S := by
  simp [itemD, seqOf, atI_nat k (D.py d) (xs := ds.map .py) (by simp [h])]
theorem itemD_obj {n : Nat} {ds : List D} (hn : S[n]? = some (.lst ds)) (k : Nat) {d : D} (h : ds[k]? = some d) : itemD (.obj n) (.py (.int k)) S = .ok d S := by
  simp [itemD, seqOf, hn, atI_nat k d h]
@[simp] theorem itemD_l0 {a : PyData} {r : List PyData} : itemD (.py (.list (a :: r))) (.py (.int 0)) S = .ok (.py a) S := itemD_list 0 rfl
@[simp] theorem itemD_l1 {a b : PyData} {r : List PyData} : itemD (.py (.list (a :: b :: r))) (.py (.int 1)) S = .ok (.py b) S := itemD_list 1 rfl
@[simp] theorem itemD_t0 {a : PyData} {r : List PyData} : itemD (.py (.tuple (a :: r))) (.py (.int 0)) S = .ok (.py a) S := itemD_tuple 0 rfl
@[simp] theorem itemD_t1 {a b : PyData} {r : List PyData} : itemD (.py (.tuple (a :: b :: r))) (.py (.int 1)) S = .ok (.py b) S := itemD_tuple 1 rfl
@[simp] theorem itemD_t2 {a b c : PyData} {r : List PyData} : itemD (.py (.tuple (a :: b :: c :: r))) (.py (.int 2)) S = .ok (.py c) S := itemD_tuple 2 rfl
theorem appendD_obj {n : Nat} {ds : List D} {d : D} (h : S[n]? = some (.lst ds)) (hl : ds.length < sizeLine) : appendD (.obj n) [d] S = .ok (.py .none) (S.set n (.lst (ds ++ [d]))) := by simp [appendD, h, hl]
@[simp] theorem lsOk_list {ds : List PyData} : lsOk S (.py (.list ds)) = true := id rfl
theorem lsOk_obj {n : Nat} {ds : List D} (h : S[n]? = some (.lst ds)) : lsOk S (.obj n) = true := by simp [lsOk, h]
@[simp] theorem pw_list {ds : List PyData} : pyWalk S (.py (.list ds)) = some ds := id rfl
@[simp] theorem pw_tuple {ds : List PyData} : pyWalk S (.py (.tuple ds)) = some ds := id rfl
end
@[simp] theorem pysOf_comp {α : Type} (f : α → PyData) (l : List α) : pysOf (l.map (D.py ∘ f)) = some (l.map f) := by
  rw [← List.map_map, pysOf_map]
@[simp] theorem pysOf_fun {α : Type} (f : α → PyData) (l : List α) : pysOf (l.map fun x => D.py (f x)) = some (l.map f) := pysOf_comp f l
theorem listD_str {x : Str} {S : Sto} (h : x.length ≤ sizeLine) : listD [.py (.str x)] S = .ok (x.cps.toList.map fun c => D.py (.str ⟨#[c]⟩)) S := if_pos h
@[simp] theorem setAll_nil (ds : List D) (σ : En) : setAll [] ds σ = σ := id rfl
@[simp] theorem setAll_cons (i : Nat) (is : List Nat) (d : D) (ds : List D) (σ : En) : setAll (i :: is) (d :: ds) σ = setAll is ds (σ.set i (some d)) := id rfl
@[simp] theorem wipe_nil (σ : En) : wipeD σ [] = σ := id rfl
@[simp] theorem wipe_cons (σ : En) (v : Nat) (vs : List Nat) : wipeD σ (v :: vs) = (wipeD σ vs).set v none := id rfl
theorem popD_at {n : Nat} {ds : List D} {i : Int} {d : D} {S : Sto} (h : S[n]? = some (.lst ds)) (hi : 0 ≤ i ∧ i < 2 ^ 62) (hd : ds[i.toNat]? = some d) : popD (.obj n) [.py (.int i)] S = .ok d (S.set n (.lst (ds.eraseIdx i.toNat))) := by
  simp only [popD, h, hd]
  rw [if_pos hi]
theorem wp_eq {α : Type} {r : R α} {v : α} {S : Sto} (h : r.wp (fun a T => a = v ∧ T = S) noE) : r = .ok v S := by
  obtain ⟨a, T, e, rfl, rfl⟩ := h.out
  exact e
theorem wp_of {α : Type} {r : R α} {v : α} {S : Sto} {P : α → Sto → Prop} {E : Str → Sto → Prop} (h : r = .ok v S) (q : P v S) : r.wp P E := by rw [h]; exact q
theorem wp_pure {g : Tg} {c : Tx} {e : Ex} {xs : List D} {σ : En} {S : Sto} {P : List D → Sto → Prop} {E : Str → Sto → Prop} (p : D → Bool) (f : D → D)
    (h : ∀ x ∈ xs, ∃ σ1, g x σ S = .ok σ1 S ∧ c σ1 S = .ok (p x) S ∧ (p x = true → e σ1 S = .ok (f x) S)) (q : P ((xs.filter p).map f) S) : (lcL g c e σ xs S).wp P E := wp_of (lcL_pure p f h) q
/-- one name, no test -/
theorem wp_pure1 {i : Nat} {e : Ex} {xs : List D} {σ : En} {S : Sto} {P : List D → Sto → Prop} {E : Str → Sto → Prop} (f : D → D)
    (h : ∀ x ∈ xs, e (σ.set i (some x)) S = .ok (f x) S) (q : P (xs.map f) S) : (lcL (nmG i) yesT e σ xs S).wp P E :=
  wp_pure (fun _ => true) f (fun x hx => ⟨_, rfl, rfl, fun _ => h x hx⟩) (by rw [List.filter_eq_self.mpr fun _ _ => rfl]; exact q)
theorem slot_any {σ l : En} {i : Nat} (h : σ.set i none = l) : ∃ y, σ = l.set i y := by
  subst h
  by_cases hi : i < σ.length
  · refine ⟨σ[i], ?_⟩
    rw [List.set_set, List.set_getElem_self]
  · exact ⟨none, by rw [List.set_set, List.set_eq_of_length_le (by omega)]⟩
theorem itemD_listI {ds : List PyData} {i : Int} {d : PyData} {S : Sto} (h0 : 0 ≤ i) (h : ds[i.toNat]? = some d) : itemD (.py (.list ds)) (.py (.int i)) S = .ok (.py d) S := by
  obtain ⟨k, rfl⟩ : ∃ k : Nat, i = k := ⟨i.toNat, by omega⟩
  exact itemD_list k h
theorem itemD_tupleI {ds : List PyData} {i : Int} {d : PyData} {S : Sto} (h0 : 0 ≤ i) (h : ds[i.toNat]? = some d) : itemD (.py (.tuple ds)) (.py (.int i)) S = .ok (.py d) S := by
  obtain ⟨k, rfl⟩ : ∃ k : Nat, i = k := ⟨i.toNat, by omega⟩
  exact itemD_tuple k h
/-! ### an item is set -/
def ixP (x k d : D) (σ : En) (S2 : Sto) : R En := match x, k with
  | .obj n, .py (.int k) => (match S2[n]? with
    | some (.lst ds) => (match L2.ixN ds.length k with
      | some j => .ok σ (S2.set n (.lst (ds.set j d)))
      | none => .no)
    | _ => .no)
  | _, _ => .no
@[simp ↓] theorem wp_ix (o i : Ex) (d : D) {σ : En} {S : Sto} {P : En → Sto → Prop} {E : Str → Sto → Prop} : (ixG o i d σ S).wp P E = (o σ S).wp (fun x S1 => (i σ S1).wp (fun k S2 => (ixP x k d σ S2).wp P E) E) E := by
  unfold ixG
  rw [wp_bind]
  congr 1
  funext x S1
  rw [wp_bind]
  rfl
theorem ixP_obj {n k : Nat} {ds : List D} {d : D} {σ : En} {S : Sto} (h : S[n]? = some (.lst ds)) (hk : k < ds.length) : ixP (.obj n) (.py (.int k)) d σ S = .ok σ (S.set n (.lst (ds.set k d))) := by
  have : L2.ixN ds.length (k : Int) = some k := by simp [L2.ixN]; omega
  simp [ixP, h, this]
theorem ixP_0 {n : Nat} {a : D} {ds : List D} {d : D} {σ : En} {S : Sto} (h : S[n]? = some (.lst (a :: ds))) : ixP (.obj n) (.py (.int 0)) d σ S = .ok σ (S.set n (.lst (d :: ds))) := ixP_obj (k := 0) h (by simp)
theorem ixP_1 {n : Nat} {a b : D} {ds : List D} {d : D} {σ : En} {S : Sto} (h : S[n]? = some (.lst (a :: b :: ds))) : ixP (.obj n) (.py (.int 1)) d σ S = .ok σ (S.set n (.lst (a :: d :: ds))) := ixP_obj (k := 1) h (by simp)
@[simp] theorem exists_bool {P : Bool → Prop} {d : Bool} : (∃ k, D.py (.bool d) = D.py (.bool k) ∧ P k) = P d := propext ⟨fun ⟨k, e, h⟩ => by cases e; exact h, fun h => ⟨d, rfl, h⟩⟩
@[simp ↓] theorem wp_zip3 (a b c : Ex) {σ : En} {S : Sto} {P : List D → Sto → Prop} {E : Str → Sto → Prop} : (zip3I a b c σ S).wp P E = (a σ S).wp (fun x S1 => (b σ S1).wp (fun y S2 => (c σ S2).wp (fun z S3 => ∃ xs ys zs, pyWalk S3 x = some xs ∧ pyWalk S3 y = some ys ∧ pyWalk S3 z = some zs ∧ P ((xs.zip (ys.zip zs)).map fun p => D.py (.tuple [p.1, p.2.1, p.2.2])) S3) E) E) E := by
  unfold zip3I
  rw [wp_bind]
  congr 1
  funext d S1
  rw [wp_bind]
  congr 1
  funext d2 S2
  rw [wp_bind]
  congr 1
  funext d3 S3
  split
  · rename_i h1 h2 h3
    exact propext ⟨fun p => ⟨_, _, _, h1, h2, h3, p⟩, fun ⟨_, _, _, e1, e2, e3, p⟩ => by rw [h1] at e1; rw [h2] at e2; rw [h3] at e3; cases e1; cases e2; cases e3; exact p⟩
  · rename_i hn
    exact propext ⟨fun h => h.elim, fun ⟨_, _, _, e1, e2, e3, _⟩ => (hn _ _ _ e1 e2 e3).elim⟩
@[simp] theorem zip3_mmm {α β γ : Type} (f : α → PyData) (g : β → PyData) (h : γ → PyData) (xs : List α) (ys : List β) (zs : List γ) : ((xs.map f).zip ((ys.map g).zip (zs.map h))).map (fun p => D.py (.tuple [p.1, p.2.1, p.2.2])) = (xs.zip (ys.zip zs)).map fun p => D.py (.tuple [f p.1, g p.2.1, h p.2.2]) := by
  rw [List.zip_map, List.zip_map, List.map_map]
  rfl
@[simp ↓] theorem wp_forL_nil {g : Tg} {b : Sx} {σ : En} {S : Sto} {N : K} : (forL g b [] σ S).wp N = N.nx σ S := id rfl
@[simp ↓] theorem wp_forL_cons {g : Tg} {b : Sx} {σ : En} {S : Sto} {N : K} {x : D} {xs : List D} : (forL g b (x :: xs) σ S).wp N =
    (g x σ S).wp (fun σ1 S1 => (b σ1 S1).wp { N with nx := fun σ2 S2 => (forL g b xs σ2 S2).wp N, ct := fun σ2 S2 => (forL g b xs σ2 S2).wp N, bk := fun σ2 S2 => N.nx σ2 S2 }) N.ex := by
  rw [forL]
  cases g x σ S with
  | ok σ1 S1 =>
    simp only [wp_ok]
    cases b σ1 S1 <;> rfl
  | ex c S1 => rfl
  | no => rfl
@[simp ↓] theorem wp_enum (a : Ex) {σ : En} {S : Sto} {P : List D → Sto → Prop} {E : Str → Sto → Prop} : (enumI a σ S).wp P E = (a σ S).wp (fun x S1 => ∃ xs, pyWalk S1 x = some xs ∧ P (xs.zipIdx.map fun p => D.py (.tuple [.int (p.2 : Nat), p.1])) S1) E := by
  unfold enumI
  rw [wp_bind]
  congr 1
  funext d S1
  split
  · rename_i h1
    exact propext ⟨fun p => ⟨_, h1, p⟩, fun ⟨_, e1, p⟩ => by rw [h1] at e1; cases e1; exact p⟩
  · rename_i hn
    exact propext ⟨fun h => h.elim, fun ⟨_, e1, _⟩ => by rw [hn] at e1; cases e1⟩
@[simp] theorem enum_m {α : Type} (f : α → PyData) (xs : List α) : ((xs.map f).zipIdx).map (fun p => D.py (.tuple [.int (p.2 : Nat), p.1])) = xs.zipIdx.map fun p => D.py (.tuple [.int (p.2 : Nat), f p.1]) := by
  rw [List.zipIdx_map, List.map_map]
  rfl
section
variable {a b c : Ex} {σ : En} {S : Sto} {P : D → Sto → Prop} {E : Str → Sto → Prop}
@[simp ↓] theorem wp_andE : (andE a b σ S).wp P E = (a σ S).wp (fun x S1 => ∃ k, x = .py (.bool k) ∧ if k = true then (b σ S1).wp P E else P (.py (.bool false)) S1) E := by
  unfold andE
  rw [wp_bind]
  congr 1
  funext x S1
  rcases x with d | n | n
  · cases d
    case bool k => cases k <;> exact propext ⟨fun h => ⟨_, rfl, by simpa using h⟩, fun ⟨k, e, h⟩ => by cases e; simpa using h⟩
    all_goals exact propext ⟨fun h => h.elim, fun ⟨k, e, _⟩ => by cases e⟩
  · exact propext ⟨fun h => h.elim, fun ⟨k, e, _⟩ => by cases e⟩
  · exact propext ⟨fun h => h.elim, fun ⟨k, e, _⟩ => by cases e⟩
@[simp ↓] theorem wp_orE : (orE a b σ S).wp P E = (a σ S).wp (fun x S1 => ∃ k, x = .py (.bool k) ∧ if k = true then P (.py (.bool true)) S1 else (b σ S1).wp P E) E := by
  unfold orE
  rw [wp_bind]
  congr 1
  funext x S1
  rcases x with d | n | n
  · cases d
    case bool k => cases k <;> exact propext ⟨fun h => ⟨_, rfl, by simpa using h⟩, fun ⟨k, e, h⟩ => by cases e; simpa using h⟩
    all_goals exact propext ⟨fun h => h.elim, fun ⟨k, e, _⟩ => by cases e⟩
  · exact propext ⟨fun h => h.elim, fun ⟨k, e, _⟩ => by cases e⟩
  · exact propext ⟨fun h => h.elim, fun ⟨k, e, _⟩ => by cases e⟩
@[simp ↓] theorem wp_notE : (notE a σ S).wp P E = (a σ S).wp (fun x S1 => ∃ k, x = .py (.bool k) ∧ P (.py (.bool (!k))) S1) E := by
  unfold notE
  rw [wp_bind]
  congr 1
  funext x S1
  split
  · exact propext ⟨fun h => ⟨_, rfl, h⟩, fun ⟨k, e, h⟩ => by cases e; exact h⟩
  · rename_i hn
    exact propext ⟨fun h => h.elim, fun ⟨k, e, _⟩ => (hn k e).elim⟩
@[simp ↓] theorem wp_chain {g g' : D → D → Sto → R D} : (chainE g g' a b c σ S).wp P E = (a σ S).wp (fun x S1 => (b σ S1).wp (fun y S2 => (g x y S2).wp (fun z S3 => ∃ k, z = .py (.bool k) ∧ if k = true then (c σ S3).wp (fun w S4 => (g' y w S4).wp P E) E else P (.py (.bool false)) S3) E) E) E := by
  unfold chainE
  rw [wp_bind]
  congr 1
  funext x S1
  rw [wp_bind]
  congr 1
  funext y S2
  rw [wp_bind]
  congr 1
  funext z S3
  rcases z with d | n | n
  · cases d
    case bool k => cases k <;> exact propext ⟨fun h => ⟨_, rfl, by simpa [wp_bind] using h⟩, fun ⟨k, e, h⟩ => by cases e; simpa [wp_bind] using h⟩
    all_goals exact propext ⟨fun h => h.elim, fun ⟨k, e, _⟩ => by cases e⟩
  · exact propext ⟨fun h => h.elim, fun ⟨k, e, _⟩ => by cases e⟩
  · exact propext ⟨fun h => h.elim, fun ⟨k, e, _⟩ => by cases e⟩
@[simp] theorem isiD_none {T : String} : isiD T (.py .none) S = .ok (.py (.bool (isB "NoneType" T))) S := id rfl
@[simp] theorem isiD_bool {T : String} {k : Bool} : isiD T (.py (.bool k)) S = .ok (.py (.bool (isB "bool" T))) S := id rfl
@[simp] theorem isiD_int {T : String} {i : Int} : isiD T (.py (.int i)) S = .ok (.py (.bool (isB "int" T))) S := id rfl
@[simp] theorem isiD_str {T : String} {x : Str} : isiD T (.py (.str x)) S = .ok (.py (.bool (isB "str" T))) S := id rfl
@[simp] theorem isiD_list {T : String} {x : List PyData} : isiD T (.py (.list x)) S = .ok (.py (.bool (isB "list" T))) S := id rfl
@[simp] theorem isiD_tuple {T : String} {x : List PyData} : isiD T (.py (.tuple x)) S = .ok (.py (.bool (isB "tuple" T))) S := id rfl
@[simp] theorem isNon_int {i : Int} : isNon (.int i) = false := id rfl
@[simp] theorem isNon_none : isNon .none = true := id rfl
@[simp] theorem isND_py {d : PyData} : isND (.py d) (.py .none) S = .ok (.py (.bool (isNon d))) S := id rfl
@[simp] theorem notND_py {d : PyData} : notND (.py d) (.py .none) S = .ok (.py (.bool (!isNon d))) S := id rfl
theorem boolsOf_map : ∀ bs : List Bool, boolsOf (bs.map .bool) = some bs
  | [] => rfl
  | b :: bs => by
    show (boolsOf (bs.map .bool)).map (b :: ·) = _
    rw [boolsOf_map bs]
    rfl
theorem intsOf_map : ∀ bs : List Int, intsOf (bs.map .int) = some bs
  | [] => rfl
  | b :: bs => by
    show (intsOf (bs.map .int)).map (b :: ·) = _
    rw [intsOf_map bs]
    rfl
@[simp] theorem allD_bools {bs : List Bool} : allD [.py (.list (bs.map .bool))] S = .ok (.py (.bool (bs.all id))) S := by simp only [allD, boolsOf_map]
@[simp] theorem anyD_bools {bs : List Bool} : anyD [.py (.list (bs.map .bool))] S = .ok (.py (.bool (bs.any id))) S := by simp only [anyD, boolsOf_map]
@[simp] theorem sumD_ints {bs : List Int} : sumD [.py (.list (bs.map .int))] S = .ok (.py (.int bs.sum)) S := by simp only [sumD, intsOf_map]
end
/-! ### the last list of the store -/
section
variable {S : Sto} {o o' : O} {ds : List D} {d : D} {σ : En}
@[simp] theorem last_get : (S ++ [o])[S.length]? = some o := by simp
@[simp] theorem last_set : (S ++ [o]).set S.length o' = S ++ [o'] := by simp [List.set_append_right]
theorem appendD_last (h : ds.length < sizeLine) : appendD (.obj S.length) [d] (S ++ [.lst ds]) = .ok (.py .none) (S ++ [.lst (ds ++ [d])]) := by
  rw [appendD_obj last_get h, last_set]
@[simp] theorem lsOk_last : lsOk (S ++ [.lst ds]) (.obj S.length) = true := lsOk_obj last_get
theorem tupleD_last {ps : List PyData} : tupleD [.obj S.length] (S ++ [.lst (ps.map .py)]) = .ok (.py (.tuple ps)) (S ++ [.lst (ps.map .py)]) := tupleD_obj last_get
theorem fix_last {i : Nat} {ps : List PyData} {N : K} (hi : σ[i]? = some (some (.obj S.length))) (q : N.nx (σ.set i (some (.py (.list ps)))) (S ++ [.gone])) : (fixS i σ (S ++ [.lst (ps.map .py)])).wp N := by
  unfold fixS
  simp only [hi, last_get, pysOf_map, last_set]
  exact q
/-- S and one list more -/
def stL (S : Sto) (ds : List PyData) : Sto := S ++ [.lst (ds.map .py)]
theorem stL_nil : S ++ [.lst []] = stL S [] := rfl
@[simp] theorem stL_get {ds : List PyData} : (stL S ds)[S.length]? = some (.lst (ds.map .py)) := last_get
@[simp] theorem stL_lsOk {ds : List PyData} : lsOk (stL S ds) (.obj S.length) = true := lsOk_last
theorem stL_app {ds : List PyData} {d : PyData} (h : ds.length < sizeLine) : appendD (.obj S.length) [.py d] (stL S ds) = .ok (.py .none) (stL S (ds ++ [d])) := by
  unfold stL
  rw [appendD_last (by simpa using h)]
  simp
@[simp] theorem stL_tuple {ds : List PyData} : tupleD [.obj S.length] (stL S ds) = .ok (.py (.tuple ds)) (stL S ds) := tupleD_last
@[simp] theorem stL_len {ds : List PyData} : lenD [.obj S.length] (stL S ds) = .ok (.py (.int (ds.length : Nat))) (stL S ds) := by rw [lenD_obj stL_get, List.length_map]
theorem stL_fix {i : Nat} {ps : List PyData} {N : K} (hi : σ[i]? = some (some (.obj S.length))) (q : N.nx (σ.set i (some (.py (.list ps)))) (S ++ [.gone])) : (fixS i σ (stL S ps)).wp N := fix_last hi q
theorem stL_set {ds es : List PyData} : (stL S ds).set S.length (.lst (es.map .py)) = stL S es := last_set
@[simp] theorem stL_length {ds : List PyData} : (stL S ds).length = S.length + 1 := by simp [stL]
def lstAt (S : Sto) (n : Nat) : Option (List D) := match S[n]? with
  | some (.lst ds) => some ds
  | _ => none
theorem lstAt_of {n : Nat} (h : S[n]? = some (.lst ds)) : lstAt S n = some ds := by simp [lstAt, h]
theorem lstAt_get {n : Nat} (h : lstAt S n = some ds) : S[n]? = some (.lst ds) := by
  unfold lstAt at h
  split at h
  · rename_i ds' e
    cases h
    exact e
  · cases h
@[simp] theorem stL_lstAt {es : List PyData} : lstAt (stL S es) S.length = some (es.map .py) := lstAt_of stL_get
@[simp ↓] theorem wp_ext (e : Ex) (a : Ax) {P : D → Sto → Prop} {E : Str → Sto → Prop} : (extE e a σ S).wp P E = (e σ S).wp (fun x S1 => ∃ n es, x = .obj n ∧ lstAt S1 n = some es ∧ (a σ S1).wp (fun ds S2 => ∃ es2, lstAt S2 n = some es2 ∧ es2.length + ds.length ≤ sizeLine ∧ P (.py .none) (S2.set n (.lst (es2 ++ ds)))) E) E := by
  unfold extE
  rw [wp_bind]
  congr 1
  funext x S1
  rcases x with x | n | n
  · exact propext ⟨fun h => h.elim, fun ⟨_, _, e, _⟩ => by cases e⟩
  · cases h1 : S1[n]? with
    | none => exact propext ⟨fun h => by simp only [h1] at h; exact h.elim, fun ⟨_, _, e, h2, _⟩ => by cases e; rw [lstAt_get h2] at h1; cases h1⟩
    | some o =>
      cases o with
      | gone => exact propext ⟨fun h => by simp only [h1] at h; exact h.elim, fun ⟨_, _, e, h2, _⟩ => by cases e; rw [lstAt_get h2] at h1; cases h1⟩
      | tab _ _ => exact propext ⟨fun h => by simp only [h1] at h; exact h.elim, fun ⟨_, _, e, h2, _⟩ => by cases e; rw [lstAt_get h2] at h1; cases h1⟩
      | dt _ => exact propext ⟨fun h => by simp only [h1] at h; exact h.elim, fun ⟨_, _, e, h2, _⟩ => by cases e; rw [lstAt_get h2] at h1; cases h1⟩
      | dk _ => exact propext ⟨fun h => by simp only [h1] at h; exact h.elim, fun ⟨_, _, e, h2, _⟩ => by cases e; rw [lstAt_get h2] at h1; cases h1⟩
      | ins _ _ => exact propext ⟨fun h => by simp only [h1] at h; exact h.elim, fun ⟨_, _, e, h2, _⟩ => by cases e; rw [lstAt_get h2] at h1; cases h1⟩
      | tpl _ => exact propext ⟨fun h => by simp only [h1] at h; exact h.elim, fun ⟨_, _, e, h2, _⟩ => by cases e; rw [lstAt_get h2] at h1; cases h1⟩
      | lst es =>
        simp only [h1, wp_bind]
        refine propext ⟨fun h => ⟨n, es, rfl, lstAt_of h1, h.mono (fun ds S2 h => ?_) fun _ _ h => h⟩, fun ⟨m, es', e, h2, h⟩ => ?_⟩
        · cases h3 : S2[n]? with
          | none => simp only [h3] at h; exact h.elim
          | some o =>
            cases o with
            | gone => simp only [h3] at h; exact h.elim
            | tab _ _ => simp only [h3] at h; exact h.elim
            | dt _ => simp only [h3] at h; exact h.elim
            | dk _ => simp only [h3] at h; exact h.elim
            | ins _ _ => simp only [h3] at h; exact h.elim
            | tpl _ => simp only [h3] at h; exact h.elim
            | lst es2 =>
              simp only [h3] at h
              by_cases hl : es2.length + ds.length ≤ sizeLine
              · rw [if_pos hl] at h
                exact ⟨es2, lstAt_of h3, hl, h⟩
              · rw [if_neg hl] at h
                exact h.elim
        · cases e
          refine h.mono (fun ds S2 ⟨es2, h3, hl, h⟩ => ?_) fun _ _ h => h
          simp only [lstAt_get h3]
          rw [if_pos hl]
          exact h
  · exact propext ⟨fun h => h.elim, fun ⟨_, _, e, _⟩ => by cases e⟩
end
@[simp] theorem zip_mm {α β : Type} (f : α → PyData) (g : β → PyData) (xs : List α) (ys : List β) : ((xs.map f).zip (ys.map g)).map (fun p => D.py (.tuple [p.1, p.2])) = (xs.zip ys).map fun p => D.py (.tuple [f p.1, g p.2]) := by
  rw [List.zip_map, List.map_map]
  rfl
/-! ### defs -/
/-- what is left of the store when a def is done -/
structure Cut (S S' T : Sto) : Prop where
  le : S.length ≤ S'.length
  cut : T = S'.take S.length
  sub : ∀ (i : Nat) (o : O), i < S.length → S'[i]? = some o → S[i]? = some o ∨ o.pure = true
theorem Cut.self {S : Sto} : Cut S S S := ⟨Nat.le_refl _, (List.take_length).symm, fun i o _ h => .inl h⟩
theorem Cut.app {S T : Sto} : Cut S (S ++ T) S := ⟨by simp, by simp, fun i o hi h => .inl (by rwa [List.getElem?_append_left hi] at h)⟩
theorem Cut.stL {S : Sto} {ds : List PyData} : Cut S (stL S ds) S := Cut.app
theorem gc_cut {γ : Type} {p : Prop} {S S' T : Sto} {k : Sto → γ} (hp : p) (h : Cut S S' T) : gc p S S' k = k T := by
  unfold gc
  rw [if_pos ⟨hp, h.le, h.sub⟩, h.cut]
theorem wp_fn {n : Nat} {b : Sx} {ds : List D} {S : Sto} {Q : D → Sto → Prop} {E : Str → Sto → Prop}
    (h : (b (init n ds) S).wp { nx := fun _ S' => ∃ T, Cut S S' T ∧ Q (.py .none) T, rt := fun d S' => ∃ T, Cut S S' T ∧ d.pure = true ∧ Q d T, ex := fun c S' => ∃ T, Cut S S' T ∧ E c T }) : (fnF n b ds S).wp Q E := by
  unfold fnF fnR
  cases hb : b (init n ds) S with
  | nx σ S' =>
    rw [hb] at h
    obtain ⟨T, c, q⟩ := h
    simp only [gc_cut (p := True) trivial c]
    exact q
  | rt d S' =>
    rw [hb] at h
    obtain ⟨T, c, p, q⟩ := h
    simp only [gc_cut p c]
    exact q
  | ex c S' =>
    rw [hb] at h
    obtain ⟨T, c, q⟩ := h
    simp only [gc_cut (p := True) trivial c]
    exact q
  | bk σ S' => rw [hb] at h; exact h.elim
  | ct σ S' => rw [hb] at h; exact h.elim
  | no => rw [hb] at h; exact h.elim
/-- a def whose answer may be a list that is changed -/
theorem wp_fnM {n : Nat} {b : Sx} {ds : List D} {S : Sto} {Q : D → Sto → Prop} {E : Str → Sto → Prop}
    (h : (b (init n ds) S).wp { nx := fun _ _ => False, rt := fun d S' => d.pure = false ∧ Q d S' }) : (fnF n b ds S).wp Q E := by
  unfold fnF fnR
  cases hb : b (init n ds) S with
  | rt d S' =>
    rw [hb] at h
    obtain ⟨p, q⟩ := h
    show (gc (d.pure = true) S S' fun T => R.ok d T).wp Q E
    unfold gc
    rw [if_neg (by rw [p]; simp)]
    exact q
  | nx σ S' => rw [hb] at h; exact h.elim
  | ex c S' => rw [hb] at h; exact h.elim
  | bk σ S' => rw [hb] at h; exact h.elim
  | ct σ S' => rw [hb] at h; exact h.elim
  | no => rw [hb] at h; exact h.elim
/-- a def that makes nothing but its answer -/
theorem fn_eq {n : Nat} {b : Sx} {ds : List D} {S : Sto} {d : D} (h : (fnF n b ds S).wp (fun x T => x = d ∧ T = S) noE) : fnF n b ds S = .ok d S := by
  obtain ⟨a, T, e, rfl, rfl⟩ := h.out
  exact e
end
end DV

set_option maxHeartbeats 4000000
namespace DV
open PySem
/-! The box of the law's random numbers, and what is drawn from it. -/
/-- at n stands a box -/
def BoxAt (S : Sto) (n : Nat) : Prop := ∃ a b : Int, S[n]? = some (.lst [.py (.int a), .py (.int b)])
/-- but for n nothing of S has changed -/
structure Ch (n : Nat) (S S' : Sto) : Prop where
  le : S.length ≤ S'.length
  same : ∀ i, i < S.length → i ≠ n → S'[i]? = S[i]?
  box : BoxAt S' n
theorem BoxAt.lt {S : Sto} {n : Nat} (h : BoxAt S n) : n < S.length := by
  obtain ⟨a, b, e⟩ := h
  exact (List.getElem?_eq_some_iff.mp e).1
theorem Ch.refl {S : Sto} {n : Nat} (h : BoxAt S n) : Ch n S S := ⟨Nat.le_refl _, fun _ _ _ => rfl, h⟩
theorem Ch.trans {S S1 S2 : Sto} {n : Nat} (h : Ch n S S1) (h2 : Ch n S1 S2) : Ch n S S2 :=
  ⟨Nat.le_trans h.le h2.le, fun i hi ne => (h2.same i (Nat.lt_of_lt_of_le hi h.le) ne).trans (h.same i hi ne), h2.box⟩
theorem Ch.at_ {S S' : Sto} {n m : Nat} {o : O} (h : Ch n S S') (e : S[m]? = some o) (ne : m ≠ n) : S'[m]? = some o :=
  (h.same m (List.getElem?_eq_some_iff.mp e).1 ne).trans e
theorem Ch.set {S : Sto} {n : Nat} {a b : Int} (h : n < S.length) : Ch n S (S.set n (.lst [.py (.int a), .py (.int b)])) :=
  ⟨by simp, fun i hi ne => by rw [List.getElem?_set_ne (Ne.symm ne)], a, b, by simp [h]⟩
theorem Ch.app {S T : Sto} {n : Nat} (h : BoxAt S n) : Ch n S (S ++ T) :=
  ⟨by simp, fun i hi _ => by rw [List.getElem?_append_left hi], by
    obtain ⟨a, b, e⟩ := h
    exact ⟨a, b, by rw [List.getElem?_append_left (List.getElem?_eq_some_iff.mp e).1]; exact e⟩⟩
/-- a list of one's own is changed -/
theorem Ch.own {S S' : Sto} {n m : Nat} {o : O} (h : Ch n S S') (hm : S.length ≤ m) (hn : n < S.length) : Ch n S (S'.set m o) :=
  ⟨by rw [List.length_set]; exact h.le, fun i hi ne => by rw [List.getElem?_set_ne (by omega)]; exact h.same i hi ne, by
    obtain ⟨a, b, e⟩ := h.box
    exact ⟨a, b, by rw [List.getElem?_set_ne (by omega)]; exact e⟩⟩
theorem Ch.cut {S S' : Sto} {n : Nat} (h : Ch n S S') (hn : n < S.length) : ∃ T, Cut S S' T ∧ Ch n S T ∧ T.length = S.length := by
  refine ⟨S'.take S.length, ⟨h.le, rfl, fun i o hi e => ?_⟩, ⟨by rw [List.length_take]; have := h.le; omega, fun i hi ne => ?_, ?_⟩, by rw [List.length_take]; have := h.le; omega⟩
  · by_cases q : i = n
    · subst q
      obtain ⟨a, b, e2⟩ := h.box
      rw [e] at e2
      cases e2
      exact .inr rfl
    · exact .inl ((h.same i hi q).symm.trans e)
  · rw [List.getElem?_take_of_lt hi]
    exact h.same i hi ne
  · obtain ⟨a, b, e⟩ := h.box
    exact ⟨a, b, by rw [List.getElem?_take_of_lt hn]; exact e⟩
/-- a law's draw -/
theorem take_ok {S : Sto} {n : Nat} {many : Int} (h : BoxAt S n) (h0 : 0 < many) (h1 : many < 1073741824) :
    (F_law_take [.obj n, .py (.int many)] S).wp (fun d S' => ∃ r, d = .py (.int r) ∧ 0 ≤ r ∧ r < many ∧ Ch n S S' ∧ S'.length = S.length) noE := by
  have hn := h.lt
  obtain ⟨a, b, e⟩ := h
  have fin : ∀ (r x y : Int), 0 ≤ r → r < many → ∃ T, Cut S (S.set n (.lst [.py (.int x), .py (.int y)])) T ∧ (D.py (.int r)).pure = true ∧ ∃ r', D.py (.int r) = .py (.int r') ∧ 0 ≤ r' ∧ r' < many ∧ Ch n S T ∧ T.length = S.length := fun r x y h1 h2 => by
    obtain ⟨T, c, q, l⟩ := (Ch.set (a := x) (b := y) hn).cut hn
    exact ⟨T, c, rfl, r, rfl, h1, h2, q, l⟩
  unfold F_law_take b_law_take
  refine wp_fn ?_
  have i0 : itemD (.obj n) (.py (.int 0)) S = .ok (.py (.int a)) S := itemD_obj e 0 rfl
  have i1 : itemD (.obj n) (.py (.int 1)) S = .ok (.py (.int b)) S := itemD_obj e 1 rfl
  by_cases ha : 0 < a
  · simp [init, i0, ha, h0, h1, ixP_0 e]
    have := fin (a % many) (a / many) b (Int.emod_nonneg _ (by omega)) (Int.emod_lt_of_pos _ h0)
    simpa using this
  · simp [init, i0, i1, ha, ixP_1 e]
    have b0 : 0 ≤ (b * 48271 + 11) % 2147483647 := Int.emod_nonneg _ (by decide)
    have b1 : (b * 48271 + 11) % 2147483647 < 2147483647 := Int.emod_lt_of_pos _ (by decide)
    generalize (b * 48271 + 11) % 2147483647 = c at *
    have j1 : itemD (.obj n) (.py (.int 1)) (S.set n (.lst [.py (.int a), .py (.int c)])) = .ok (.py (.int c)) _ := itemD_obj (ds := [.py (.int a), .py (.int c)]) (by simp [hn]) 1 rfl
    have d0 : 0 ≤ c / 1009 := Int.ediv_nonneg b0 (by decide)
    have d1 : c / 1009 ≤ 2147483647 := by omega
    have q1 : -(2 ^ 64) < c / 1009 + 1 ∧ c / 1009 + 1 < 2 ^ 64 := by omega
    have q2 : ∀ x S, mulD (.py (.int x)) (.py (.int (c / 1009 + 1))) S = .ok (.py (.int (x * (c / 1009 + 1)))) S := fun x S => mulD_r q1
    simp [j1, q2, h0]
    have z := fin ((c / 1009 + 1) * (c / 1009 + 1) * (c / 1009 + 1) % 2147483629 / 61 % many) a c (Int.emod_nonneg _ (by omega)) (Int.emod_lt_of_pos _ h0)
    simpa using z
/-- the box of a script's number -/
theorem box_ok {S : Sto} {ns : List Int} {k : Nat} (hk : k < 1000000) :
    (F_law_box [.py (.list (ns.map .int)), .py (.int k)] S).wp (fun d S' => d = .obj S.length ∧ ∃ a b : Int, S' = S ++ [.lst [.py (.int a), .py (.int b)]]) noE := by
  unfold F_law_box b_law_box
  refine wp_fnM ?_
  have hk1 : -(2 ^ 64) < (k : Int) ∧ (k : Int) < 2 ^ 64 := by omega
  have m1 : ∀ x S, mulD (.py (.int x)) (.py (.int k)) S = .ok (.py (.int (x * k))) S := fun x S => mulD_r hk1
  by_cases hl : k < ns.length
  · have it : itemD (.py (.list (ns.map .int))) (.py (.int k)) S = .ok (.py (.int ns[k])) S := itemD_list k (by simp [hl])
    simp [init, m1, hl, it, wp_ite, D.pure]
    omega
  · simp [init, m1, hl, wp_ite, D.pure]
    try omega
end DV

set_option maxHeartbeats 4000000
namespace DV
open PySem
/-! Faces drawn from the box. -/
abbrev lt (c : Nat) : PyData := .str ⟨#[c]⟩
abbrev encL (p : Nat × Int) : PyData := .tuple [lt p.1, .int p.2]
structure Face where
  w : Int
  ls : List (Nat × Int)
abbrev Face.py (f : Face) : PyData := .tuple [.int f.w, .tuple (f.ls.map encL)]
structure Face.Good (f : Face) (lo hi : Int) : Prop where
  w0 : 1 ≤ f.w
  w1 : f.w ≤ 99
  lo : lo ≤ (f.ls.length : Int)
  hi : (f.ls.length : Int) ≤ hi
  nd : (f.ls.map (·.1)).Nodup
  ok : ∀ p ∈ f.ls, 97 ≤ p.1 ∧ p.1 ≤ 122 ∧ 10 ≤ p.2 ∧ p.2 ≤ 99
theorem alphabet : ("abcdefghijklmnopqrstuvwxyz" : Str).cps.toList = (List.range 26).map (97 + ·) := by decide +kernel
theorem list_alphabet (S : Sto) : listD [.py (.str "abcdefghijklmnopqrstuvwxyz")] S = .ok (((List.range 26).map (97 + ·)).map fun c => D.py (lt c)) S := by
  rw [listD_str (by decide +kernel), alphabet, List.map_map]
theorem nodup_pop : ∀ {l : List Nat} {r c : Nat}, l.Nodup → l[r]? = some c → c ∉ l.eraseIdx r ∧ (l.eraseIdx r).Nodup
  | [], r, c, _, hc => by simp at hc
  | a :: l, 0, c, h, hc => by
    simp at hc
    subst hc
    exact List.nodup_cons.mp h
  | a :: l, r + 1, c, h, hc => by
    rw [List.nodup_cons] at h
    have hc : l[r]? = some c := by simpa using hc
    have ih := nodup_pop h.2 hc
    have mc := List.mem_of_getElem? hc
    show c ∉ a :: l.eraseIdx r ∧ (a :: l.eraseIdx r).Nodup
    rw [List.nodup_cons, List.mem_cons, not_or]
    exact ⟨⟨fun e => h.1 (e ▸ mc), ih.1⟩, fun m => h.1 (List.mem_of_mem_eraseIdx m), ih.2⟩
def PoolI (n : Nat) (S T : Sto) (acc : List D) (k : Nat) : Prop :=
  Ch n S T ∧ ∃ (ls : List (Nat × Int)) (pl : List Nat), acc = ls.map (fun p => D.py (encL p)) ∧ T[S.length]? = some (.lst (pl.map fun c => D.py (lt c))) ∧ ls.length = k ∧ pl.length + k = 26 ∧ pl.Nodup ∧ (ls.map (·.1)).Nodup ∧
    (∀ p ∈ ls, p.1 ∉ pl ∧ 97 ≤ p.1 ∧ p.1 ≤ 122 ∧ 10 ≤ p.2 ∧ p.2 ≤ 99) ∧ ∀ c ∈ pl, 97 ≤ c ∧ c ≤ 122
theorem eraseIdx_map {α β : Type} (f : α → β) : ∀ (l : List α) (r : Nat), (l.map f).eraseIdx r = (l.eraseIdx r).map f
  | [], _ => rfl
  | _ :: _, 0 => rfl
  | a :: l, r + 1 => congrArg (f a :: ·) (eraseIdx_map f l r)
theorem face_ok {S : Sto} {n : Nat} {lo hi : Int} (h : BoxAt S n) (h0 : 0 ≤ lo) (h1 : lo ≤ hi) (h2 : hi ≤ 26) :
    (F_law_face [.obj n, .py (.int lo), .py (.int hi)] S).wp (fun d S' => ∃ f : Face, d = .py f.py ∧ f.Good lo hi ∧ Ch n S S' ∧ S'.length = S.length) noE := by
  have hn := h.lt
  unfold F_law_face b_law_face
  refine wp_fn ?_
  simp [init, list_alphabet]
  refine (take_ok (n := n) (many := hi - lo + 1) (Ch.app h).box (by omega) (by omega)).to ?_
  rintro d S1 ⟨m, rfl, m0, m1, c1, l1⟩
  have hp : S1[S.length]? = some (.lst (((List.range 26).map (97 + ·)).map fun c => D.py (lt c))) := c1.at_ (by simp) (by omega)
  have c1 := (Ch.app (T := [.lst (List.map ((fun c => D.py (lt c)) ∘ fun x => 97 + x) (List.range 26))]) h).trans c1
  simp at l1 ⊢
  refine ⟨by omega, ?_⟩
  refine wp_lcL (fun pre acc T => PoolI n S T acc pre.length) ?_ ?_ ?_
  · refine ⟨c1, [], (List.range 26).map (97 + ·), rfl, hp, rfl, by decide, by decide, by decide, by simp, by decide⟩
  · rintro pre x post acc T hxs ⟨cT, ls, pl, rfl, hpl, hl, hlen, ndp, ndl, hls, hcs⟩
    have hlp : pre.length + post.length + 1 = (lo + m).toNat := by
      have := congrArg List.length hxs
      simp [rngV] at this
      omega
    have pos : 0 < (pl.length : Int) := by omega
    have cnt : lenD [.obj S.length] T = _ := lenD_obj hpl
    simp [cnt, lsOk_obj hpl]
    refine (take_ok (n := n) (many := pl.length) cT.box pos (by omega)).to ?_
    rintro d T1 ⟨r, rfl, r0, r1, cT1, _⟩
    have hr : r.toNat < pl.length := by omega
    have hpl1 := cT1.at_ hpl (by omega)
    have hpop := popD_at (i := r) (d := D.py (lt pl[r.toNat])) hpl1 ⟨r0, by omega⟩ (by simp [hr])
    simp [hpop]
    refine (take_ok (n := n) (many := 90) ((cT.trans cT1).own (o := .lst ((pl.map fun c => D.py (lt c)).eraseIdx r.toNat)) (Nat.le_refl _) hn).box (by decide) (by decide)).to ?_
    rintro d T2 ⟨q, rfl, q0, q1, cT2, _⟩
    have np := nodup_pop ndp (List.getElem?_eq_getElem hr)
    have hT2 := cT2.at_ (m := S.length) (o := .lst ((pl.map fun c => D.py (lt c)).eraseIdx r.toNat)) (by rw [List.getElem?_set_self]; have := cT1.le; have := cT.le; have := (List.getElem?_eq_some_iff.mp hpl1).1; omega) (by omega)
    simp
    refine ⟨((cT.trans cT1).own (Nat.le_refl _) hn).trans cT2, ls ++ [(pl[r.toNat], 10 + q)], pl.eraseIdx r.toNat, by simp, ?_, by simp [hl], ?_, np.2, ?_, ?_, fun c hc => hcs c (List.mem_of_mem_eraseIdx hc)⟩
    · rw [hT2]
      rw [eraseIdx_map]
    · rw [List.length_eraseIdx_of_lt hr]
      omega
    · rw [List.map_append, List.nodup_append]
      refine ⟨ndl, by simp, fun a ha b hb => ?_⟩
      simp at hb
      subst hb
      obtain ⟨p, hp1, rfl⟩ := List.mem_map.mp ha
      intro e
      exact (hls p hp1).1 (e ▸ List.getElem_mem hr)
    · intro p hp1
      rw [List.mem_append] at hp1
      rcases hp1 with hp1 | hp1
      · obtain ⟨z1, z2⟩ := hls p hp1
        exact ⟨fun h => z1 (List.mem_of_mem_eraseIdx h), z2⟩
      · simp at hp1
        subst hp1
        obtain ⟨y1, y2⟩ := hcs _ (List.getElem_mem hr)
        exact ⟨np.1, y1, y2, by omega, by omega⟩
  · rintro acc T ⟨cT, ls, pl, rfl, hpl, hl, hlen, ndp, ndl, hls, hcs⟩
    have e : ls.map (fun p => D.py (encL p)) = (ls.map encL).map .py := by simp
    rw [e]
    simp
    refine (take_ok (n := n) (many := 99) cT.box (by decide) (by decide)).to ?_
    rintro d T1 ⟨q, rfl, q0, q1, cT1, _⟩
    obtain ⟨T2, k1, k2, k3⟩ := (cT.trans cT1).cut hn
    simp
    refine ⟨T2, k1, rfl, ⟨1 + q, ls⟩, ⟨rfl, rfl⟩, ⟨by simp; omega, by simp; omega, ?_, ?_, ndl, fun p hp1 => (hls p hp1).2⟩, k2, k3⟩
    · simp [hl, rngV]
      omega
    · simp [hl, rngV]
      omega
end DV

set_option maxHeartbeats 4000000
namespace DV
open PySem
/-! Draws by a comprehension; rows of lists that are changed. -/
abbrev pyi (i : Int) : D := .py (.int i)
theorem draws {α : Type} {n i : Nat} {S : Sto} {σ : En} {e : Ex} {xs : List D} {E : Str → Sto → Prop} (f : α → PyData) (p : α → Prop) (hb : BoxAt S n)
    (h : ∀ x S', x ∈ xs → Ch n S S' → (e (σ.set i (some x)) S').wp (fun d S2 => ∃ r, d = .py (f r) ∧ p r ∧ Ch n S' S2) noE) :
    (lcL (nmG i) yesT e σ xs S).wp (fun ds S' => ∃ rs : List α, ds = rs.map (fun r => .py (f r)) ∧ rs.length = xs.length ∧ (∀ r ∈ rs, p r) ∧ Ch n S S') E := by
  refine wp_lcL (fun pre acc T => ∃ rs : List α, acc = rs.map (fun r => .py (f r)) ∧ rs.length = pre.length ∧ (∀ r ∈ rs, p r) ∧ Ch n S T) ⟨[], rfl, rfl, by simp, .refl hb⟩ ?_ fun _ _ h => h
  rintro pre x post acc T hxs ⟨rs, rfl, hl, hp, c⟩
  rw [wp_nm, wp_yes, if_pos rfl]
  refine (h x T (by rw [hxs]; simp) c).to ?_
  rintro d S2 ⟨r, rfl, pr, c2⟩
  refine ⟨rs ++ [r], by simp, by simp [hl], fun y hy => ?_, c.trans c2⟩
  rw [List.mem_append] at hy
  rcases hy with hy | hy
  · exact hp y hy
  · rw [List.mem_singleton] at hy
    rw [hy]
    exact pr
theorem nodup_get {α : Type} {l : List α} (h : l.Nodup) {i j : Nat} {x : α} (h1 : l[i]? = some x) (h2 : l[j]? = some x) : i = j := by
  obtain ⟨p, e1⟩ := List.getElem?_eq_some_iff.mp h1
  obtain ⟨q, e2⟩ := List.getElem?_eq_some_iff.mp h2
  rcases Nat.lt_trichotomy i j with z | z | z
  · exact (List.pairwise_iff_getElem.mp h i j p q z (e1.trans e2.symm)).elim
  · exact z
  · exact (List.pairwise_iff_getElem.mp h j i q p z (e2.trans e1.symm)).elim
/-- rows that are changed -/
structure Grid (S : Sto) (lo m : Nat) (ids : List Nat) (rows : List (List Int)) : Prop where
  top : S[m]? = some (.lst (ids.map .obj))
  nd : ids.Nodup
  len : ids.length = rows.length
  own : ∀ i ∈ ids, lo ≤ i ∧ i ≠ m
  row : ∀ (j id : Nat) (r : List Int), ids[j]? = some id → rows[j]? = some r → S[id]? = some (.lst (r.map pyi))
  lo : lo ≤ m
theorem lcL_rows {i : Nat} {σ : En} {a : Ax} {f : D → List Int} : ∀ {xs : List D} {S : Sto}, (∀ x ∈ xs, ∀ S', a (σ.set i (some x)) S' = .ok ((f x).map pyi) S') →
    lcL (nmG i) yesT (thwE a) σ xs S = .ok ((List.range' S.length xs.length).map .obj) (S ++ xs.map fun x => .lst ((f x).map pyi))
  | [], S, _ => by simp [lcL]
  | x :: xs, S, h => by
    have e := h x (List.mem_cons_self ..) S
    unfold lcL
    simp only [nmG, yesT, if_true, thwE, thw, e, bind_ok]
    have ih := lcL_rows (i := i) (σ := σ) (a := a) (f := f) (xs := xs) (S := S ++ [.lst ((f x).map pyi)]) fun y hy => h y (List.mem_cons_of_mem _ hy)
    rw [ih]
    simp [List.range'_succ]
theorem lcL_rowsR {i : Nat} {σ : En} {a : Ax} {xs : List D} {S : Sto} {rows : List (List Int)} (f : D → List Int) (hr : xs.map f = rows) (h : ∀ x ∈ xs, ∀ S', a (σ.set i (some x)) S' = .ok ((f x).map pyi) S') :
    lcL (nmG i) yesT (thwE a) σ xs S = .ok ((List.range' S.length rows.length).map .obj) (S ++ rows.map fun r => .lst (r.map pyi)) := by
  subst hr
  rw [lcL_rows h, List.length_map, List.map_map]
  rfl
theorem lcL_rowsM {α : Type} {i : Nat} {σ : En} {a : Ax} {ls : List α} {S : Sto} (enc : α → D) (f : α → List Int) (h : ∀ x ∈ ls, ∀ S', a (σ.set i (some (enc x))) S' = .ok ((f x).map pyi) S') :
    lcL (nmG i) yesT (thwE a) σ (ls.map enc) S = .ok ((List.range' S.length (ls.map f).length).map .obj) (S ++ (ls.map f).map fun r => .lst (r.map pyi)) := by
  induction ls generalizing S with
  | nil => simp [lcL]
  | cons x xs ih =>
    have e := h x (List.mem_cons_self ..) S
    rw [List.map_cons]
    unfold lcL
    simp only [nmG, yesT, if_true, thwE, thw, e, bind_ok]
    have ih := ih (S := S ++ [.lst ((f x).map pyi)]) fun y hy => h y (List.mem_cons_of_mem _ hy)
    rw [ih]
    simp [List.range'_succ]
theorem Grid.new {S : Sto} {lo : Nat} {rows : List (List Int)} (hlo : lo ≤ S.length) :
    Grid (S ++ (rows.map fun r => O.lst (r.map pyi)) ++ [.lst ((List.range' S.length rows.length).map .obj)]) lo (S.length + rows.length) (List.range' S.length rows.length) rows := by
  refine ⟨?_, List.nodup_range', by simp, fun i hi => ?_, fun j id r h1 h2 => ?_, by omega⟩
  · rw [List.getElem?_append_right (by simp)]
    simp
  · rw [List.mem_range'_1] at hi
    omega
  · have hj := (List.getElem?_eq_some_iff.mp h2).1
    rw [List.getElem?_range' hj] at h1
    have h1 : S.length + j = id := by simpa using h1
    subst h1
    rw [List.append_assoc, List.getElem?_append_right (by omega), List.getElem?_append_left (by simp; omega)]
    simp [h2]
theorem Grid.ch {S S' : Sto} {n lo m : Nat} {ids : List Nat} {rows : List (List Int)} (h : Grid S lo m ids rows) (c : Ch n S S') (hn : n < lo) : Grid S' lo m ids rows := by
  have hlo := h.lo
  refine ⟨c.at_ h.top (by omega), h.nd, h.len, h.own, fun j id r e1 e2 => c.at_ (h.row j id r e1 e2) ?_, hlo⟩
  have := (h.own id (List.mem_of_getElem? e1)).1
  omega
/-- the list at m, whose rows are objects -/
theorem Grid.get {S : Sto} {lo m a : Nat} {ids : List Nat} {rows : List (List Int)} (h : Grid S lo m ids rows) (ha : a < rows.length) : itemD (.obj m) (.py (.int a)) S = .ok (.obj (ids[a]'(h.len ▸ ha))) S :=
  itemD_obj h.top a (by simp [h.len, ha])
theorem Grid.at_ {S : Sto} {lo m a : Nat} {ids : List Nat} {rows : List (List Int)} (h : Grid S lo m ids rows) (ha : a < rows.length) : S[ids[a]'(h.len ▸ ha)]? = some (.lst (rows[a].map pyi)) :=
  h.row a _ _ (List.getElem?_eq_getElem _) (List.getElem?_eq_getElem ha)
theorem Grid.set {S : Sto} {lo m a : Nat} {ids : List Nat} {rows : List (List Int)} (h : Grid S lo m ids rows) (ha : a < rows.length) (r : List Int) : Grid (S.set (ids[a]'(h.len ▸ ha)) (.lst (r.map pyi))) lo m ids (rows.set a r) := by
  have ha' : a < ids.length := h.len ▸ ha
  have e1 : ids[a]? = some ids[a] := List.getElem?_eq_getElem ha'
  have m1 := h.own _ (List.getElem_mem ha')
  refine ⟨by rw [List.getElem?_set_ne m1.2]; exact h.top, h.nd, by simp [h.len], h.own, fun j id q e2 e3 => ?_, h.lo⟩
  by_cases hj : a = j
  · subst hj
    rw [e1] at e2
    cases e2
    rw [List.getElem?_set_self ha] at e3
    cases e3
    rw [List.getElem?_set_self]
    exact (List.getElem?_eq_some_iff.mp (h.at_ ha)).1
  · rw [List.getElem?_set_ne hj] at e3
    have ne : ids[a] ≠ id := by
      intro e
      exact hj (nodup_get h.nd e1 (e ▸ e2))
    rw [List.getElem?_set_ne ne]
    exact h.row j id q e2 e3
/-- an item of a row is set -/
theorem Grid.put {S : Sto} {lo m a b : Nat} {ids : List Nat} {rows : List (List Int)} {v : Int} {σ : En} (h : Grid S lo m ids rows) (ha : a < rows.length) (hb : b < rows[a].length) :
    ixP (.obj (ids[a]'(h.len ▸ ha))) (.py (.int b)) (.py (.int v)) σ S = .ok σ (S.set (ids[a]'(h.len ▸ ha)) (.lst ((rows[a].set b v).map pyi))) := by
  rw [ixP_obj (h.at_ ha) (by simpa using hb), List.map_set]
theorem fixL_ok : ∀ {ids : List Nat} {rows : List (List Int)} {S : Sto}, ids.Nodup → ids.length = rows.length → (∀ (j id : Nat) (r : List Int), ids[j]? = some id → rows[j]? = some r → S[id]? = some (.lst (r.map pyi))) →
    ∃ S', fixL S (ids.map .obj) = some (rows.map fun r => .list (r.map .int), S') ∧ S'.length = S.length ∧ ∀ i, i ∉ ids → S'[i]? = S[i]?
  | [], [], S, _, _, _ => ⟨S, rfl, rfl, fun _ _ => rfl⟩
  | id :: ids, r :: rows, S, hn, hl, h => by
    have e := h 0 id r rfl rfl
    have hn := List.nodup_cons.mp hn
    obtain ⟨S', e1, e2, e3⟩ := fixL_ok (ids := ids) (rows := rows) (S := S.set id .gone) hn.2 (by simpa using hl) fun j id2 r2 h1 h2 => by
      rw [List.getElem?_set_ne (fun (e : id = id2) => hn.1 (e ▸ List.mem_of_getElem? h1))]
      exact h (j + 1) id2 r2 h1 h2
    refine ⟨S', ?_, by rw [e2]; simp, fun i hi => ?_⟩
    · have pe : pysOf (r.map pyi) = some (r.map PyData.int) := pysOf_fun PyData.int r
      simp only [List.map, fixL, e, pe, e1, Option.map]
    · rw [List.mem_cons, not_or] at hi
      rw [e3 i hi.2, List.getElem?_set_ne (Ne.symm hi.1)]
abbrev encR (rows : List (List Int)) : PyData := .list (rows.map fun r => .list (r.map .int))
@[simp] theorem seqD_encR (R : List (List Int)) : seqD (.py (encR R)) = some (R.map fun r => .list (r.map .int)) := id rfl
@[simp] theorem walk_encR (R : List (List Int)) (S : Sto) : pyWalk S (.py (encR R)) = some (R.map fun r => .list (r.map .int)) := id rfl
theorem Grid.fix {S : Sto} {lo m i : Nat} {ids : List Nat} {rows : List (List Int)} {σ : En} {N : K} (h : Grid S lo m ids rows) (hi : σ[i]? = some (some (.obj m))) (q : ∀ S', S'.length = S.length → (∀ j, j < lo → S'[j]? = S[j]?) → N.nx (σ.set i (some (.py (encR rows)))) S') : (fix2S i σ S).wp N := by
  have hlo := h.lo
  obtain ⟨S', e1, e2, e3⟩ := fixL_ok (S := S.set m .gone) h.nd h.len fun j id r a b => by
    rw [List.getElem?_set_ne (Ne.symm (h.own id (List.mem_of_getElem? a)).2)]
    exact h.row j id r a b
  unfold fix2S
  simp only [hi, h.top, e1]
  refine q S' (by rw [e2]; simp) fun j hj => ?_
  rw [e3 j (fun z => by have := (h.own j z).1; omega), List.getElem?_set_ne (by omega)]
structure Rows (rows : List (List Int)) (many : Nat) : Prop where
  len : rows.length = many
  row : ∀ r ∈ rows, r.length = many
  bnd : ∀ r ∈ rows, ∀ x ∈ r, -9 ≤ x ∧ x ≤ 9
theorem Rows.set {rows : List (List Int)} {many a b : Nat} {v : Int} (h : Rows rows many) (ha : a < rows.length) (h1 : -9 ≤ v) (h2 : v ≤ 9) : Rows (rows.set a (rows[a].set b v)) many := by
  have hm : rows[a] ∈ rows := List.getElem_mem ha
  refine ⟨by rw [List.length_set]; exact h.len, fun r hr => ?_, fun r hr x hx => ?_⟩
  · rcases List.mem_or_eq_of_mem_set hr with q | rfl
    · exact h.row r q
    · rw [List.length_set]
      exact h.row _ hm
  · rcases List.mem_or_eq_of_mem_set hr with q | rfl
    · exact h.bnd r q x hx
    · rcases List.mem_or_eq_of_mem_set hx with q | rfl
      · exact h.bnd _ hm x q
      · exact ⟨h1, h2⟩
/-- what lies below is as it was -/
theorem Ch.low {n : Nat} {S T T' : Sto} (c : Ch n S T) (hn : n < S.length) (hl : T'.length = T.length) (h : ∀ j, j < S.length → T'[j]? = T[j]?) : Ch n S T' :=
  ⟨by rw [hl]; exact c.le, fun i hi ne => (h i hi).trans (c.same i hi ne), by
    obtain ⟨a, b, e⟩ := c.box
    exact ⟨a, b, (h n hn).trans e⟩⟩
end DV

set_option maxHeartbeats 4000000
namespace DV
open PySem
theorem rows_ok {S : Sto} {n many : Nat} (h : BoxAt S n) (h0 : 0 < many) (h1 : many ≤ 64) :
    (F_law_rows [.obj n, .py (.int many)] S).wp (fun d S' => ∃ rows, d = .py (encR rows) ∧ Rows rows many ∧ Ch n S S' ∧ S'.length = S.length) noE := by
  have hn := h.lt
  have tk : ∀ {T : Sto} (m : Int), Ch n S T → 0 < m → m < 1073741824 → (F_law_take [.obj n, .py (.int m)] T).wp (fun d S2 => ∃ r, d = .py (PyData.int r) ∧ (0 ≤ r ∧ r < m) ∧ Ch n T S2) noE := fun m c a b =>
    (take_ok c.box a b).to fun d S2 ⟨r, e, r0, r1, c2, _⟩ => ⟨r, e, ⟨r0, r1⟩, c2⟩
  unfold F_law_rows b_law_rows
  refine wp_fn ?_
  simp [init]
  refine ⟨by omega, ?_⟩
  refine (draws PyData.int (fun r => 0 ≤ r ∧ r < 3) h fun x S' _ c => ?_).to ?_
  · simp
    exact tk 3 c (by decide) (by decide)
  rintro _ S1 ⟨fs, rfl, lf, bf, c1⟩
  simp
  refine ⟨by omega, ?_⟩
  refine (draws PyData.int (fun r => 0 ≤ r ∧ r < 3) c1.box fun x S' _ c => ?_).to ?_
  · simp
    exact tk 3 (c1.trans c) (by decide) (by decide)
  rintro _ S2 ⟨ss, rfl, ls, bs, c2⟩
  simp [pysOf]
  have near : ∀ (r : Int) (T : Sto), 0 ≤ r ∧ r < 7 → ∃ x, itemD (.py (.list [.int 0, .int 0, .int 1, .int (-1), .int 9, .int (-9), .int 4])) (.py (.int r)) T = .ok (.py (.int x)) T ∧ -9 ≤ x ∧ x ≤ 9 := by
    intro r T hr
    have : r = 0 ∨ r = 1 ∨ r = 2 ∨ r = 3 ∨ r = 4 ∨ r = 5 ∨ r = 6 := by omega
    rcases this with rfl | rfl | rfl | rfl | rfl | rfl | rfl
    · exact ⟨_, itemD_list 0 rfl, by decide⟩
    · exact ⟨_, itemD_list 1 rfl, by decide⟩
    · exact ⟨_, itemD_list 2 rfl, by decide⟩
    · exact ⟨_, itemD_list 3 rfl, by decide⟩
    · exact ⟨_, itemD_list 4 rfl, by decide⟩
    · exact ⟨_, itemD_list 5 rfl, by decide⟩
    · exact ⟨_, itemD_list 6 rfl, by decide⟩
  refine (draws (fun g : List Int => .list (g.map .int)) (fun g => g.length = 3 ∧ ∀ x ∈ g, -9 ≤ x ∧ x ≤ 9) c2.box fun x S' _ c => ?_).to ?_
  · simp
    refine (draws PyData.int (fun r => -9 ≤ r ∧ r ≤ 9) c.box fun x S3 _ c3 => ?_).to ?_
    · simp
      refine (tk 7 ((c1.trans c2).trans (c.trans c3)) (by decide) (by decide)).to ?_
      rintro _ S4 ⟨r, rfl, hr, c4⟩
      obtain ⟨v, e1, e2⟩ := near r S4 hr
      exact wp_of e1 ⟨v, rfl, e2, c4⟩
    · rintro _ S3 ⟨rs, rfl, hl, hb, c3⟩
      simp
      exact ⟨rs, rfl, ⟨by simpa [rngV] using hl, hb⟩, c3⟩
  rintro _ S3 ⟨gs, rfl, lg, bg, c3⟩
  have lg : gs.length = 3 := by simpa [rngV] using lg
  have c3 := (c1.trans c2).trans c3
  simp
  refine wp_of (lcL_rowsR (rows := fs.map fun a => ss.map fun b => (gs[a.toNat]?.getD [])[b.toNat]?.getD 0) (fun x => match x with
    | .py (.int a) => ss.map fun b => (gs[a.toNat]?.getD [])[b.toNat]?.getD 0
    | _ => []) (by simp) fun x hx S' => wp_eq ?_) ?_
  · rw [List.mem_map] at hx
    obtain ⟨a, ha, rfl⟩ := hx
    have ba := bf a ha
    have ga : a.toNat < gs.length := by omega
    have bga := bg _ (List.getElem_mem ga)
    simp
    refine wp_pure1 (fun y => match y with
      | .py (.int b) => pyi ((gs[a.toNat]?.getD [])[b.toNat]?.getD 0)
      | _ => y) (fun y hy => wp_eq ?_) ?_
    · rw [List.mem_map] at hy
      obtain ⟨b, hb, rfl⟩ := hy
      have bb := bs b hb
      have gb : b.toNat < gs[a.toNat].length := by omega
      have i1 : ∀ T, itemD (.py (.list (gs.map fun g => .list (g.map .int)))) (.py (.int a)) T = .ok (.py (.list (gs[a.toNat].map .int))) T := fun T => itemD_listI ba.1 (by simp [ga])
      have i2 : ∀ T, itemD (.py (.list (gs[a.toNat].map .int))) (.py (.int b)) T = .ok (.py (.int gs[a.toNat][b.toNat])) T := fun T => itemD_listI bb.1 (by simp [gb])
      simp [i1, i2, ga, gb]
    · simp [Function.comp_def]
  have R0 : Rows (fs.map fun a => ss.map fun b => (gs[a.toNat]?.getD [])[b.toNat]?.getD 0) many := by
    refine ⟨by simp [lf, rngV], fun r hr => ?_, fun r hr x hx => ?_⟩
    · obtain ⟨a, ha, rfl⟩ := List.mem_map.mp hr
      simp [ls, rngV]
    · obtain ⟨a, ha, rfl⟩ := List.mem_map.mp hr
      obtain ⟨b, hb, rfl⟩ := List.mem_map.mp hx
      have ba := bf a ha
      have ga : a.toNat < gs.length := by omega
      have bga := bg _ (List.getElem_mem ga)
      have bb := bs b hb
      have gb : b.toNat < gs[a.toNat].length := by omega
      simp [ga, gb]
      exact bga.2 _ (List.getElem_mem gb)
  generalize (fs.map fun a => ss.map fun b => (gs[a.toNat]?.getD [])[b.toNat]?.getD 0) = rows at *
  have G := Grid.new (S := S3) (lo := S.length) (rows := rows) c3.le
  have c4 : Ch n S (S3 ++ (rows.map fun r => O.lst (r.map pyi)) ++ [.lst ((List.range' S3.length rows.length).map .obj)]) := by
    rw [List.append_assoc]
    exact c3.trans (Ch.app c3.box)
  have em : S3.length + rows.length = (S3 ++ (rows.map fun r => O.lst (r.map pyi))).length := by simp
  rw [em] at G
  generalize hm : (S3 ++ (rows.map fun r => O.lst (r.map pyi))).length = m at *
  generalize S3 ++ (rows.map fun r => O.lst (r.map pyi)) ++ [.lst ((List.range' S3.length rows.length).map .obj)] = T0 at *
  refine (tk 4 c4 (by decide) (by decide)).to ?_
  rintro _ S5 ⟨j, rfl, hj, c5⟩
  simp
  refine ⟨by omega, ?_⟩
  refine wp_forL (fun _ σ T => σ.set 7 none = _ ∧ Ch n S T ∧ ∃ ids rows, Rows rows many ∧ Grid T S.length m ids rows) ⟨rfl, c4.trans c5, _, rows, R0, G.ch c5 hn⟩ ?_ ?_
  · rintro pre x post σ T _ ⟨hσ, cT, ids, rows, RT, GT⟩
    obtain ⟨y, rfl⟩ := slot_any hσ
    simp
    refine (tk 19 cT (by decide) (by decide)).to ?_
    rintro _ T1 ⟨v, rfl, hv, c6⟩
    simp
    refine (tk many (cT.trans c6) (by omega) (by omega)).to ?_
    rintro _ T2 ⟨a, rfl, ha, c7⟩
    have G2 := (GT.ch c6 hn).ch c7 hn
    obtain ⟨k, rfl⟩ : ∃ k : Nat, a = k := ⟨a.toNat, by omega⟩
    have hk : k < rows.length := by rw [RT.len]; omega
    simp [G2.get hk]
    refine (tk many ((cT.trans c6).trans c7) (by omega) (by omega)).to ?_
    rintro _ T3 ⟨b, rfl, hb, c8⟩
    obtain ⟨q, rfl⟩ : ∃ q : Nat, b = q := ⟨b.toNat, by omega⟩
    have hq : q < rows[k].length := by rw [RT.row _ (List.getElem_mem hk)]; omega
    have G3 := G2.ch c8 hn
    have hid : S.length ≤ ids[k]'(G3.len ▸ hk) := (G3.own _ (List.getElem_mem _)).1
    refine wp_of (G3.put hk hq) ⟨rfl, (((cT.trans c6).trans c7).trans c8).own hid hn, ids, _, RT.set hk (by omega) (by omega), G3.set hk _⟩
  · rintro σ T ⟨hσ, cT, ids, rows, RT, GT⟩
    obtain ⟨y, rfl⟩ := slot_any hσ
    simp
    refine GT.fix rfl fun S' hl hs => ?_
    obtain ⟨U, k1, k2, k3⟩ := (cT.low hn hl hs).cut hn
    simp
    exact ⟨U, k1, rfl, rows, rfl, RT, k2, k3⟩
end DV

set_option maxHeartbeats 4000000
namespace DV
open PySem
/-! Lists of gaps, known letters. -/
section
variable {α : Type} {g : Tg} {b : Sx} {σ : En} {S : Sto} {N : K}
theorem wp_forM (f : α → D) {ls : List α} (I : List α → En → Sto → Prop) (h0 : I [] σ S)
    (hs : ∀ pre x post σ S, ls = pre ++ x :: post → I pre σ S → (g (f x) σ S).wp (fun σ1 S1 => (b σ1 S1).wp { N with nx := fun σ2 S2 => I (pre ++ [x]) σ2 S2, ct := fun σ2 S2 => I (pre ++ [x]) σ2 S2, bk := fun σ2 S2 => N.nx σ2 S2 }) N.ex)
    (he : ∀ σ S, I ls σ S → N.nx σ S) : (forL g b (ls.map f) σ S).wp N := by
  refine wp_forL (fun pre σ S => ∃ p : List α, pre = p.map f ∧ p.length ≤ ls.length ∧ p = ls.take p.length ∧ I p σ S) ⟨[], rfl, Nat.zero_le _, by simp, h0⟩ ?_ ?_
  · rintro pre x post σ S e ⟨p, rfl, hl, ht, hI⟩
    obtain ⟨l1, l2, e1, e2, e3⟩ := List.map_eq_append_iff.mp e
    obtain ⟨y, l3, e4, e5, e6⟩ := List.map_eq_cons_iff.mp e3
    have lp : l1.length = p.length := by have := congrArg List.length e2; simpa using this
    have ep : p = l1 := by rw [ht, e1, ← lp, List.take_left]
    subst ep
    subst e5
    have e9 : ls = (p ++ [y]) ++ l3 := by rw [e1, e4]; simp
    refine (hs p y l3 σ S (by rw [e1, e4]) hI).mono (fun σ1 S1 h => h.mono (fun σ2 S2 h => ?_) (fun _ _ h => h) (fun _ _ h => h) (fun σ2 S2 h => ?_) fun _ _ h => h) fun _ _ h => h
    · exact ⟨p ++ [y], by simp, by rw [e9]; simp, by rw [e9, List.take_left], h⟩
    · exact ⟨p ++ [y], by simp, by rw [e9]; simp, by rw [e9, List.take_left], h⟩
  · rintro σ S ⟨p, e, hl, ht, hI⟩
    have lp : p.length = ls.length := by have := congrArg List.length e; simpa using this.symm
    rw [lp, List.take_length] at ht
    exact he σ S (ht ▸ hI)
theorem wp_pureM {c : Tx} {e : Ex} {P : List D → Sto → Prop} {E : Str → Sto → Prop} {ls : List α} (f : α → D) (p : α → Bool) (h : α → D)
    (hs : ∀ x ∈ ls, (g (f x) σ S).wp (fun σ1 S1 => (c σ1 S1).wp (fun k S2 => k = p x ∧ S2 = S ∧ (k = true → (e σ1 S).wp (fun d S3 => d = h x ∧ S3 = S) noE)) noE) noE) (q : P ((ls.filter p).map h) S) : (lcL g c e σ (ls.map f) S).wp P E := by
  refine wp_of ?_ q
  clear q
  induction ls with
  | nil => rfl
  | cons x xs ih =>
    obtain ⟨σ1, S1, h1, hs1⟩ := (hs x (List.mem_cons_self ..)).out
    obtain ⟨k, S2, h2, rfl, rfl, hs2⟩ := hs1.out
    have ih := ih fun y hy => hs y (List.mem_cons_of_mem _ hy)
    rw [List.map_cons]
    unfold lcL
    rw [h1]
    simp only [h2]
    cases hp : p x with
    | false => simp [ih, hp]
    | true =>
      obtain ⟨d, S3, h3, rfl, rfl⟩ := (hs2 hp).out
      simp [h3, ih, hp]
/-- one name, no test -/
theorem wp_pureM1 {i : Nat} {e : Ex} {P : List D → Sto → Prop} {E : Str → Sto → Prop} {ls : List α} (f : α → D) (h : α → D)
    (hs : ∀ x ∈ ls, e (σ.set i (some (f x))) S = .ok (h x) S) (q : P (ls.map h) S) : (lcL (nmG i) yesT e σ (ls.map f) S).wp P E :=
  wp_pureM f (fun _ => true) h (fun x hx => ⟨rfl, rfl, fun _ => wp_of (hs x hx) ⟨rfl, rfl⟩⟩) (by rw [List.filter_eq_self.mpr fun _ _ => rfl]; exact q)
end
abbrev Pair := Nat × Nat × Int
abbrev encT (p : Pair) : PyData := .tuple [lt p.1, lt p.2.1, .int p.2.2]
abbrev encP (ps : List Pair) : PyData := .tuple (ps.map encT)
@[simp] theorem seqD_encP (ps : List Pair) : seqD (.py (encP ps)) = some (ps.map encT) := id rfl
@[simp] theorem walk_encP (ps : List Pair) (S : Sto) : pyWalk S (.py (encP ps)) = some (ps.map encT) := id rfl
def Face.lets (f : Face) : List Nat := f.ls.map (·.1)
@[simp] theorem lets_length (f : Face) : f.lets.length = f.ls.length := by simp [Face.lets]
theorem letters_of_eq (f : Face) (S : Sto) : F_letters_of [.py f.py] S = .ok (.py (.tuple (f.lets.map lt))) S := by
  unfold F_letters_of b_letters_of
  refine fn_eq (wp_fn ?_)
  simp [init]
  refine wp_pureM1 (D.py ∘ encL) (fun p => .py (lt p.1)) (fun x _ => wp_eq (by simp)) ?_
  simp
  exact ⟨S, .self, rfl, by simp [Face.lets], rfl⟩
theorem law_letters_eq (f : Face) (S : Sto) : F_law_letters [.py f.py] S = .ok (.py (.list (f.lets.map lt))) S := by
  unfold F_law_letters b_law_letters
  refine fn_eq (wp_fn ?_)
  simp [init]
  refine wp_pureM1 (D.py ∘ encL) (fun p => .py (lt p.1)) (fun x _ => wp_eq (by simp)) ?_
  simp
  exact ⟨S, .self, rfl, by simp [Face.lets], rfl⟩
def gapIn (ps : List Pair) (l r : Nat) : Int := match ps.find? (fun p => p.1 = l ∧ p.2.1 = r) with
  | some p => p.2.2
  | none => 0
theorem slot2 {σ l : En} {i j : Nat} (h : (σ.set j none).set i none = l) : ∃ x y, σ = (l.set i x).set j y := by
  obtain ⟨x, h⟩ := slot_any h
  obtain ⟨y, h⟩ := slot_any h
  exact ⟨x, y, h⟩
theorem slot3 {σ l : En} {i j k : Nat} (h : ((σ.set k none).set j none).set i none = l) : ∃ x y z, σ = ((l.set i x).set j y).set k z := by
  obtain ⟨x, h⟩ := slot_any h
  obtain ⟨y, z, h⟩ := slot2 h
  exact ⟨x, y, z, h⟩
theorem slot4 {σ l : En} {i j k m : Nat} (h : (((σ.set m none).set k none).set j none).set i none = l) : ∃ x y z w, σ = (((l.set i x).set j y).set k z).set m w := by
  obtain ⟨x, h⟩ := slot_any h
  obtain ⟨y, z, w, h⟩ := slot3 h
  exact ⟨x, y, z, w, h⟩
def NoHit (l r : Nat) (ps : List Pair) : Prop := ∀ p ∈ ps, ¬ (p.1 = l ∧ p.2.1 = r)
theorem gapIn_hit {pre post : List Pair} {l r : Nat} {x : Pair} (h : NoHit l r pre) (h1 : x.1 = l) (h2 : x.2.1 = r) : gapIn (pre ++ x :: post) l r = x.2.2 := by
  unfold gapIn
  have e : (pre ++ x :: post).find? (fun p => decide (p.1 = l ∧ p.2.1 = r)) = some x := by
    rw [List.find?_append, List.find?_eq_none.mpr (fun p hp => by simpa using h p hp)]
    simp [h1, h2]
  rw [e]
theorem gapIn_none {ps : List Pair} {l r : Nat} (h : NoHit l r ps) : gapIn ps l r = 0 := by
  unfold gapIn
  rw [List.find?_eq_none.mpr (fun p hp => by simpa using h p hp)]
theorem NoHit.snoc {pre : List Pair} {l r : Nat} {x : Pair} (h : NoHit l r pre) (hx : ¬ (x.1 = l ∧ x.2.1 = r)) : NoHit l r (pre ++ [x]) := fun p hp => by
  rw [List.mem_append, List.mem_singleton] at hp
  rcases hp with hp | rfl
  · exact h p hp
  · exact hx
theorem gap_in_eq (ps : List Pair) (l r : Nat) (S : Sto) : F_gap_in [.py (encP ps), .py (lt l), .py (lt r)] S = .ok (.py (.int (gapIn ps l r))) S := by
  unfold F_gap_in b_gap_in
  refine fn_eq (wp_fn ?_)
  simp [init]
  refine wp_forM (D.py ∘ encT) (fun pre σ T => T = S ∧ ((σ.set 3 none).set 4 none).set 5 none = _ ∧ NoHit l r pre) ⟨rfl, rfl, fun p hp => by cases hp⟩ ?_ ?_
  · rintro pre x post σ T e ⟨rfl, hσ, hp⟩
    obtain ⟨_, _, _, rfl⟩ := slot3 hσ
    clear hσ
    simp
    by_cases h1 : x.1 = l
    · by_cases h2 : x.2.1 = r
      · exact .inr ⟨h1, .inr ⟨h2, T, .self, rfl, by rw [e, gapIn_hit hp h1 h2], rfl⟩⟩
      · exact .inr ⟨h1, .inl ⟨h2, hp.snoc fun h => h2 h.2⟩⟩
    · exact .inl ⟨h1, hp.snoc fun h => h1 h.1⟩
  · rintro σ T ⟨rfl, hσ, hp⟩
    simp
    exact ⟨T, .self, rfl, (gapIn_none hp).symm, rfl⟩
/-! ### the list of rows -/
def rowA (l : Nat) (ps : List (Nat × Int)) : List Pair := (ps.filter fun p => p.2 ≠ 0).map fun p => (l, p.1, p.2)
theorem rowA_no {l : Nat} {ps : List (Nat × Int)} {y : Nat × Int} (h : y.2 = 0) : rowA l (ps ++ [y]) = rowA l ps := by simp [rowA, h]
theorem rowA_yes {l : Nat} {ps : List (Nat × Int)} {y : Nat × Int} (h : y.2 ≠ 0) : rowA l (ps ++ [y]) = rowA l ps ++ [(l, y.1, y.2)] := by simp [rowA, h]
theorem rowA_len (l : Nat) (ps : List (Nat × Int)) : (rowA l ps).length ≤ ps.length := by
  unfold rowA
  rw [List.length_map]
  exact List.length_filter_le _ _
def rowP (l : Nat) (L : List Nat) (row : List Int) : List Pair := rowA l (L.zip row)
def mlist (L : List Nat) (rows : List (List Int)) : List Pair := (L.zip rows).flatMap fun p => rowP p.1 L p.2
theorem rowP_len (l : Nat) (L : List Nat) (row : List Int) : (rowP l L row).length ≤ L.length := by
  refine Nat.le_trans (rowA_len _ _) ?_
  rw [List.length_zip]
  exact Nat.min_le_left _ _
theorem flat_len {α β : Type} (f : α → List β) (n : Nat) : ∀ (xs : List α), (∀ x ∈ xs, (f x).length ≤ n) → (xs.flatMap f).length ≤ xs.length * n
  | [], _ => by simp
  | x :: xs, h => by
    have h1 := h x (List.mem_cons_self ..)
    have h2 := flat_len f n xs fun y hy => h y (List.mem_cons_of_mem _ hy)
    rw [List.flatMap_cons, List.length_append, List.length_cons, Nat.add_mul]
    omega
def flatP (L : List Nat) (xs : List (Nat × List Int)) : List Pair := xs.flatMap fun p => rowP p.1 L p.2
theorem flatP_len {L : List Nat} {pre post : List (Nat × List Int)} {x : Nat × List Int} {rows : List (List Int)} (e : L.zip rows = pre ++ x :: post) (hL : L.length ≤ 200) : (flatP L pre).length + L.length ≤ 40000 := by
  have h1 := flat_len (fun p : Nat × List Int => rowP p.1 L p.2) L.length pre fun p _ => rowP_len _ _ _
  have h2 : pre.length < L.length := by
    have := congrArg List.length e
    rw [List.length_zip, List.length_append, List.length_cons] at this
    omega
  have h3 : pre.length * L.length ≤ pre.length * 200 := Nat.mul_le_mul_left _ hL
  unfold flatP
  omega
theorem flatP_snoc (L : List Nat) (pre : List (Nat × List Int)) (x : Nat × List Int) : flatP L (pre ++ [x]) = flatP L pre ++ rowP x.1 L x.2 := by simp [flatP]
theorem law_list_eq (f : Face) (rows : List (List Int)) (S : Sto) (h1 : f.ls.length ≤ 200) : F_law_list [.py f.py, .py (encR rows)] S = .ok (.py (encP (mlist f.lets rows))) S := by
  unfold F_law_list b_law_list
  refine fn_eq (wp_fn ?_)
  have hL : f.lets.length ≤ 200 := by simpa [Face.lets] using h1
  simp [init, law_letters_eq]
  rw [stL_nil]
  refine wp_forM _ (fun pre σ T => wipeD σ [4, 5, 6, 7] = _ ∧ T = stL S ((flatP f.lets pre).map encT)) ⟨rfl, rfl⟩ ?_ ?_
  · rintro pre x post σ T e ⟨hσ, rfl⟩
    obtain ⟨_, _, _, _, rfl⟩ := slot4 hσ
    clear hσ
    simp
    have hlen := flatP_len e hL
    refine wp_forM _ (fun pre2 σ T => wipeD σ [6, 7] = _ ∧ T = stL S ((flatP f.lets pre ++ rowA x.1 pre2).map encT)) ⟨rfl, by simp [rowA]⟩ ?_ ?_
    · rintro pre2 y post2 σ T e2 ⟨hσ, rfl⟩
      obtain ⟨_, _, rfl⟩ := slot2 hσ
      clear hσ
      by_cases hy : y.2 = 0
      · simp [hy, rowA_no]
      · have l2 := rowA_len x.1 pre2
        have l3 : pre2.length ≤ f.lets.length := by
          have := congrArg List.length e2
          rw [List.length_zip, List.length_append] at this
          omega
        have ap := stL_app (S := S) (ds := (flatP f.lets pre ++ rowA x.1 pre2).map encT) (d := encT (x.1, y.1, y.2)) (by rw [List.length_map, List.length_append, show sizeLine = 16777216 from rfl]; omega)
        simp [hy]
        rw [List.map_append] at ap
        refine wp_of ap ?_
        simp [rowA_yes hy]
    · rintro σ T ⟨hσ, rfl⟩
      obtain ⟨_, _, rfl⟩ := slot2 hσ
      clear hσ
      simp [flatP_snoc, rowP]
  · rintro σ T ⟨hσ, rfl⟩
    obtain ⟨_, _, _, _, rfl⟩ := slot4 hσ
    clear hσ
    simp
    exact ⟨S, .stL, rfl, rfl, rfl⟩
theorem from_rows_eq (f : Face) (rows : List (List Int)) (S : Sto) (h1 : f.ls.length ≤ 200) : F_from_rows [.py f.py, .py (encR rows)] S = .ok (.py (encP (mlist f.lets rows))) S := by
  unfold F_from_rows b_from_rows
  refine fn_eq (wp_fn ?_)
  have hL : f.lets.length ≤ 200 := by simpa [Face.lets] using h1
  simp [init, letters_of_eq]
  rw [stL_nil]
  refine wp_forM _ (fun pre σ T => wipeD σ [4, 5] = _ ∧ T = stL S ((flatP f.lets pre).map encT)) ⟨rfl, rfl⟩ ?_ ?_
  · rintro pre x post σ T e ⟨hσ, rfl⟩
    obtain ⟨_, _, rfl⟩ := slot2 hσ
    clear hσ
    have hlen := flatP_len e hL
    simp
    refine wp_pureM _ (fun p : Nat × Int => !decide (p.2 = 0)) (fun p => D.py (encT (x.1, p.1, p.2))) (fun y hy => by simp; exact Decidable.em _) ?_
    simp
    have l2 := rowP_len x.1 f.lets x.2
    refine ⟨?_, ?_⟩
    · unfold rowP rowA at l2
      simp at l2
      rw [show sizeLine = 16777216 from rfl]
      omega
    · have e3 : List.map (D.py ∘ encT) (flatP f.lets pre) ++ List.map (fun p => D.py (encT (x.1, p.1, p.2))) (List.filter (fun p => !decide (p.2 = 0)) (f.lets.zip x.2)) = ((flatP f.lets (pre ++ [x])).map encT).map .py := by
        rw [flatP_snoc]
        simp [rowP, rowA]
      rw [e3, stL_set]
  · rintro σ T ⟨hσ, rfl⟩
    obtain ⟨_, _, rfl⟩ := slot2 hσ
    clear hσ
    simp
    exact ⟨S, .stL, rfl, rfl, rfl⟩
end DV

set_option maxHeartbeats 4000000
namespace DV
open PySem
/-! Data that may be shown and compared. -/
structure Fit (d : PyData) (k w : Nat) : Prop where
  sh : d.showable = true
  hd : d.hasDict = false
  dp : d.depth ≤ k
  ls : PyData.leavesShort 13 d = true
  bk : d.bulk ≤ w
  ly : d.canLay0 = true
structure FitL (ds : List PyData) (k w : Nat) : Prop where
  sh : PyData.showableAll ds = true
  hd : PyData.hasDictAll ds = false
  dp : PyData.depthAll ds ≤ k
  ls : PyData.leavesShortAll 13 ds = true
  bk : PyData.bulkAll ds ≤ w
  ly : PyData.canLayAll0 ds = true
theorem Fit.int {i : Int} (h1 : -999999999999 ≤ i) (h2 : i ≤ 999999999999) : Fit (.int i) 0 0 := by
  refine ⟨?_, PyData.hasDict.eq_3 i, by rw [PyData.depth.eq_6]; exact Nat.le_refl _, ?_, by rw [PyData.bulk.eq_7]; exact Nat.le_refl _, PyData.canLay0.eq_3 i⟩
  · rw [PyData.showable.eq_4, decide_eq_true_eq]
    by_cases h : i.natAbs = 0
    · rw [h]
      decide
    · rw [Nat.log2_lt h]
      exact Nat.lt_of_lt_of_le (show i.natAbs < 2 ^ 40 by omega) (Nat.pow_le_pow_right (by decide) (by decide))
  · rw [PyData.leavesShort.eq_3, decide_eq_true_eq]
    exact PyData.shown_int_le2 h1 h2
theorem Fit.bool (b : Bool) : Fit (.bool b) 0 0 :=
  ⟨PyData.showable.eq_2 b, PyData.hasDict.eq_2 b, by rw [PyData.depth.eq_5]; exact Nat.le_refl _, PyData.leavesShort.eq_2 13 b, by rw [PyData.bulk.eq_6]; exact Nat.le_refl _, PyData.canLay0.eq_2 b⟩
theorem Fit.none : Fit .none 0 0 :=
  ⟨PyData.showable.eq_1, PyData.hasDict.eq_1, by rw [PyData.depth.eq_4]; exact Nat.le_refl _, PyData.leavesShort.eq_1 13, by rw [PyData.bulk.eq_5]; exact Nat.le_refl _, PyData.canLay0.eq_1⟩
theorem Fit.str {x : Str} {n : Nat} (h : ∀ c ∈ x.cps.toList, c < 1114112) (hn : x.cps.size ≤ n) : Fit (.str x) 0 n := by
  refine ⟨PyData.showable.eq_3 x, PyData.hasDict.eq_4 x, ?_, ?_, by rw [PyData.bulk.eq_1]; exact hn, ?_⟩
  · rw [PyData.depth.eq_7]
    exact Nat.le_refl _
  · rw [PyData.leavesShort.eq_4, List.all_eq_true]
    intro c hc
    have := h c hc
    exact decide_eq_true (by omega)
  · rw [PyData.canLay0.eq_4]
    unfold PyData.strOk
    rw [← Array.all_toList, List.all_eq_true]
    intro c hc
    exact decide_eq_true (h c hc)
theorem Fit.lt {c : Nat} (h : c < 1114112) : Fit (DV.lt c) 0 1 := Fit.str (by simpa using h) (by simp)
theorem FitL.nil {k w : Nat} : FitL [] k w := ⟨PyData.showableAll.eq_1, PyData.hasDictAll.eq_1, by rw [PyData.depthAll.eq_1]; exact Nat.zero_le _, PyData.leavesShortAll.eq_1 13, by rw [PyData.bulkAll.eq_1]; exact Nat.zero_le _, PyData.canLayAll0.eq_1⟩
theorem FitL.cons {d : PyData} {ds : List PyData} {k w w' : Nat} (h : Fit d k w) (hs : FitL ds k w') : FitL (d :: ds) k (w + 1 + w') := by
  refine ⟨?_, ?_, ?_, ?_, ?_, ?_⟩
  · rw [PyData.showableAll.eq_2, h.sh, hs.sh]
    rfl
  · rw [PyData.hasDictAll.eq_2, h.hd, hs.hd]
    rfl
  · rw [PyData.depthAll.eq_2]
    exact Nat.max_le.mpr ⟨h.dp, hs.dp⟩
  · rw [PyData.leavesShortAll.eq_2, h.ls, hs.ls]
    rfl
  · rw [PyData.bulkAll.eq_2]
    have := h.bk
    have := hs.bk
    omega
  · rw [PyData.canLayAll0.eq_2, h.ly, hs.ly]
    rfl
theorem Fit.mono {d : PyData} {k k' w w' : Nat} (h : Fit d k w) (hk : k ≤ k') (hw : w ≤ w') : Fit d k' w' := ⟨h.sh, h.hd, Nat.le_trans h.dp hk, h.ls, Nat.le_trans h.bk hw, h.ly⟩
theorem FitL.mono {d : List PyData} {k k' w w' : Nat} (h : FitL d k w) (hk : k ≤ k') (hw : w ≤ w') : FitL d k' w' := ⟨h.sh, h.hd, Nat.le_trans h.dp hk, h.ls, Nat.le_trans h.bk hw, h.ly⟩
theorem FitL.all {k w : Nat} : ∀ {ds : List PyData}, (∀ d ∈ ds, Fit d k w) → FitL ds k (ds.length * (w + 1))
  | [], _ => .nil
  | d :: ds, h => by
    have := FitL.cons (h d (List.mem_cons_self ..)) (FitL.all fun e he => h e (List.mem_cons_of_mem _ he))
    refine this.mono (Nat.le_refl _) ?_
    rw [List.length_cons, Nat.add_mul]
    omega
theorem Fit.list {ds : List PyData} {k w : Nat} (h : FitL ds k w) : Fit (.list ds) (k + 1) w := by
  refine ⟨by rw [PyData.showable.eq_5]; exact h.sh, by rw [PyData.hasDict.eq_5]; exact h.hd, by rw [PyData.depth.eq_1]; exact Nat.succ_le_succ h.dp, by rw [PyData.leavesShort.eq_5]; exact h.ls, by rw [PyData.bulk.eq_2]; exact h.bk, by rw [PyData.canLay0.eq_5]; exact h.ly⟩
theorem Fit.tuple {ds : List PyData} {k w : Nat} (h : FitL ds k w) : Fit (.tuple ds) (k + 1) w := by
  refine ⟨by rw [PyData.showable.eq_6]; exact h.sh, by rw [PyData.hasDict.eq_6]; exact h.hd, by rw [PyData.depth.eq_2]; exact Nat.succ_le_succ h.dp, by rw [PyData.leavesShort.eq_6]; exact h.ls, by rw [PyData.bulk.eq_3]; exact h.bk, by rw [PyData.canLay0.eq_6]; exact h.ly⟩
theorem Fit.listN {ds : List PyData} {k w m : Nat} (h : ∀ d ∈ ds, Fit d k w) (hm : ds.length ≤ m) : Fit (.list ds) (k + 1) (m * (w + 1)) := (Fit.list (FitL.all h)).mono (Nat.le_refl _) (Nat.mul_le_mul_right _ hm)
theorem Fit.tupleN {ds : List PyData} {k w m : Nat} (h : ∀ d ∈ ds, Fit d k w) (hm : ds.length ≤ m) : Fit (.tuple ds) (k + 1) (m * (w + 1)) := (Fit.tuple (FitL.all h)).mono (Nat.le_refl _) (Nat.mul_le_mul_right _ hm)
theorem Fit.shaped {d : PyData} {k w : Nat} (h : Fit d k w) (hk : k ≤ 64) : SeqAt.shaped d = true := by
  unfold SeqAt.shaped
  rw [h.ly, Bool.true_and, decide_eq_true_eq]
  exact Nat.le_trans h.dp hk
/-- letters, pairs, rows -/
theorem fit_encT {p : Pair} (h1 : p.1 < 1114112) (h2 : p.2.1 < 1114112) (h3 : -999999999999 ≤ p.2.2) (h4 : p.2.2 ≤ 999999999999) : Fit (encT p) 1 5 :=
  (Fit.tuple (.cons (Fit.lt h1) (.cons (Fit.lt h2) (.cons (Fit.int h3 h4) (FitL.nil (w := 0)))))).mono (by decide) (by decide)
end DV

set_option maxHeartbeats 4000000
namespace DV
open PySem
/-! All pairs, gaps told by their list. -/
theorem zip_at {α β : Type} {xs : List α} {ys : List β} {i : Nat} {x : α} {y : β} (h1 : xs[i]? = some x) (h2 : ys[i]? = some y) : (xs.zip ys)[i]? = some (x, y) := by
  rw [List.getElem?_zip_eq_some]
  exact ⟨h1, h2⟩
theorem mem_zip_at {α β : Type} {xs : List α} {ys : List β} {p : α × β} (h : p ∈ xs.zip ys) : ∃ i : Nat, xs[i]? = some p.1 ∧ ys[i]? = some p.2 := by
  obtain ⟨i, hi⟩ := List.getElem?_of_mem h
  exact ⟨i, List.getElem?_zip_eq_some.mp hi⟩
theorem gapIn_of {ps : List Pair} {l r : Nat} {g : Int} (h : ∀ p ∈ ps, p.1 = l → p.2.1 = r → p.2.2 = g) (h0 : g ≠ 0 → ∃ p ∈ ps, p.1 = l ∧ p.2.1 = r) : gapIn ps l r = g := by
  unfold gapIn
  cases e : ps.find? (fun p => decide (p.1 = l ∧ p.2.1 = r)) with
  | some p =>
    have h1 := List.find?_some e
    have h2 := List.mem_of_find?_eq_some e
    simp at h1
    exact h p h2 h1.1 h1.2
  | none =>
    rw [List.find?_eq_none] at e
    by_cases hg : g = 0
    · exact hg.symm
    · obtain ⟨p, hp, h1, h2⟩ := h0 hg
      exact (e p hp (by simp [h1, h2])).elim
theorem mem_mlist {L : List Nat} {rows : List (List Int)} {p : Pair} (h : p ∈ mlist L rows) : ∃ (i j : Nat) (row : List Int), L[i]? = some p.1 ∧ rows[i]? = some row ∧ L[j]? = some p.2.1 ∧ row[j]? = some p.2.2 ∧ p.2.2 ≠ 0 := by
  unfold mlist rowP rowA at h
  rw [List.mem_flatMap] at h
  obtain ⟨x, hx, hp⟩ := h
  rw [List.mem_map] at hp
  obtain ⟨y, hy, rfl⟩ := hp
  rw [List.mem_filter] at hy
  obtain ⟨i, h1, h2⟩ := mem_zip_at hx
  obtain ⟨j, h3, h4⟩ := mem_zip_at hy.1
  exact ⟨i, j, x.2, h1, h2, h3, h4, by simpa using hy.2⟩
theorem mlist_has {L : List Nat} {rows : List (List Int)} {i j l r : Nat} {row : List Int} {g : Int} (h1 : L[i]? = some l) (h2 : rows[i]? = some row) (h3 : L[j]? = some r) (h4 : row[j]? = some g) (hg : g ≠ 0) : (l, r, g) ∈ mlist L rows := by
  unfold mlist rowP rowA
  rw [List.mem_flatMap]
  refine ⟨(l, row), List.mem_of_getElem? (zip_at h1 h2), ?_⟩
  rw [List.mem_map]
  refine ⟨(r, g), ?_, rfl⟩
  rw [List.mem_filter]
  exact ⟨List.mem_of_getElem? (zip_at h3 h4), by simpa using hg⟩
theorem gap_mlist {L : List Nat} {rows : List (List Int)} {i j l r : Nat} {row : List Int} {g : Int} (hn : L.Nodup) (h1 : L[i]? = some l) (h2 : rows[i]? = some row) (h3 : L[j]? = some r) (h4 : row[j]? = some g) : gapIn (mlist L rows) l r = g := by
  refine gapIn_of (fun p hp e1 e2 => ?_) fun hg => ⟨(l, r, g), mlist_has h1 h2 h3 h4 hg, rfl, rfl⟩
  obtain ⟨i', j', row', k1, k2, k3, k4, _⟩ := mem_mlist hp
  rw [e1] at k1
  rw [e2] at k3
  have := nodup_get hn h1 k1
  subst this
  have := nodup_get hn h3 k3
  subst this
  rw [h2] at k2
  cases k2
  rw [h4] at k4
  exact (Option.some.inj k4).symm
/-! the data of lists -/
theorem Face.Good.mem {f : Face} {lo hi : Int} (h : f.Good lo hi) {c : Nat} (hc : c ∈ f.lets) : 97 ≤ c ∧ c ≤ 122 := by
  obtain ⟨p, hp, rfl⟩ := List.mem_map.mp hc
  exact ⟨(h.ok p hp).1, (h.ok p hp).2.1⟩
/-! ### all pairs -/
/-! ### what has changed, row by row -/
theorem map_fst_zip {α β : Type} : ∀ {xs : List α} {ys : List β}, xs.length ≤ ys.length → (xs.zip ys).map Prod.fst = xs
  | [], _, _ => by simp
  | _ :: _, [], h => by simp at h
  | x :: xs, y :: ys, h => by
    have := map_fst_zip (xs := xs) (ys := ys) (by simpa using h)
    simp [this]
/-- rows turned about -/
def turnR (n : Nat) (R : List (List Int)) : List (List Int) := (List.range n).map fun j => R.map fun row => row.getD j 0
theorem Rows.turn {R : List (List Int)} {n : Nat} (h : Rows R n) : Rows (turnR n R) n := by
  refine ⟨by simp [turnR], fun r hr => ?_, fun r hr x hx => ?_⟩
  · obtain ⟨j, _, rfl⟩ := List.mem_map.mp hr
    simpa using h.len
  · obtain ⟨j, hj, rfl⟩ := List.mem_map.mp hr
    obtain ⟨row, hrow, rfl⟩ := List.mem_map.mp hx
    have hl := h.row _ hrow
    rw [List.mem_range] at hj
    have : j < row.length := by omega
    simp [this]
    exact h.bnd _ hrow _ (List.getElem_mem this)
end DV

set_option maxHeartbeats 4000000
namespace DV
open PySem
/-! The law's own loop over its script. -/
def Keep0 (sc : D) (n : Nat) (σ : En) : Prop := ∃ ys : En, σ = some sc :: ys ∧ ys.length = n
theorem Keep0.mk {sc : D} {n : Nat} {ys : En} (h : ys.length = n) : Keep0 sc n (some sc :: ys) := ⟨ys, rfl, h⟩
theorem explode {α : Type} {n : Nat} {r : List α} (h : r.length = n + 1) : ∃ y r', r = y :: r' ∧ r'.length = n := by
  cases r with
  | nil => cases h
  | cons y r' => exact ⟨y, r', rfl, by simpa using h⟩
theorem nil_of {α : Type} {r : List α} (h : r.length = 0) : r = [] := List.eq_nil_of_length_eq_zero h
theorem law_all {n : Nat} {c : Int} {b : Sx} {ns : List Int} (hc : 1 ≤ c) (hc2 : c ≤ 60)
    (hb : ∀ (k : Nat) (ys : En) (S : Sto) (m : Nat), BoxAt S m → ys.length = n → k < 64 → (b (some (.py (.list (ns.map .int))) :: some (.py (.int k)) :: some (.obj m) :: ys) S).wp { nx := fun σ _ => Keep0 (.py (.list (ns.map .int))) (n + 2) σ, ct := fun σ _ => Keep0 (.py (.list (ns.map .int))) (n + 2) σ }) :
    ∃ S', fnF (n + 3) (seqS (forS (rng1I (callE max2D (consA (cE (.int 1)) (consA (callE min2D (consA (callE lenD (consA (varE 0) nilA)) (consA (cE (.int c)) nilA))) nilA)))) (nmG 1)
      (seqS (asgS (callE F_law_box (consA (varE 0) (consA (varE 1) nilA))) (nmG 2)) b)) (retS (cE (.bool true)))) [.py (.list (ns.map .int))] [] = .ok (.py (.bool true)) S' := by
  have key : (fnF (n + 3) (seqS (forS (rng1I (callE max2D (consA (cE (.int 1)) (consA (callE min2D (consA (callE lenD (consA (varE 0) nilA)) (consA (cE (.int c)) nilA))) nilA)))) (nmG 1)
      (seqS (asgS (callE F_law_box (consA (varE 0) (consA (varE 1) nilA))) (nmG 2)) b)) (retS (cE (.bool true)))) [.py (.list (ns.map .int))] []).wp (fun d _ => d = .py (.bool true)) noE := by
    refine wp_fn ?_
    have hi : init (n + 3) [.py (.list (ns.map .int))] = some (.py (.list (ns.map .int))) :: List.replicate (n + 2) none := rfl
    rw [hi]
    simp
    refine ⟨by split <;> split <;> omega, ?_⟩
    refine wp_forL (fun pre σ _ => Keep0 (.py (.list (ns.map .int))) (n + 2) σ) (.mk (by simp)) ?_ ?_
    · rintro pre x post σ S e ⟨ys, rfl, hy⟩
      obtain ⟨y1, r1, rfl, h1⟩ := explode hy
      obtain ⟨y2, r2, rfl, h2⟩ := explode h1
      have hx : ∃ k : Nat, x = .py (.int k) ∧ k < 64 := by
        have hm : x ∈ rngV 0 (if (if c < (ns.length : Int) then c else (ns.length : Int)) > 1 then (if c < (ns.length : Int) then c else (ns.length : Int)) else 1).toNat := by
          have e' := e
          simp at e' ⊢
          rw [e']
          simp
        unfold rngV at hm
        rw [List.mem_map] at hm
        obtain ⟨k, hk, rfl⟩ := hm
        rw [List.mem_range] at hk
        refine ⟨k, by simp, ?_⟩
        split at hk <;> split at hk <;> omega
      obtain ⟨k, rfl, hk⟩ := hx
      simp
      refine (box_ok (ns := ns) (k := k) (by omega)).to ?_
      rintro d S1 ⟨rfl, a, b', rfl⟩
      have hbx : BoxAt (S ++ [.lst [.py (.int a), .py (.int b')]]) S.length := ⟨a, b', last_get⟩
      exact (hb k r2 _ _ hbx h2 hk).mono (fun _ _ h => h) (fun _ _ h => h.elim) (fun _ _ h => h.elim) (fun _ _ h => h) fun _ _ h => h.elim
    · rintro σ S _
      exact ⟨⟨_, Nat.zero_le _, rfl, fun i o hi => absurd hi (by simp)⟩, rfl⟩
  obtain ⟨a, T, e, rfl⟩ := key.out
  exact ⟨T, e⟩
end DV

set_option maxHeartbeats 4000000
namespace DV
open PySem
/-! Rows of gaps; letters by marks. -/
theorem rows_of_eq (f : Face) (P : List Pair) (S : Sto) : F_rows_of [.py f.py, .py (encP P)] S = .ok (.py (.tuple (f.lets.map fun l => .tuple (f.lets.map fun r => .int (gapIn P l r))))) S := by
  unfold F_rows_of b_rows_of
  refine fn_eq (wp_fn ?_)
  simp [init, letters_of_eq]
  refine wp_pureM1 (D.py ∘ lt) (fun l => D.py (.tuple (f.lets.map fun r => .int (gapIn P l r)))) (fun l _ => wp_eq ?_) ?_
  · simp
    refine wp_pureM1 (D.py ∘ lt) (fun r => D.py (.int (gapIn P l r))) (fun r _ => wp_eq (by simp [gap_in_eq])) ?_
    simp
  · simp
    exact ⟨.self, rfl⟩
/-! ### == of lists of whole numbers -/
theorem eqvAll_ints : ∀ (a b : List Int), PyData.eqvAll (a.map PyData.int) (b.map PyData.int) = decide (a = b)
  | [], [] => rfl
  | [], _ :: _ => rfl
  | _ :: _, [] => rfl
  | x :: a, y :: b => by
    show PyData.eqvAll (.int x :: a.map PyData.int) (.int y :: b.map PyData.int) = _
    rw [PyData.eqvAll.eq_2, PyData.eqv.eq_5, eqvAll_ints a b]
    by_cases h : x = y <;> by_cases h2 : a = b <;> simp [h, h2]
abbrev tupI (r : List Int) : PyData := .tuple (r.map .int)
theorem eqv_tupI (a b : List Int) : PyData.eqv (tupI a) (tupI b) = decide (a = b) := by rw [PyData.eqv.eq_8, eqvAll_ints]
theorem fit_ints {r : List Int} (h : ∀ x ∈ r, -999999999 ≤ x ∧ x ≤ 999999999) (hl : r.length ≤ 2000) : ∀ d ∈ r.map PyData.int, Fit d 0 0 := fun d hd => by
  obtain ⟨x, hx, rfl⟩ := List.mem_map.mp hd
  have := h x hx
  exact Fit.int (by omega) (by omega)
theorem fit_tupI {r : List Int} (h : ∀ x ∈ r, -999999999 ≤ x ∧ x ≤ 999999999) (hl : r.length ≤ 2000) : Fit (tupI r) 1 2000 := (Fit.tupleN (fit_ints h hl) (m := 2000) (by simpa using hl)).mono (by decide) (by decide)
/-- marks that may be compared -/
structure Mk (M : List (List Int)) : Prop where
  len : M.length ≤ 200
  row : ∀ r ∈ M, r.length ≤ 2000
  bnd : ∀ r ∈ M, ∀ x ∈ r, -999999999 ≤ x ∧ x ≤ 999999999
/-- how marks are held -/
structure Enc (e : List Int → PyData) : Prop where
  eqv : ∀ a b, PyData.eqv (e a) (e b) = decide (a = b)
  fit : ∀ r : List Int, (∀ x ∈ r, -999999999 ≤ x ∧ x ≤ 999999999) → r.length ≤ 2000 → Fit (e r) 1 2000
  flat : ∀ a b, flatD (e a) (e b) = none
theorem enc_tup : Enc tupI := ⟨eqv_tupI, fun _ => fit_tupI, fun _ _ => rfl⟩
theorem Enc.eq {e : List Int → PyData} (h : Enc e) {a b : List Int} (ha : (∀ x ∈ a, -999999999 ≤ x ∧ x ≤ 999999999) ∧ a.length ≤ 2000) (hb : (∀ x ∈ b, -999999999 ≤ x ∧ x ≤ 999999999) ∧ b.length ≤ 2000) (S : Sto) : eqD (.py (e a)) (.py (e b)) S = .ok (.py (.bool (decide (a = b)))) S := by
  have hf := h.flat a b
  simp only [eqD, eqB, hf]
  rw [if_pos ⟨(h.fit a ha.1 ha.2).shaped (by decide), (h.fit b hb.1 hb.2).shaped (by decide)⟩, h.eqv]
theorem Enc.fitL {e : List Int → PyData} (h : Enc e) {M : List (List Int)} (hM : Mk M) : Fit (.list (M.map e)) 2 402000 :=
  (Fit.listN (k := 1) (w := 2000) (m := 200) (fun d hd => by
    obtain ⟨r, hr, rfl⟩ := List.mem_map.mp hd
    exact h.fit r (hM.bnd r hr) (hM.row r hr)) (by rw [List.length_map]; exact hM.len)).mono (by decide) (by decide)
/-! ### each mark once -/
def firsts (M : List (List Int)) : List (List Int) := M.foldl (fun acc m => if m ∈ acc then acc else acc ++ [m]) []
theorem firsts_snoc (M : List (List Int)) (m : List Int) : firsts (M ++ [m]) = if m ∈ firsts M then firsts M else firsts M ++ [m] := by
  unfold firsts
  rw [List.foldl_append]
  rfl
theorem mem_fold {m : List Int} : ∀ {M acc : List (List Int)}, m ∈ M.foldl (fun acc m => if m ∈ acc then acc else acc ++ [m]) acc ↔ m ∈ acc ∨ m ∈ M
  | [], acc => by simp
  | x :: M, acc => by
    rw [List.foldl_cons, mem_fold]
    split
    · rename_i h
      rw [List.mem_cons]
      exact ⟨fun z => z.elim .inl fun q => .inr (.inr q), fun z => z.elim .inl fun q => q.elim (fun e => .inl (e ▸ h)) .inr⟩
    · rw [List.mem_append, List.mem_singleton, List.mem_cons, or_assoc]
theorem mem_firsts {m : List Int} {M : List (List Int)} : m ∈ firsts M ↔ m ∈ M := by
  unfold firsts
  rw [mem_fold]
  simp
def groups (L : List Nat) (M : List (List Int)) : List (List Nat) := (firsts M).map fun m => ((L.zip M).filter fun p => p.2 = m).map (·.1)
abbrev encG (G : List (List Nat)) : PyData := .tuple (G.map fun g => .tuple (g.map lt))
theorem firsts_len : ∀ M : List (List Int), (firsts M).length ≤ M.length := by
  have key : ∀ (M acc : List (List Int)), (M.foldl (fun acc m => if m ∈ acc then acc else acc ++ [m]) acc).length ≤ acc.length + M.length := by
    intro M
    induction M with
    | nil => simp
    | cons x M ih =>
      intro acc
      rw [List.foldl_cons]
      refine Nat.le_trans (ih _) ?_
      split
      · rw [List.length_cons]
        omega
      · rw [List.length_append, List.length_cons, List.length_cons, List.length_nil]
        omega
  intro M
  have := key M []
  simpa [firsts] using this
theorem Mk.sub {M N : List (List Int)} (h : Mk M) (hl : N.length ≤ M.length) (hs : ∀ r ∈ N, r ∈ M) : Mk N := ⟨Nat.le_trans hl h.len, fun r hr => h.row r (hs r hr), fun r hr => h.bnd r (hs r hr)⟩
theorem Mk.firsts {M : List (List Int)} (h : Mk M) : Mk (firsts M) := h.sub (firsts_len M) fun _ hr => mem_firsts.mp hr
theorem Mk.pre {pre post : List (List Int)} (h : Mk (pre ++ post)) : Mk pre := h.sub (by simp) fun _ hr => List.mem_append_left _ hr
theorem mapM_deep (S : Sto) : ∀ ds : List PyData, (ds.map D.py).mapM (deep S 7) = some ds
  | [] => rfl
  | d :: ds => by
    rw [List.map_cons, List.mapM_cons, mapM_deep S ds]
    rfl
theorem deep_stL (S : Sto) (ds : List PyData) : deep (stL S ds) 8 (.obj S.length) = some (.list ds) := by
  simp only [deep, stL_get, mapM_deep]
  rfl
theorem any_eqv {e : List Int → PyData} (he : Enc e) (x : List Int) : ∀ K : List (List Int), ((K.map e).any fun z => PyData.eqv z (e x)) = decide (x ∈ K)
  | [] => rfl
  | k :: K => by
    rw [List.map_cons, List.any_cons, any_eqv he x K, he.eqv]
    by_cases h : k = x
    · simp [h]
    · simp [h, Ne.symm h]
theorem Enc.notin {e : List Int → PyData} (he : Enc e) {x : List Int} {K : List (List Int)} (hx : (∀ y ∈ x, -999999999 ≤ y ∧ y ≤ 999999999) ∧ x.length ≤ 2000) (hK : Mk K) (S : Sto) :
    notInD (.py (e x)) (.obj S.length) (stL S (K.map e)) = .ok (.py (.bool (!decide (x ∈ K)))) (stL S (K.map e)) := by
  have h1 : deep (stL S (K.map e)) 8 (.py (e x)) = some (e x) := rfl
  simp only [notInD, inS, deep_stL, h1, inB]
  rw [if_pos ⟨(he.fit x hx.1 hx.2).shaped (by decide), (he.fitL hK).shaped (by decide)⟩, any_eqv he]
/-- the marks as they are walked -/
structure Mks (d : PyData) (e : List Int → PyData) (M : List (List Int)) : Prop where
  seq : seqD (.py d) = some (M.map e)
  walk : ∀ S, pyWalk S (.py d) = some (M.map e)
theorem grouped_eq {L : PyData} {Ls : List Nat} {d : PyData} {e : List Int → PyData} {M : List (List Int)} (hL : ∀ S, pyWalk S (.py L) = some (Ls.map lt)) (hd : Mks d e M) (he : Enc e) (hM : Mk M) (S : Sto) : F_grouped [.py L, .py d] S = .ok (.py (encG (groups Ls M))) S := by
  unfold F_grouped b_grouped
  refine fn_eq (wp_fn ?_)
  simp [init, hd.seq]
  rw [stL_nil]
  have hb : ∀ {r : List Int}, r ∈ M → (∀ x ∈ r, -999999999 ≤ x ∧ x ≤ 999999999) ∧ r.length ≤ 2000 := fun hr => ⟨hM.bnd _ hr, hM.row _ hr⟩
  refine wp_forM (D.py ∘ e) (fun pre σ T => wipeD σ [3] = _ ∧ T = stL S ((firsts pre).map e)) ⟨rfl, rfl⟩ ?_ ?_
  · rintro pre x post σ T eM ⟨hσ, rfl⟩
    obtain ⟨_, rfl⟩ := slot_any hσ
    clear hσ
    have hx : x ∈ M := by rw [eM]; simp
    have hpre : Mk pre := Mk.pre (eM ▸ hM)
    have hni := he.notin (hb hx) hpre.firsts S
    have hlen := hpre.firsts.len
    by_cases hm : x ∈ firsts pre
    · simp [hni, hm, firsts_snoc]
    · have ap := stL_app (S := S) (ds := (firsts pre).map e) (d := e x) (by rw [List.length_map, show sizeLine = 16777216 from rfl]; omega)
      simp [hni, hm, firsts_snoc, ap]
  · rintro σ T ⟨hσ, rfl⟩
    obtain ⟨_, rfl⟩ := slot_any hσ
    clear hσ
    simp
    refine stL_fix rfl ?_
    simp
    refine wp_pureM1 (D.py ∘ e) (fun m => D.py (.tuple ((((Ls.zip M).filter fun p => p.2 = m).map (·.1)).map lt))) (fun m hm => wp_eq ?_) ?_
    · have hm' := hb (mem_firsts.mp hm)
      simp [hL, hd.walk]
      refine wp_pureM _ (fun p : Nat × List Int => decide (p.2 = m)) (fun p => D.py (lt p.1)) (fun p hp => ?_) ?_
      · obtain ⟨i, _, h2⟩ := mem_zip_at hp
        have q := he.eq (hb (List.mem_of_getElem? h2)) hm'
        by_cases hpm : p.2 = m
        · rw [hpm] at q
          simp [q, hpm]
        · simp [q, hpm]
      · simp [Function.comp_def]
    · simp [Function.comp_def, groups]
      exact ⟨.app, rfl⟩
theorem left_parting_eq (f : Face) (P : List Pair) (S : Sto) (hM : Mk (f.lets.map fun l => f.lets.map fun r => gapIn P l r)) : F_left_parting [.py f.py, .py (encP P)] S = .ok (.py (encG (groups f.lets (f.lets.map fun l => f.lets.map fun r => gapIn P l r)))) S := by
  unfold F_left_parting b_left_parting
  refine fn_eq (wp_fn ?_)
  simp [init, letters_of_eq, rows_of_eq]
  refine wp_of (grouped_eq (fun _ => rfl) (e := tupI) (M := f.lets.map fun l => f.lets.map fun r => gapIn P l r) ⟨by simp, by simp⟩ enc_tup hM S) ?_
  exact ⟨S, .self, rfl, rfl, rfl⟩
end DV

set_option maxHeartbeats 4000000
namespace DV
open PySem
/-! The law's own gaps, marks and groups. -/
theorem eqv_lt (a b : Nat) : PyData.eqv (lt a) (lt b) = decide (a = b) := by
  rw [PyData.eqv.eq_6]
  by_cases h : a = b
  · subst h
    simp
  · simp [h]
def LP (P : List Pair) : Prop := P.length ≤ 40000 ∧ ∀ p ∈ P, p.1 ≤ 122 ∧ p.2.1 ≤ 122
def leftM (f : Face) (P : List Pair) : List (List Int) := f.lets.map fun l => f.lets.map fun r => gapIn P l r
def rightM (f : Face) (P : List Pair) : List (List Int) := f.lets.map fun r => f.lets.map fun l => gapIn P l r
/-! ### the first place of a mark -/
theorem place_enc {e : List Int → PyData} (he : Enc e) (M : List (List Int)) (x : List Int) : placeOf (M.map e) (e x) = M.findIdx? fun m => decide (m = x) := by
  unfold placeOf
  rw [List.findIdx?_map]
  congr 1
  funext m
  exact he.eqv m x
theorem Enc.index {e : List Int → PyData} (he : Enc e) {M : List (List Int)} {x : List Int} {j : Nat} (hM : Mk M) (hx : (∀ y ∈ x, -999999999 ≤ y ∧ y ≤ 999999999) ∧ x.length ≤ 2000) (hj : M.findIdx? (fun m => decide (m = x)) = some j) (S : Sto) :
    indexD (.py (.list (M.map e))) [.py (e x)] S = .ok (.py (.int (j : Nat))) S := by
  have h1 : deep S 8 (.py (.list (M.map e))) = some (.list (M.map e)) := rfl
  have h2 : deep S 8 (.py (e x)) = some (e x) := rfl
  simp only [indexD, h1, h2, place_enc he, hj]
  rw [if_pos ⟨(he.fitL hM).shaped (by decide), (he.fit x hx.1 hx.2).shaped (by decide)⟩]
theorem zipIdx_split {α : Type} {M : List α} {pre post : List (α × Nat)} {x : α × Nat} (h : M.zipIdx = pre ++ x :: post) : M = pre.map (·.1) ++ x.1 :: post.map (·.1) ∧ x.2 = pre.length := by
  have h1 := congrArg (List.map (·.1)) h
  rw [List.zipIdx_map_fst] at h1
  refine ⟨by simpa using h1, ?_⟩
  have h2 : (M.zipIdx)[pre.length]? = some x := by rw [h]; simp
  rw [List.getElem?_zipIdx] at h2
  cases hm : M[pre.length]? with
  | none => rw [hm] at h2; cases h2
  | some m =>
    rw [hm] at h2
    have := Option.some.inj h2
    rw [← this]
    simp
end DV

set_option maxHeartbeats 4000000
namespace DV
open PySem
/-! Lists of gaps that are small enough. -/
structure PG (P : List Pair) : Prop where
  len : P.length ≤ 40000
  lts : ∀ p ∈ P, p.1 ≤ 122 ∧ p.2.1 ≤ 122
  gap : ∀ p ∈ P, -999999999 ≤ p.2.2 ∧ p.2.2 ≤ 999999999
theorem PG.nil : PG [] := ⟨by simp, by simp, by simp⟩
theorem PG.lp {P : List Pair} (h : PG P) : LP P := ⟨h.len, h.lts⟩
theorem mlist_len (L : List Nat) (R : List (List Int)) (hl : L.length ≤ 200) : (mlist L R).length ≤ 40000 := by
  have h := flat_len (fun p : Nat × List Int => rowP p.1 L p.2) L.length (L.zip R) fun p _ => rowP_len _ _ _
  have h2 : (L.zip R).length ≤ L.length := by rw [List.length_zip]; exact Nat.min_le_left _ _
  have h3 : (L.zip R).length * L.length ≤ 200 * 200 := Nat.mul_le_mul (Nat.le_trans h2 hl) hl
  unfold mlist
  omega
theorem PG.mlist {L : List Nat} {R : List (List Int)} (hL : ∀ c ∈ L, c ≤ 122) (hr : ∀ r ∈ R, ∀ x ∈ r, -999999999 ≤ x ∧ x ≤ 999999999) (hl : L.length ≤ 200) : PG (mlist L R) := by
  refine ⟨mlist_len L R hl, fun p hp => ?_, fun p hp => ?_⟩
  · obtain ⟨i, j, row, k1, k2, k3, k4, _⟩ := mem_mlist hp
    exact ⟨hL _ (List.mem_of_getElem? k1), hL _ (List.mem_of_getElem? k3)⟩
  · obtain ⟨i, j, row, k1, k2, k3, k4, _⟩ := mem_mlist hp
    exact hr _ (List.mem_of_getElem? k2) _ (List.mem_of_getElem? k4)
theorem Rows.bnd9 {R : List (List Int)} {n : Nat} (h : Rows R n) : ∀ r ∈ R, ∀ x ∈ r, -999999999 ≤ x ∧ x ≤ 999999999 := fun r hr x hx => by
  have := h.bnd r hr x hx
  omega
theorem PG.fit {P : List Pair} (h : PG P) : Fit (encP P) 2 240000 := by
  refine (Fit.tupleN (k := 1) (w := 5) (m := 40000) (fun d hd => ?_) (by simpa using h.len)).mono (by decide) (by decide)
  obtain ⟨p, hp, rfl⟩ := List.mem_map.mp hd
  have a := h.lts p hp
  have b := h.gap p hp
  exact fit_encT (by omega) (by omega) (by omega) (by omega)
theorem PG.bnd {P : List Pair} (h : PG P) (l r : Nat) : -999999999 ≤ gapIn P l r ∧ gapIn P l r ≤ 999999999 := by
  unfold gapIn
  split
  · rename_i p hp
    exact h.gap p (List.mem_of_find?_eq_some hp)
  · omega
theorem PG.left {P : List Pair} (h : PG P) {f : Face} (hf : f.ls.length ≤ 200) : Mk (leftM f P) := by
  refine ⟨by simpa [leftM] using hf, fun r hr => ?_, fun r hr x hx => ?_⟩
  · obtain ⟨l, _, rfl⟩ := List.mem_map.mp hr
    simp
    omega
  · obtain ⟨l, _, rfl⟩ := List.mem_map.mp hr
    obtain ⟨q, _, rfl⟩ := List.mem_map.mp hx
    exact h.bnd _ _
theorem PG.right {P : List Pair} (h : PG P) {f : Face} (hf : f.ls.length ≤ 200) : Mk (rightM f P) := by
  refine ⟨by simpa [rightM] using hf, fun r hr => ?_, fun r hr x hx => ?_⟩
  · obtain ⟨l, _, rfl⟩ := List.mem_map.mp hr
    simp
    omega
  · obtain ⟨l, _, rfl⟩ := List.mem_map.mp hr
    obtain ⟨q, _, rfl⟩ := List.mem_map.mp hx
    exact h.bnd _ _
theorem law_pairs_ok {S : Sto} {n : Nat} {f : Face} (h : BoxAt S n) (h0 : 0 < f.ls.length) (h1 : f.ls.length ≤ 64) :
    (F_law_pairs [.obj n, .py f.py] S).wp (fun d S' => ∃ R, d = .py (encP (mlist f.lets R)) ∧ Rows R f.ls.length ∧ Ch n S S' ∧ S'.length = S.length) noE := by
  have hn := h.lt
  unfold F_law_pairs b_law_pairs
  refine wp_fn ?_
  simp [init]
  refine (rows_ok (n := n) (many := f.ls.length) h h0 h1).to ?_
  rintro _ S1 ⟨R, rfl, rR, c1, _⟩
  simp [law_list_eq f R _ (by omega)]
  obtain ⟨T, k1, k2, k3⟩ := c1.cut hn
  exact ⟨T, k1, rfl, R, rfl, rR, k2, k3⟩
end DV

set_option maxHeartbeats 4000000
namespace DV
open PySem
/-! Tables by classes of letters. -/
theorem mem_groups {L : List Nat} {rowf : Nat → List Int} {g : List Nat} (h : g ∈ groups L (L.map rowf)) : ∃ m, g ≠ [] ∧ ∀ c ∈ g, c ∈ L ∧ rowf c = m := by
  unfold groups at h
  obtain ⟨m, hm, rfl⟩ := List.mem_map.mp h
  have zz : ∀ p : Nat × List Int, p ∈ L.zip (L.map rowf) ↔ p.1 ∈ L ∧ rowf p.1 = p.2 := fun p => by
    constructor
    · intro hp
      obtain ⟨i, h1, h2⟩ := mem_zip_at hp
      rw [List.getElem?_map, h1] at h2
      exact ⟨List.mem_of_getElem? h1, Option.some.inj h2⟩
    · rintro ⟨h1, h2⟩
      obtain ⟨i, hi⟩ := List.getElem?_of_mem h1
      have := zip_at (ys := L.map rowf) (y := rowf p.1) hi (by rw [List.getElem?_map, hi]; rfl)
      rw [h2] at this
      exact List.mem_of_getElem? this
  refine ⟨m, ?_, fun c hc => ?_⟩
  · obtain ⟨c, hc, he⟩ := List.mem_map.mp (mem_firsts.mp hm)
    intro e
    have : c ∈ ((L.zip (L.map rowf)).filter fun p => decide (p.2 = m)).map (·.1) := List.mem_map.mpr ⟨(c, m), List.mem_filter.mpr ⟨(zz (c, m)).mpr ⟨hc, he⟩, by simp⟩, rfl⟩
    rw [e] at this
    cases this
  · obtain ⟨p, hp, rfl⟩ := List.mem_map.mp hc
    obtain ⟨h1, h2⟩ := List.mem_filter.mp hp
    obtain ⟨h3, h4⟩ := (zz p).mp h1
    exact ⟨h3, by rw [h4]; simpa using h2⟩
end DV

set_option maxHeartbeats 4000000
namespace DV
open PySem
/-! Letters, gaps and rows that are known. -/
theorem is_from_to_int (i lo hi : Int) (S : Sto) : F_is_from_to [.py (.int i), .py (.int lo), .py (.int hi)] S = .ok (.py (.bool (decide (lo ≤ i ∧ i ≤ hi)))) S := by
  unfold F_is_from_to b_is_from_to
  refine fn_eq (wp_fn ?_)
  simp [init, isB]
  by_cases h : lo ≤ i
  · simp [h]
    first | exact ⟨.self, rfl⟩ | exact .inr ⟨.self, rfl⟩
  · have h' : i < lo := by omega
    simp [h, h']
    exact ⟨.self, rfl⟩
theorem is_gap_int (i : Int) (S : Sto) : F_is_gap [.py (.int i)] S = .ok (.py (.bool (decide (-9 ≤ i ∧ i ≤ 9)))) S := by
  unfold F_is_gap b_is_gap
  refine fn_eq (wp_fn ?_)
  simp [init, is_from_to_int]
  exact ⟨.self, rfl⟩
theorem place_of_eq {f : Face} {c : Nat} (h : c ∈ f.lets) (S : Sto) : ∃ i : Nat, F_place_of [.py f.py, .py (lt c)] S = .ok (.py (.int i)) S := by
  have key : (F_place_of [.py f.py, .py (lt c)] S).wp (fun d T => (∃ i : Nat, d = .py (.int i)) ∧ T = S) noE := by
    unfold F_place_of b_place_of
    refine wp_fn ?_
    simp [init]
    refine wp_forM _ (fun (pre : List ((Nat × Int) × Nat)) σ T => wipeD σ [2, 3] = _ ∧ T = S ∧ ∀ p ∈ pre, p.1.1 ≠ c) ⟨rfl, rfl, by simp⟩ ?_ ?_
    · rintro pre x post σ T e ⟨hσ, rfl, hp⟩
      obtain ⟨_, _, rfl⟩ := slot2 hσ
      clear hσ
      by_cases hx : x.1.1 = c
      · simp [hx]
        exact ⟨T, .self, rfl, ⟨_, rfl⟩, rfl⟩
      · have hp' : ∀ p ∈ pre ++ [x], p.1.1 ≠ c := fun p hq => by
          rw [List.mem_append, List.mem_singleton] at hq
          rcases hq with hq | rfl
          · exact hp p hq
          · exact hx
        generalize hz : (∀ p ∈ pre ++ [x], p.1.1 ≠ c) = Z at hp' ⊢
        simp [hx]
        exact hp'
    · rintro σ T ⟨hσ, rfl, hp⟩
      exfalso
      obtain ⟨q, hq, rfl⟩ := List.mem_map.mp h
      obtain ⟨i, hi⟩ := List.getElem?_of_mem hq
      have : (q, i) ∈ f.ls.zipIdx := List.mem_of_getElem? (i := i) (by rw [List.getElem?_zipIdx, hi]; simp)
      exact hp _ this rfl
  obtain ⟨d, T, e, ⟨i, rfl⟩, rfl⟩ := key.out
  exact ⟨i, e⟩
theorem need_letter_eq {f : Face} {c : Nat} (h : c ∈ f.lets) (S : Sto) : ∃ i : Nat, F_need_letter [.py f.py, .py (lt c)] S = .ok (.py (.int i)) S := by
  obtain ⟨i, hi⟩ := place_of_eq h S
  refine ⟨i, ?_⟩
  unfold F_need_letter b_need_letter
  refine fn_eq (wp_fn ?_)
  simp [init, hi]
  exact ⟨.self, rfl⟩
theorem gap_of_eq {f : Face} {l r : Nat} (hl : l ∈ f.lets) (hr : r ∈ f.lets) (P : List Pair) (S : Sto) : F_gap_of [.py f.py, .py (encP P), .py (lt l), .py (lt r)] S = .ok (.py (.int (gapIn P l r))) S := by
  obtain ⟨i, hi⟩ := need_letter_eq hl S
  obtain ⟨j, hj⟩ := need_letter_eq hr S
  unfold F_gap_of b_gap_of
  refine fn_eq (wp_fn ?_)
  simp [init, hi, hj, gap_in_eq]
  exact ⟨.self, rfl⟩
abbrev encU (R : List (List Int)) : PyData := .tuple (R.map tupI)
@[simp] theorem seqD_encU (R : List (List Int)) : seqD (.py (encU R)) = some (R.map tupI) := id rfl
@[simp] theorem walk_encU (R : List (List Int)) (S : Sto) : pyWalk S (.py (encU R)) = some (R.map tupI) := id rfl
@[simp] theorem seqD_tupI (r : List Int) : seqD (.py (tupI r)) = some (r.map .int) := id rfl
@[simp] theorem walk_tupI (r : List Int) (S : Sto) : pyWalk S (.py (tupI r)) = some (r.map .int) := id rfl
end DV

set_option maxHeartbeats 4000000
namespace DV
open PySem
/-! Partings. -/
/-! ### the place of a letter -/
def plcD : Option Nat → PyData
  | some i => .int i
  | none => .none
theorem place_gen {f : Face} {t : PyData} {p : Nat → Bool} (h : ∀ q ∈ f.ls, ∀ S, eqD (.py (lt q.1)) (.py t) S = .ok (.py (.bool (p q.1))) S) (S : Sto) : F_place_of [.py f.py, .py t] S = .ok (.py (plcD (f.lets.findIdx? p))) S := by
  unfold F_place_of b_place_of
  refine fn_eq (wp_fn ?_)
  simp [init]
  refine wp_forM _ (fun (pre : List ((Nat × Int) × Nat)) σ T => wipeD σ [2, 3] = _ ∧ T = S ∧ ∀ q ∈ pre, p q.1.1 = false) ⟨rfl, rfl, by simp⟩ ?_ ?_
  · rintro pre x post σ T e ⟨hσ, rfl, hp⟩
    obtain ⟨_, _, rfl⟩ := slot2 hσ
    clear hσ
    obtain ⟨e1, e2⟩ := zipIdx_split e
    have hx1 : x.1 ∈ f.ls := by rw [e1]; simp
    have hq := h x.1 hx1
    cases hx : p x.1.1 with
    | true =>
      simp [hq, hx]
      refine ⟨T, .self, rfl, ?_, rfl⟩
      have hfi : f.lets.findIdx? p = some pre.length := by
        unfold Face.lets
        rw [e1, List.map_append, List.findIdx?_append, List.findIdx?_eq_none_iff.mpr]
        · simp [List.findIdx?_cons, hx]
        · intro c hc
          obtain ⟨y, hy, rfl⟩ := List.mem_map.mp hc
          obtain ⟨z, hz, rfl⟩ := List.mem_map.mp hy
          exact hp z hz
      rw [hfi, e2]
      rfl
    | false =>
      have hp' : ∀ q ∈ pre ++ [x], p q.1.1 = false := fun q hq => by
        rw [List.mem_append, List.mem_singleton] at hq
        rcases hq with hq | rfl
        · exact hp q hq
        · exact hx
      generalize hz : (∀ q ∈ pre ++ [x], p q.1.1 = false) = Z at hp' ⊢
      simp [hq, hx]
      exact hp'
  · rintro σ T ⟨hσ, rfl, hp⟩
    obtain ⟨_, _, rfl⟩ := slot2 hσ
    clear hσ
    simp
    refine ⟨T, .self, rfl, ?_, rfl⟩
    have hfi : f.lets.findIdx? p = none := by
      rw [List.findIdx?_eq_none_iff]
      intro c hc
      obtain ⟨q, hq, rfl⟩ := List.mem_map.mp hc
      obtain ⟨i, hi⟩ := List.getElem?_of_mem hq
      exact hp (q, i) (List.mem_of_getElem? (i := i) (by rw [List.getElem?_zipIdx, hi]; simp))
    rw [hfi]
    rfl
theorem place_lt {f : Face} (c : Nat) (S : Sto) : F_place_of [.py f.py, .py (lt c)] S = .ok (.py (plcD (f.lets.findIdx? fun x => decide (x = c)))) S :=
  place_gen (fun q _ S => by simp) S
abbrev plc (L : List Nat) (c : Nat) : Nat := L.idxOf c
theorem find_idxOf {L : List Nat} {c : Nat} (h : c ∈ L) : L.findIdx? (fun x => decide (x = c)) = some (plc L c) := by
  have : (fun x => decide (x = c)) = fun x => x == c := by
    funext x
    by_cases h : x = c <;> simp [h]
  rw [this]
  have h2 := List.idxOf_lt_length_of_mem h
  rw [List.findIdx?_eq_some_iff_findIdx_eq]
  exact ⟨h2, rfl⟩
theorem place_mem {f : Face} {c : Nat} (h : c ∈ f.lets) (S : Sto) : F_place_of [.py f.py, .py (lt c)] S = .ok (.py (.int (plc f.lets c : Nat))) S := by
  rw [place_lt, find_idxOf h]
  rfl
/-! ### partings -/
def hd0 (g : List Nat) : Nat := g.headD 0
structure IsPart (L : List Nat) (G : List (List Nat)) : Prop where
  ne : ∀ g ∈ G, g ≠ []
  srt : ∀ g ∈ G, (g.map (plc L)).Pairwise (· < ·)
  mem : ∀ g ∈ G, ∀ c ∈ g, c ∈ L
  heads : (G.map fun g => plc L (hd0 g)).Pairwise (· < ·)
  perm : G.flatten.Perm L
theorem plc_at {L : List Nat} (nd : L.Nodup) {i c : Nat} (h : L[i]? = some c) : plc L c = i := by
  obtain ⟨hi, rfl⟩ := List.getElem?_eq_some_iff.mp h
  exact List.Nodup.idxOf_getElem nd i hi
theorem plc_map {L : List Nat} (nd : L.Nodup) : L.map (plc L) = List.range L.length := by
  refine List.ext_getElem (by simp) fun i h1 h2 => ?_
  simp only [List.getElem_map, List.getElem_range]
  exact plc_at nd (List.getElem?_eq_getElem (by simpa using h1))
theorem plc_lt {L : List Nat} {c : Nat} (h : c ∈ L) : plc L c < L.length := List.idxOf_lt_length_of_mem h
theorem sub_srt {L g : List Nat} (nd : L.Nodup) (h : g.Sublist L) : (g.map (plc L)).Pairwise (· < ·) := by
  have h1 : (g.map (plc L)).Sublist (L.map (plc L)) := h.map _
  rw [plc_map nd] at h1
  exact List.Pairwise.sublist h1 List.pairwise_lt_range
/-! ### groups are partings -/
theorem firsts_nodup (M : List (List Int)) : (firsts M).Nodup := by
  have key : ∀ (M acc : List (List Int)), acc.Nodup → (M.foldl (fun acc m => if m ∈ acc then acc else acc ++ [m]) acc).Nodup := by
    intro M
    induction M with
    | nil => exact fun _ h => h
    | cons x M ih =>
      intro acc h
      rw [List.foldl_cons]
      refine ih _ ?_
      split
      · exact h
      · rename_i hx
        rw [List.nodup_append]
        refine ⟨h, by simp, fun a ha b hb => ?_⟩
        rw [List.mem_singleton] at hb
        subst hb
        exact fun e => hx (e ▸ ha)
  exact key M [] List.nodup_nil
end DV

set_option maxHeartbeats 4000000
namespace DV
open PySem
/-! Texts, and how wide they are. -/
abbrev tx (l : List Nat) : PyData := .str ⟨l.toArray⟩
theorem sl_big' : sizeLine = 16777216 := rfl
@[simp ↓] theorem wp_txt (e : Ex) {σ : En} {S : Sto} {P : List D → Sto → Prop} {E : Str → Sto → Prop} : (txtI e σ S).wp P E = (e σ S).wp (fun d S1 => ∃ x, d = .py (.str x) ∧ x.length ≤ 16777216 ∧ P (x.cps.toList.map fun c => D.py (.str ⟨#[c]⟩)) S1) E := by
  unfold txtI
  rw [wp_bind]
  congr 1
  funext d S1
  split
  · rw [wp_iteR]
    split
    · rename_i h
      exact propext ⟨fun p => ⟨_, rfl, h, p⟩, fun ⟨j, e, _, p⟩ => by cases e; exact p⟩
    · rename_i h
      exact propext ⟨fun p => p.elim, fun ⟨j, e, h', p⟩ => by cases e; exact h h'⟩
  · rename_i hn
    exact propext ⟨fun h => h.elim, fun ⟨k, e, _, h⟩ => (hn k e).elim⟩
theorem pw_tx {l : List Nat} (h : l.length ≤ 16777216) (S : Sto) : pyWalk S (.py (tx l)) = some (l.map lt) := by
  simp only [pyWalk]
  rw [if_pos (by simpa [Str.length] using h)]
theorem item_tx {l : List Nat} (hl : l.length ≤ 16777216) (k : Nat) {c : Nat} (h : l[k]? = some c) (S : Sto) : itemD (.py (tx l)) (.py (.int (k : Int))) S = .ok (.py (lt c)) S := by
  simp only [itemD]
  rw [if_pos (by simpa [Str.length, sl_big'] using hl)]
  rw [atI_nat k c h]
theorem item_tx_last {l : List Nat} {c : Nat} (hl : (l ++ [c]).length ≤ 16777216) (S : Sto) : itemD (.py (tx (l ++ [c]))) (.py (.int (-1))) S = .ok (.py (lt c)) S := by
  simp only [itemD]
  rw [if_pos (by simpa [Str.length, sl_big'] using hl)]
  simp only [List.toList_toArray, L2.atI_last]
/-! ### signs -/
def Face.has (f : Face) (c : Nat) : Prop := c = 32 ∨ c ∈ f.lets
def sw (f : Face) (c : Nat) : Int := if c = 32 then f.w else ((f.ls.find? fun p => decide (p.1 = c)).map (·.2)).getD 0
def bt (P : List Pair) (a b : Nat) : Int := if a = 32 ∨ b = 32 then 0 else gapIn P a b
theorem blank_str : Str.ofString " " = ⟨#[32]⟩ := by decide +kernel
@[simp] theorem str_blank (c : Nat) : ((⟨#[c]⟩ : Str) = Str.ofString " ") = (c = 32) := by
  rw [blank_str]
  simp
theorem is_sign_eq {f : Face} {c : Nat} (h : f.has c) (S : Sto) : F_is_sign [.py f.py, .py (lt c)] S = .ok (.py (.bool true)) S := by
  unfold F_is_sign b_is_sign
  refine fn_eq (wp_fn ?_)
  by_cases hc : c = 32
  · simp [init, hc]
    exact ⟨.self, rfl⟩
  · obtain ⟨i, hi⟩ := place_of_eq (h.resolve_left hc) S
    simp [init, hc, hi]
    exact ⟨.self, rfl⟩
theorem is_text_eq {f : Face} {l : List Nat} (h : ∀ c ∈ l, f.has c) (hl : l.length ≤ 10000) (S : Sto) : F_is_text [.py f.py, .py (tx l)] S = .ok (.py (.bool true)) S := by
  unfold F_is_text b_is_text
  refine fn_eq (wp_fn ?_)
  simp [init, isB]
  refine ⟨by simp [Str.length]; omega, ?_⟩
  refine wp_pureM1 (D.py ∘ lt) (fun _ => D.py (.bool true)) (fun c hc => wp_eq (by simp [is_sign_eq (h c hc)])) ?_
  have e2 : (l.map fun _ => D.py (.bool true)) = ((l.map fun _ => true).map PyData.bool).map D.py := by simp
  have ag : ((l.map fun _ => true).all id) = true := by simp
  rw [e2, pysOf_map]
  simp only [allD_bools, wp_ok, ag]
  exact ⟨S, .self, rfl, trivial, rfl⟩
theorem find_w {f : Face} {c : Nat} (nd : f.lets.Nodup) {i : Nat} {p : Nat × Int} (h : f.ls[i]? = some p) (hc : p.1 = c) (n32 : c ≠ 32) : sw f c = p.2 := by
  unfold sw
  rw [if_neg n32]
  have : f.ls.find? (fun p => decide (p.1 = c)) = some p := by
    rw [List.find?_eq_some_iff_getElem]
    obtain ⟨hi, e⟩ := List.getElem?_eq_some_iff.mp h
    refine ⟨by simpa using hc, i, hi, e, fun j hj => ?_⟩
    simp only [Bool.not_eq_true', decide_eq_false_iff_not]
    intro e2
    have h1 : f.lets[j]? = some c := by
      unfold Face.lets
      rw [List.getElem?_map, List.getElem?_eq_getElem (by omega)]
      simp [e2]
    have h2 : f.lets[i]? = some c := by
      unfold Face.lets
      rw [List.getElem?_map, h]
      simp [hc]
    have := nodup_get nd h1 h2
    omega
  rw [this]
  rfl
theorem sign_width_eq {f : Face} {c : Nat} (nd : f.lets.Nodup) (h : f.has c) (b : ∀ c ∈ f.lets, 97 ≤ c) (S : Sto) : F_sign_width [.py f.py, .py (lt c)] S = .ok (.py (.int (sw f c))) S := by
  unfold F_sign_width b_sign_width
  refine fn_eq (wp_fn ?_)
  by_cases hc : c = 32
  · simp [init, hc, sw]
    exact ⟨.self, rfl⟩
  · have hm := h.resolve_left hc
    have hp := place_mem hm
    have hl := plc_lt hm
    have hl' : plc f.lets c < f.ls.length := by simpa using hl
    have e : (f.ls[plc f.lets c]).1 = c := by
      have : f.lets[plc f.lets c]? = some c := by rw [List.getElem?_eq_getElem hl]; exact congrArg some (List.getElem_idxOf hl)
      have h2 : (f.ls.map (·.1))[plc f.lets c]? = some c := this
      rw [List.getElem?_map, List.getElem?_eq_getElem hl'] at h2
      exact Option.some.inj h2
    have w := find_w nd (List.getElem?_eq_getElem hl') e hc
    have i1 : ∀ T, itemD (.py (.tuple (f.ls.map encL))) (.py (.int (plc f.lets c : Nat))) T = .ok (.py (encL f.ls[plc f.lets c])) T := fun T => itemD_tuple _ (by rw [List.getElem?_map, List.getElem?_eq_getElem hl']; rfl)
    simp [init, hc, hp, i1, w]
    exact ⟨.self, rfl⟩
theorem between_eq (P : List Pair) (a b : Nat) (S : Sto) : F_between [.py (encP P), .py (lt a), .py (lt b)] S = .ok (.py (.int (bt P a b))) S := by
  unfold F_between b_between
  refine fn_eq (wp_fn ?_)
  unfold bt
  by_cases ha : a = 32
  · simp [init, ha]
    exact ⟨.self, rfl⟩
  · by_cases hb : b = 32
    · simp [init, ha, hb]
      exact ⟨.self, rfl⟩
    · simp [init, ha, hb, gap_in_eq]
      exact ⟨.self, rfl⟩
/-- where the sign number k begins -/
def bg (f : Face) (P : List Pair) (l : List Nat) : Nat → Int
  | 0 => 0
  | k + 1 => bg f P l k + sw f (l.getD k 0) + bt P (l.getD k 0) (l.getD (k + 1) 0)
def begs (f : Face) (P : List Pair) (l : List Nat) : List Int := (List.range l.length).map (bg f P l)
theorem begins_in_eq {f : Face} {P : List Pair} {l : List Nat} (nd : f.lets.Nodup) (h : ∀ c ∈ l, f.has c) (b : ∀ c ∈ f.lets, 97 ≤ c) (hl : l.length ≤ 10000) (S : Sto) : F_begins_in [.py f.py, .py (encP P), .py (tx l)] S = .ok (.py (tupI (begs f P l))) S := by
  unfold F_begins_in b_begins_in
  refine fn_eq (wp_fn ?_)
  simp [init, pw_tx (l := l) (by omega)]
  rw [stL_nil]
  refine wp_forM _ (fun (pre : List (Nat × Nat)) σ T => wipeD σ [4, 5, 6] = _ ∧ σ[4]? = some (some (.py (.int (bg f P l (pre.length - 1))))) ∧ T = stL S (((List.range pre.length).map (bg f P l)).map .int)) ⟨rfl, rfl, rfl⟩ ?_ ?_
  · rintro pre x post σ T e ⟨hσ, h4, rfl⟩
    obtain ⟨_, _, _, rfl⟩ := slot3 hσ
    clear hσ
    obtain ⟨e1, e2⟩ := zipIdx_split e
    obtain ⟨c, i⟩ := x
    simp only at e1 e2
    subst e2
    have ll : pre.length < l.length := by
      have := congrArg List.length e1
      simp at this
      omega
    have ec : l[pre.length]? = some c := by rw [e1]; simp
    simp at h4
    subst h4
    have ap := stL_app (S := S) (ds := ((List.range pre.length).map (bg f P l)).map .int) (d := .int (bg f P l pre.length)) (by rw [List.length_map, List.length_map, List.length_range, sl_big']; omega)
    have es : ((List.range pre.length).map (bg f P l)).map PyData.int ++ [.int (bg f P l pre.length)] = ((List.range (pre ++ [(c, pre.length)]).length).map (bg f P l)).map .int := by
      rw [List.length_append, List.length_singleton, List.range_succ]
      simp
    rw [es] at ap
    by_cases h0 : pre.length = 0
    · simp [h0]
      simp [h0] at ap
      rw [ap]
      simp [bg]
    · obtain ⟨k, hk⟩ : ∃ k, pre.length = k + 1 := ⟨pre.length - 1, by omega⟩
      have hk1 : k < l.length := by omega
      have ek : l[k]? = some l[k] := List.getElem?_eq_getElem hk1
      have it := item_tx (l := l) (by omega) k ek
      have s1 := sign_width_eq nd (h _ (List.getElem_mem hk1)) b
      have b1 := between_eq P l[k] c
      have pos : (0 : Int) < ((k : Int) + 1) := by omega
      have ev : bg f P l (k + 1) = bg f P l k + sw f l[k] + bt P l[k] c := by
        rw [bg]
        have g1 : l.getD k 0 = l[k] := by simp [hk1]
        have g2 : l.getD (k + 1) 0 = c := by rw [List.getD_eq_getElem?_getD, ← hk, ec]; rfl
        rw [g1, g2]
      rw [hk] at ap ⊢
      simp [pos, it, s1, b1, ← ev]
      simp at ap
      refine wp_of ap ?_
      simp [hk]
  · rintro σ T ⟨hσ, h4, rfl⟩
    obtain ⟨_, _, _, rfl⟩ := slot3 hσ
    simp
    refine ⟨S, .stL, rfl, ?_, rfl⟩
    simp [begs]
theorem begs_last (f : Face) (P : List Pair) (l : List Nat) (c : Nat) : begs f P (l ++ [c]) = (List.range l.length).map (bg f P (l ++ [c])) ++ [bg f P (l ++ [c]) l.length] := by
  unfold begs
  rw [List.length_append, List.length_singleton, List.range_succ, List.map_append]
  rfl
def wd (f : Face) (P : List Pair) (l : List Nat) : Int := (l.map (sw f)).sum + ((l.zip (l.drop 1)).map fun p => bt P p.1 p.2).sum
theorem bg_sum (f : Face) (P : List Pair) (l : List Nat) : ∀ k, k < l.length → bg f P l k = ((l.take k).map (sw f)).sum + (((l.zip (l.drop 1)).take k).map fun p => bt P p.1 p.2).sum
  | 0, _ => by simp [bg]
  | k + 1, h => by
    have hk : k < l.length := by omega
    have hz : k < (l.zip (l.drop 1)).length := by
      rw [List.length_zip, List.length_drop]
      omega
    have g1 : l.getD k 0 = l[k] := by simp [hk]
    have g2 : l.getD (k + 1) 0 = l[k + 1] := by simp [h]
    have ez : (l.zip (l.drop 1))[k] = (l[k], l[k + 1]) := by
      rw [List.getElem_zip, List.getElem_drop]
      congr 2
      omega
    rw [bg, bg_sum f P l k hk, List.take_succ_eq_append_getElem hk, List.take_succ_eq_append_getElem hz, List.map_append, List.map_append, List.sum_append, List.sum_append, ez, g1, g2]
    simp
    omega
theorem wd_last (f : Face) (P : List Pair) (l : List Nat) (c : Nat) : bg f P (l ++ [c]) l.length + sw f c = wd f P (l ++ [c]) := by
  rw [bg_sum f P (l ++ [c]) l.length (by simp)]
  have e1 : (l ++ [c]).take l.length = l := List.take_left
  have hz : ((l ++ [c]).zip ((l ++ [c]).drop 1)).length = l.length := by
    rw [List.length_zip, List.length_drop, List.length_append, List.length_singleton]
    omega
  have e2 : ((l ++ [c]).zip ((l ++ [c]).drop 1)).take l.length = (l ++ [c]).zip ((l ++ [c]).drop 1) := List.take_of_length_le (by omega)
  rw [e1, e2]
  unfold wd
  rw [List.map_append, List.sum_append]
  simp
  omega
theorem wide_in_eq {f : Face} {P : List Pair} {l : List Nat} (nd : f.lets.Nodup) (h : ∀ c ∈ l, f.has c) (b : ∀ c ∈ f.lets, 97 ≤ c) (hl : l.length ≤ 10000) (S : Sto) : F_wide_in [.py f.py, .py (encP P), .py (tx l)] S = .ok (.py (.int (wd f P l))) S := by
  have bi := begins_in_eq (P := P) nd h b hl
  unfold F_wide_in b_wide_in
  refine fn_eq (wp_fn ?_)
  have em : ((⟨l.toArray⟩ : Str) = Str.ofString "") = (l = []) := by
    have : Str.ofString "" = ⟨#[]⟩ := by decide +kernel
    rw [this]
    simp
  by_cases h0 : l = []
  · subst h0
    simp [init, em, wd]
    exact ⟨.self, rfl⟩
  · have e : l = l.dropLast ++ [l.getLast h0] := (List.dropLast_concat_getLast h0).symm
    have hc : f.has (l.getLast h0) := h _ (List.getLast_mem h0)
    generalize l.getLast h0 = c at *
    generalize l.dropLast = m at *
    subst e
    have it := item_tx_last (l := m) (c := c) (by omega)
    have i2 : ∀ T, itemD (.py (tupI (begs f P (m ++ [c])))) (.py (.int (-1))) T = .ok (.py (.int (bg f P (m ++ [c]) m.length))) T := fun T => by
      have e : (((begs f P (m ++ [c])).map PyData.int).map D.py) = ((((List.range m.length).map (bg f P (m ++ [c]))).map PyData.int).map D.py) ++ [D.py (.int (bg f P (m ++ [c]) m.length))] := by rw [begs_last]; simp
      simp only [itemD, seqOf, e, L2.atI_last]
    have sg := sign_width_eq nd hc b
    have wl := wd_last f P m c
    simp [init, em, bi, i2, it, sg, wl]
    trace_state
    exact ⟨.self, rfl⟩
end DV

set_option maxHeartbeats 4000000
namespace DV
open PySem
/-! Partings are known; classes. -/
structure Sm (r : List Int) : Prop where
  bnd : ∀ x ∈ r, -999999999 ≤ x ∧ x ≤ 999999999
  len : r.length ≤ 2000
theorem neD_of {d e : PyData} {k : Bool} {S : Sto} (h : eqD (.py d) (.py e) S = .ok (.py (.bool k)) S) : neD (.py d) (.py e) S = .ok (.py (.bool (!k))) S := by
  unfold eqD at h
  unfold neD
  cases hb : eqB d e with
  | none => simp only [hb] at h; cases h
  | some b => simp only [hb] at h; cases h; simp only [hb]
theorem eqD_deep {d e : PyData} (hf : flatD d e = none) (h1 : SeqAt.shaped d = true) (h2 : SeqAt.shaped e = true) (S : Sto) : eqD (.py d) (.py e) S = .ok (.py (.bool (PyData.eqv d e))) S := by
  simp only [eqD, eqB, hf]
  rw [if_pos ⟨h1, h2⟩]
theorem fit_lts {g : List Nat} (h : ∀ c ∈ g, c ≤ 122) (hl : g.length ≤ 200) : Fit (.tuple (g.map lt)) 1 400 := (Fit.tupleN (k := 0) (w := 1) (m := 200) (fun d hd => by
    obtain ⟨c, hc, rfl⟩ := List.mem_map.mp hd
    have := h c hc
    exact Fit.lt (by omega)) (by simpa using hl)).mono (by decide) (by decide)
@[simp] theorem wp_sumL (f : Ex) {σ : En} {S : Sto} {P : List D → Sto → Prop} {E : Str → Sto → Prop} : (sumL f σ S).wp P E = (f σ S).wp (fun d S1 => ∃ ds Ls, d = .py (.list ds) ∧ listsOf ds = some Ls ∧ Ls.flatten.length ≤ sizeLine ∧ P (Ls.flatten.map .py) S1) E := by
  unfold sumL
  rw [wp_bind]
  congr 1
  funext d S1
  rcases d with d | n | n
  · cases d
    case list ds =>
      cases h : listsOf ds with
      | none =>
        simp only [h]
        exact propext ⟨fun h => h.elim, fun ⟨_, _, e, h2, _⟩ => by cases e; rw [h] at h2; cases h2⟩
      | some Ls =>
        simp only [h]
        rw [wp_iteR]
        split
        · rename_i hz
          exact propext ⟨fun p => ⟨_, _, rfl, h, hz, p⟩, fun ⟨_, _, e, h2, _, p⟩ => by cases e; rw [h] at h2; cases h2; exact p⟩
        · rename_i hz
          exact propext ⟨fun p => p.elim, fun ⟨_, _, e, h2, z, p⟩ => by cases e; rw [h] at h2; cases h2; exact hz z⟩
    all_goals exact propext ⟨fun h => h.elim, fun ⟨_, _, e, _⟩ => by cases e⟩
  · exact propext ⟨fun h => h.elim, fun ⟨_, _, e, _⟩ => by cases e⟩
  · exact propext ⟨fun h => h.elim, fun ⟨_, _, e, _⟩ => by cases e⟩
/-- places as whole numbers -/
def plI (L : List Nat) (g : List Nat) : List Int := g.map fun c => (plc L c : Int)
@[simp] theorem plI_len (L g : List Nat) : (plI L g).length = g.length := by simp [plI]
theorem IsPart.len {L : List Nat} {G : List (List Nat)} (h : IsPart L G) : (G.map List.length).sum = L.length := by
  rw [← h.perm.length_eq, List.length_flatten]
end DV

set_option maxHeartbeats 4000000
namespace DV
open PySem
/-! Tables: what they tell. -/
inductive Ky where
  | l (c : Nat)
  | n (i : Nat)
  deriving DecidableEq
def encK : Ky → PyData
  | .l c => lt c
  | .n i => .int i
abbrev Exc := Ky × Ky × Int
abbrev encE (e : Exc) : PyData := .tuple [encK e.1, encK e.2.1, .int e.2.2]
theorem eq_key (a b : Ky) (S : Sto) : eqD (.py (encK a)) (.py (encK b)) S = .ok (.py (.bool (decide (a = b)))) S := by
  cases a <;> cases b <;> simp [encK, eqD, eqB, flatD, Int.ofNat_inj]
@[simp] theorem eq_kk (a b : Ky) (S : Sto) : eqD (.py (encK a)) (.py (encK b)) S = .ok (.py (.bool (decide (a = b)))) S := eq_key a b S
structure Tab where
  lefts : List (List Nat)
  rights : List (List Nat)
  gaps : List (List Int)
  exc : List Exc
abbrev Tab.py (t : Tab) : PyData := .tuple [encG t.lefts, encG t.rights, encU t.gaps, .tuple (t.exc.map encE)]
def clsIn (G : List (List Nat)) (c : Nat) : Nat := G.findIdx fun g => decide (c ∈ g)
theorem IsPart.has {L : List Nat} {G : List (List Nat)} (h : IsPart L G) {c : Nat} (hc : c ∈ L) : ∃ g ∈ G, c ∈ g := List.mem_flatten.mp (h.perm.mem_iff.mpr hc)
/-! ### what is told -/
def hit (es : List Exc) (a b : Ky) : Option Int := (es.find? fun e => decide (e.1 = a ∧ e.2.1 = b)).map (·.2.2)
structure TabOk (L : List Nat) (t : Tab) : Prop where
  lp : IsPart L t.lefts
  rp : IsPart L t.rights
  gl : t.gaps.length = t.lefts.length
  gr : ∀ r ∈ t.gaps, r.length = t.rights.length
  gb : ∀ r ∈ t.gaps, ∀ x ∈ r, -9 ≤ x ∧ x ≤ 9
/-! ### the law's own look -/
def kyB (k : Ky) : Prop := match k with
  | .l c => c ≤ 122
  | .n i => i ≤ 1000
structure ExOk (es : List Exc) : Prop where
  len : es.length ≤ 2000
  key : ∀ e ∈ es, kyB e.1 ∧ kyB e.2.1
  gap : ∀ e ∈ es, -9 ≤ e.2.2 ∧ e.2.2 ≤ 9
def Ky.isL : Ky → Bool
  | .l _ => true
  | .n _ => false
@[simp] theorem isL_l (c : Nat) : (Ky.l c).isL = true := id rfl
@[simp] theorem isL_n (c : Nat) : (Ky.n c).isL = false := id rfl
end DV

set_option maxHeartbeats 4000000
namespace DV
open PySem
/-! Tables drawn from the box; tables known. -/
/-! ### exceptions drawn -/
abbrev kk (e : Exc) : Ky × Ky := (e.1, e.2.1)
def cross (A B : List Ky) : List (Ky × Ky) := A.flatMap fun a => B.map fun b => (a, b)
def gapB (x : Int) : Prop := -9 ≤ x ∧ x ≤ 9
end DV

set_option maxHeartbeats 4000000
namespace DV
open PySem
/-! Exceptions in order; tables known. -/
def keyI (L : List Nat) : Ky × Ky → List Int
  | (.l a, .l b) => [0, plc L a, plc L b]
  | (.l a, .n j) => [1, plc L a, j]
  | (.n i, .l b) => [2, i, plc L b]
  | (.n i, .n j) => [3, i, j]
def allK (L : List Nat) (nl nr : Nat) : List (Ky × Ky) := cross (L.map .l) (L.map .l) ++ (cross (L.map .l) ((List.range nr).map .n) ++ cross ((List.range nl).map .n) (L.map .l))
theorem lex3 (k x y k' x' y' : Int) : HT.lexLt [k, x, y] [k', x', y'] = true ↔ k < k' ∨ (k = k' ∧ (x < x' ∨ (x = x' ∧ y < y'))) := by
  rw [HT.lexLt_cons]
  split
  · rename_i h
    rw [HT.lexLt_cons]
    split
    · rename_i h2
      rw [HT.lexLt_cons]
      split
      · rename_i h3
        simp [HT.lexLt_nil_nil]
        omega
      · simp
        omega
    · simp
      omega
  · simp
    omega
theorem cross_pw {α β : Type} {A : List α} {B : List β} (fa : α → Ky) (fb : β → Ky) (L : List Nat) (k : Int) (ga : α → Int) (gb : β → Int) (hA : A.Pairwise fun a b => ga a < ga b) (hB : B.Pairwise fun a b => gb a < gb b)
    (h : ∀ a b, keyI L (fa a, fb b) = [k, ga a, gb b]) : ((cross (A.map fa) (B.map fb)).map (keyI L)).Pairwise fun a b => HT.lexLt a b = true := by
  unfold cross
  rw [List.pairwise_map, List.flatMap_map, List.pairwise_flatMap]
  refine ⟨fun a ha => ?_, hA.imp fun {a a'} haa x hx y hy => ?_⟩
  · rw [List.map_map, List.pairwise_map]
    refine hB.imp fun {b b'} hbb => ?_
    simp only [Function.comp_def, h]
    rw [lex3]
    omega
  · rw [List.map_map] at hx hy
    obtain ⟨b, hb, rfl⟩ := List.mem_map.mp hx
    obtain ⟨b', hb', rfl⟩ := List.mem_map.mp hy
    simp only [Function.comp_def, h]
    rw [lex3]
    omega
theorem mem_cross {A B : List Ky} {p : Ky × Ky} (h : p ∈ cross A B) : p.1 ∈ A ∧ p.2 ∈ B := by
  unfold cross at h
  obtain ⟨a, ha, h⟩ := List.mem_flatMap.mp h
  obtain ⟨b, hb, rfl⟩ := List.mem_map.mp h
  exact ⟨ha, hb⟩
theorem plc_pw {L : List Nat} (nd : L.Nodup) : L.Pairwise fun a b => (plc L a : Int) < plc L b := by
  have := sub_srt nd (List.Sublist.refl L)
  rw [List.pairwise_map] at this
  exact this.imp fun h => by omega
theorem range_pw (n : Nat) : (List.range n).Pairwise fun (a b : Nat) => (a : Int) < (b : Int) := List.pairwise_lt_range.imp fun h => by omega
theorem allK_pw {L : List Nat} (nd : L.Nodup) (nl nr : Nat) : ((allK L nl nr).map (keyI L)).Pairwise fun a b => HT.lexLt a b = true := by
  unfold allK
  rw [List.map_append, List.map_append, List.pairwise_append, List.pairwise_append]
  have key : ∀ {A B : List Ky} {k : Int}, (∀ a ∈ A, ∀ b ∈ B, ∃ x y, keyI L (a, b) = [k, x, y]) → ∀ z ∈ (cross A B).map (keyI L), ∃ x y, z = [k, x, y] := fun hh z hz => by
    obtain ⟨p, hp, rfl⟩ := List.mem_map.mp hz
    have := mem_cross hp
    exact hh _ this.1 _ this.2
  have k0 := key (A := L.map .l) (B := L.map .l) (k := 0) fun a ha b hb => by
    obtain ⟨a, _, rfl⟩ := List.mem_map.mp ha
    obtain ⟨b, _, rfl⟩ := List.mem_map.mp hb
    exact ⟨_, _, rfl⟩
  have k1 := key (A := L.map .l) (B := (List.range nr).map .n) (k := 1) fun a ha b hb => by
    obtain ⟨a, _, rfl⟩ := List.mem_map.mp ha
    obtain ⟨b, _, rfl⟩ := List.mem_map.mp hb
    exact ⟨_, _, rfl⟩
  have k2 := key (A := (List.range nl).map .n) (B := L.map .l) (k := 2) fun a ha b hb => by
    obtain ⟨a, _, rfl⟩ := List.mem_map.mp ha
    obtain ⟨b, _, rfl⟩ := List.mem_map.mp hb
    exact ⟨_, _, rfl⟩
  refine ⟨cross_pw Ky.l Ky.l L 0 (fun a => plc L a) (fun a => plc L a) (plc_pw nd) (plc_pw nd) fun _ _ => rfl, ⟨cross_pw Ky.l Ky.n L 1 (fun a => plc L a) (fun j => j) (plc_pw nd) (range_pw nr) fun _ _ => rfl, cross_pw Ky.n Ky.l L 2 (fun j => j) (fun a => plc L a) (range_pw nl) (plc_pw nd) fun _ _ => rfl, fun x hx y hy => ?_⟩, fun x hx y hy => ?_⟩
  · obtain ⟨a, b, rfl⟩ := k1 x hx
    obtain ⟨c, d, rfl⟩ := k2 y hy
    rw [lex3]
    omega
  · obtain ⟨a, b, rfl⟩ := k0 x hx
    rcases List.mem_append.mp hy with hy | hy
    · obtain ⟨c, d, rfl⟩ := k1 y hy
      rw [lex3]
      omega
    · obtain ⟨c, d, rfl⟩ := k2 y hy
      rw [lex3]
      omega
/-- exceptions that stand in order -/
structure ExIn (L : List Nat) (nl nr : Nat) (es : List Exc) : Prop where
  sub : (es.map kk).Sublist (allK L nl nr)
  gap : ∀ e ∈ es, gapB e.2.2
theorem ExIn.srt {L : List Nat} {nl nr : Nat} {es : List Exc} (h : ExIn L nl nr es) (nd : L.Nodup) : ((es.map kk).map (keyI L)).Pairwise fun a b => HT.lexLt a b = true :=
  List.Pairwise.sublist (h.sub.map _) (allK_pw nd nl nr)
theorem ExIn.cut {L : List Nat} {nl nr : Nat} {es fs : List Exc} (h : ExIn L nl nr es) (hs : fs.Sublist es) : ExIn L nl nr fs := ⟨(hs.map _).trans h.sub, fun e he => h.gap e (hs.subset he)⟩
inductive KyIn (L : List Nat) (nl nr : Nat) : Ky × Ky → Prop
  | ll {a b : Nat} : a ∈ L → b ∈ L → KyIn L nl nr (.l a, .l b)
  | ln {a j : Nat} : a ∈ L → j < nr → KyIn L nl nr (.l a, .n j)
  | nl {i b : Nat} : i < nl → b ∈ L → KyIn L nl nr (.n i, .l b)
theorem allK_in {L : List Nat} {nl nr : Nat} {p : Ky × Ky} (h : p ∈ allK L nl nr) : KyIn L nl nr p := by
  unfold allK at h
  obtain ⟨a, b⟩ := p
  rcases List.mem_append.mp h with h | h
  · obtain ⟨h1, h2⟩ := mem_cross h
    obtain ⟨a, ha, rfl⟩ := List.mem_map.mp h1
    obtain ⟨b, hb, rfl⟩ := List.mem_map.mp h2
    exact .ll ha hb
  rcases List.mem_append.mp h with h | h
  · obtain ⟨h1, h2⟩ := mem_cross h
    obtain ⟨a, ha, rfl⟩ := List.mem_map.mp h1
    obtain ⟨b, hb, rfl⟩ := List.mem_map.mp h2
    exact .ln ha (List.mem_range.mp hb)
  · obtain ⟨h1, h2⟩ := mem_cross h
    obtain ⟨a, ha, rfl⟩ := List.mem_map.mp h1
    obtain ⟨b, hb, rfl⟩ := List.mem_map.mp h2
    exact .nl (List.mem_range.mp ha) hb
theorem ExIn.kyin {L : List Nat} {nl nr : Nat} {es : List Exc} (h : ExIn L nl nr es) {e : Exc} (he : e ∈ es) : KyIn L nl nr (kk e) := allK_in (h.sub.subset (List.mem_map.mpr ⟨e, he, rfl⟩))
theorem cross_length (A B : List Ky) : (cross A B).length = A.length * B.length := by
  unfold cross
  rw [List.length_flatMap]
  simp only [List.length_map]
  induction A with
  | nil => simp
  | cons a A ih => rw [List.map_cons, List.sum_cons, ih, List.length_cons, Nat.succ_mul, Nat.add_comm]
theorem ExIn.ok {L : List Nat} {nl nr : Nat} {es : List Exc} (h : ExIn L nl nr es) (hL : L.length ≤ 20) (hnl : nl ≤ 20) (hnr : nr ≤ 20) (b : ∀ c ∈ L, c ≤ 122) : ExOk es := by
  refine ⟨?_, fun e he => ?_, h.gap⟩
  · have h1 := h.sub.length_le
    unfold allK at h1
    simp only [List.length_append, cross_length, List.length_map, List.length_range] at h1
    have h2 : L.length * L.length ≤ 20 * 20 := Nat.mul_le_mul hL hL
    have h3 : L.length * nr ≤ 20 * 20 := Nat.mul_le_mul hL hnr
    have h4 : nl * L.length ≤ 20 * 20 := Nat.mul_le_mul hnl hL
    omega
  · have := h.kyin he
    obtain ⟨x, y, g⟩ := e
    cases this with
    | ll ha hb => exact ⟨b _ ha, b _ hb⟩
    | ln ha hb => exact ⟨b _ ha, show _ ≤ 1000 by omega⟩
    | nl ha hb => exact ⟨show _ ≤ 1000 by omega, b _ hb⟩
end DV

set_option maxHeartbeats 4000000
namespace DV
open PySem
/-! Tables drawn; tables known. -/
structure TabIn (L : List Nat) (t : Tab) : Prop where
  ok : TabOk L t
  ex : ExIn L t.lefts.length t.rights.length t.exc
/-! ### is_table -/
@[simp] theorem wp_sliceL (a : Ex) (lo hi : Px) {σ : En} {S : Sto} {P : List D → Sto → Prop} {E : Str → Sto → Prop} : (sliceL a lo hi σ S).wp P E = (a σ S).wp (fun x S1 => (lo σ S1).wp (fun l S2 => (hi σ S2).wp (fun h S3 => (match seqOf S3 x with
    | some ds => (match x with
      | .py (.tuple _) => R.no
      | _ => if ds.length ≤ sizeLine then .ok (cutP ds l h) S3 else .no)
    | none => .no).wp P E) E) E) E := by
  unfold sliceL
  rw [wp_bind]
  congr 1
  funext x S1
  rw [wp_bind]
  congr 1
  funext l S2
  rw [wp_bind]
  try rfl
@[simp] theorem wp_noP {σ : En} {S : Sto} {P : Option Int → Sto → Prop} {E : Str → Sto → Prop} : (noP σ S).wp P E = P none S := id rfl
@[simp] theorem wp_someP (a : Ex) {σ : En} {S : Sto} {P : Option Int → Sto → Prop} {E : Str → Sto → Prop} : (someP a σ S).wp P E = (a σ S).wp (fun d S1 => ∃ i, d = .py (.int i) ∧ P (some i) S1) E := by
  unfold someP
  rw [wp_bind]
  congr 1
  funext d S1
  split
  · exact propext ⟨fun h => ⟨_, rfl, h⟩, fun ⟨k, e, h⟩ => by cases e; exact h⟩
  · rename_i hn
    exact propext ⟨fun h => h.elim, fun ⟨k, e, h⟩ => (hn k e).elim⟩
/-! ### what is told -/
end DV

set_option maxHeartbeats 4000000
namespace DV
open PySem
end DV

set_option maxHeartbeats 4000000
namespace DV
open PySem
/-! The first pair unlike. -/
end DV

set_option maxHeartbeats 4000000
namespace DV
open PySem
end DV

set_option maxHeartbeats 4000000
namespace DV
open PySem
/-! Idle exceptions: the plain theory. -/
def tl (t : Tab) (es : List Exc) (l r : Nat) : Int := (hit es (.l l) (.l r)).getD ((hit es (.l l) (.n (clsIn t.rights r))).getD ((hit es (.n (clsIn t.lefts l)) (.l r)).getD ((t.gaps.getD (clsIn t.lefts l) []).getD (clsIn t.rights r) 0)))
theorem hit_app (A B : List Exc) (a b : Ky) : hit (A ++ B) a b = (hit A a b).or (hit B a b) := by
  unfold hit
  rw [List.find?_append]
  cases A.find? (fun e => decide (e.1 = a ∧ e.2.1 = b)) <;> rfl
theorem hit_cons (x : Exc) (B : List Exc) (a b : Ky) : hit (x :: B) a b = if kk x = (a, b) then some x.2.2 else hit B a b := by
  unfold hit
  rw [List.find?_cons]
  by_cases h : x.1 = a ∧ x.2.1 = b
  · simp [h, kk]
  · have : ¬ kk x = (a, b) := fun e => h ⟨congrArg Prod.fst e, congrArg Prod.snd e⟩
    simp [h, this]
theorem hit_none {A : List Exc} {a b : Ky} : hit A a b = none ↔ ∀ e ∈ A, kk e ≠ (a, b) := by
  unfold hit
  rw [Option.map_eq_none_iff, List.find?_eq_none]
  constructor
  · intro h e he q
    exact h e he (decide_eq_true ⟨congrArg Prod.fst q, congrArg Prod.snd q⟩)
  · intro h e he q
    simp at q
    exact h e he (Prod.ext q.1 q.2)
def ty : Ky × Ky → Nat
  | (.l _, .l _) => 0
  | (.l _, .n _) => 1
  | (.n _, .l _) => 2
  | (.n _, .n _) => 3
/-- x stands behind A, ahead of B, and its key is its own -/
structure Mid (A B : List Exc) (x : Exc) : Prop where
  a : ∀ e ∈ A, kk e ≠ kk x ∧ ty (kk e) ≤ ty (kk x)
  b : ∀ e ∈ B, kk e ≠ kk x
theorem Mid.sub {A A' B : List Exc} {x : Exc} (h : Mid A B x) (s : A'.Sublist A) : Mid A' B x := ⟨fun e he => h.a e (s.subset he), h.b⟩
theorem Mid.at_ {A B : List Exc} {x : Exc} (h : Mid A B x) (a b : Ky) : hit (A ++ x :: B) a b = if kk x = (a, b) then some x.2.2 else hit (A ++ B) a b := by
  rw [hit_app, hit_cons, hit_app]
  split
  · rename_i e
    rw [hit_none.mpr fun y hy => e ▸ (h.a y hy).1]
    rfl
  · rfl
theorem Mid.later {A B : List Exc} {x : Exc} (h : Mid A B x) {a b : Ky} (q : ty (kk x) < ty (a, b)) : hit (A ++ B) a b = hit B a b := by
  rw [hit_app, hit_none.mpr fun y hy e => by
    have := (h.a y hy).2
    rw [e] at this
    omega]
  rfl
/-! ### leaving out from the last one on -/
end DV

set_option maxHeartbeats 4000000
namespace DV
open PySem
/-! Idle exceptions: the program. -/
theorem keyI_shape (L : List Nat) (p : Ky × Ky) : ∃ u v, keyI L p = [(ty p : Int), u, v] := by
  obtain ⟨a, b⟩ := p
  cases a <;> cases b <;> exact ⟨_, _, rfl⟩
theorem ExIn.mid {L : List Nat} {nl nr : Nat} {es A B B' : List Exc} {x : Exc} (h : ExIn L nl nr es) (nd : L.Nodup) (e : es = A ++ x :: B) (s : B'.Sublist B) : Mid A B' x := by
  have srt := h.srt nd
  rw [e, List.map_append, List.map_append, List.pairwise_append] at srt
  obtain ⟨_, s2, s3⟩ := srt
  rw [List.map_cons, List.map_cons, List.pairwise_cons] at s2
  have irr : ∀ p : Ky × Ky, HT.lexLt (keyI L p) (keyI L p) = true → False := fun p hp => by
    obtain ⟨u, v, e⟩ := keyI_shape L p
    rw [e, lex3] at hp
    omega
  refine ⟨fun y hy => ?_, fun y hy q => ?_⟩
  · have z := s3 (keyI L (kk y)) (List.mem_map.mpr ⟨_, List.mem_map.mpr ⟨y, hy, rfl⟩, rfl⟩) (keyI L (kk x)) (List.mem_cons_self ..)
    refine ⟨fun q => irr (kk x) (by rw [q] at z; exact z), ?_⟩
    obtain ⟨u, v, e1⟩ := keyI_shape L (kk y)
    obtain ⟨u', v', e2⟩ := keyI_shape L (kk x)
    rw [e1, e2, lex3] at z
    omega
  · have z := s2.1 (keyI L (kk y)) (List.mem_map.mpr ⟨_, List.mem_map.mpr ⟨y, s.subset hy, rfl⟩, rfl⟩)
    exact irr (kk x) (by rw [q] at z; exact z)
theorem TabIn.cut {L : List Nat} {t : Tab} {es : List Exc} (h : TabIn L t) (s : es.Sublist t.exc) : TabIn L { t with exc := es } := ⟨⟨h.ok.lp, h.ok.rp, h.ok.gl, h.ok.gr, h.ok.gb⟩, h.ex.cut s⟩
/-! ### the program's own -/
@[simp ↓] theorem wp_sliceE (a : Ex) (lo hi : Px) {σ : En} {S : Sto} {P : D → Sto → Prop} {E : Str → Sto → Prop} : (sliceE a lo hi σ S).wp P E = (a σ S).wp (fun x S1 => (lo σ S1).wp (fun l S2 => (hi σ S2).wp (fun h S3 => (sliceV x l h S3).wp P E) E) E) E := by
  unfold sliceE
  rw [wp_bind]
  congr 1
  funext x S1
  rw [wp_bind]
  congr 1
  funext l S2
  rw [wp_bind]
theorem cut_from {α : Type} (xs : List α) (n : Nat) : cutP xs (some (n : Int)) none = xs.drop n := by
  unfold cutP
  rw [HT.sIx_nat, HT.sIx_none]
  by_cases h : n ≤ xs.length
  · rw [Nat.min_eq_left h, List.take_of_length_le (by rw [List.length_drop]; omega)]
  · rw [Nat.min_eq_right (by omega), List.drop_length, List.drop_of_length_le (by omega), List.take_nil]
@[simp ↓] theorem wp_rrng1 (e : Ex) {σ : En} {S : Sto} {P : List D → Sto → Prop} {E : Str → Sto → Prop} : (rrng1I e σ S).wp P E = (e σ S).wp (fun d S1 => ∃ j, d = .py (.int j) ∧ (-(2 ^ 62) ≤ j ∧ j ≤ 16777216) ∧ P (rngV 0 j.toNat).reverse S1) E := by
  unfold rrng1I
  rw [wp_bind]
  congr 1
  funext d S1
  split
  · rw [wp_iteR]
    split
    · rename_i h
      exact propext ⟨fun p => ⟨_, rfl, h, p⟩, fun ⟨j, e, _, p⟩ => by cases e; exact p⟩
    · rename_i h
      exact propext ⟨fun p => p.elim, fun ⟨j, e, h', p⟩ => by cases e; exact h h'⟩
  · rename_i hn
    exact propext ⟨fun h => h.elim, fun ⟨k, e, _, h⟩ => (hn k e).elim⟩
end DV

set_option maxHeartbeats 4000000
namespace DV
open PySem
/-! The law's own measure of a text. -/
@[simp ↓] theorem wp_dictF (f : Ex) {σ : En} {S : Sto} {P : D → Sto → Prop} {E : Str → Sto → Prop} : (dictF f σ S).wp P E = (f σ S).wp (fun d S1 => ∃ ds kv, d = .py (.list ds) ∧ pairsOf ds = some kv ∧ (kv.map Prod.fst).Nodup ∧ P (.py (.dict (kv.map fun p => (keyP p.1, p.2)))) S1) E := by
  unfold dictF
  rw [wp_bind]
  congr 1
  funext d S1
  rcases d with d | n | n
  · cases d
    case list ds =>
      cases h : pairsOf ds with
      | none =>
        simp only [h]
        exact propext ⟨fun h => h.elim, fun ⟨_, _, e, h2, _⟩ => by cases e; rw [h] at h2; cases h2⟩
      | some kv =>
        simp only [h]
        rw [wp_iteR]
        split
        · rename_i hz
          exact propext ⟨fun p => ⟨_, _, rfl, h, hz, p⟩, fun ⟨_, _, e, h2, _, p⟩ => by cases e; rw [h] at h2; cases h2; exact p⟩
        · rename_i hz
          exact propext ⟨fun p => p.elim, fun ⟨_, _, e, h2, z, p⟩ => by cases e; rw [h] at h2; cases h2; exact hz z⟩
    all_goals exact propext ⟨fun h => h.elim, fun ⟨_, _, e, _⟩ => by cases e⟩
  · exact propext ⟨fun h => h.elim, fun ⟨_, _, e, _⟩ => by cases e⟩
  · exact propext ⟨fun h => h.elim, fun ⟨_, _, e, _⟩ => by cases e⟩
def dgetV (x y : D) (S2 : Sto) : R D := match x, y with
  | .py (.dict kvs), .py k => (match keyOf k with
    | some k => (match dlook kvs k with
      | some d => .ok (.py d) S2
      | none => .no)
    | none => .no)
  | _, _ => .no
@[simp ↓] theorem wp_dgetF (a b : Ex) {σ : En} {S : Sto} {P : D → Sto → Prop} {E : Str → Sto → Prop} : (dgetF a b σ S).wp P E = (a σ S).wp (fun x S1 => (b σ S1).wp (fun y S2 => (dgetV x y S2).wp P E) E) E := by
  unfold dgetF
  rw [wp_bind]
  congr 1
  funext x S1
  rw [wp_bind]
  rfl
theorem cutS_from {l : List Nat} (n : Nat) : L2.cutS (⟨l.toArray⟩ : Str) (some (n : Int)) none = ⟨(l.drop n).toArray⟩ := by
  have h := cut_from l n
  unfold cutP at h
  unfold L2.cutS
  have e : (⟨l.toArray⟩ : Str).length = l.length := by simp [Str.length]
  rw [e]
  simp only [List.toList_toArray]
  rw [h]
end DV

set_option maxHeartbeats 4000000
namespace DV
open PySem
/-! Words and lines. -/
def jn : List (List Nat) → List Nat
  | [] => []
  | [w] => w
  | w :: v :: r => w ++ 32 :: jn (v :: r)
abbrev st (w : List Nat) : Str := ⟨w.toArray⟩
theorem st_app (a b : List Nat) : st a ++ st b = st (a ++ b) := by
  show (⟨a.toArray ++ b.toArray⟩ : Str) = ⟨(a ++ b).toArray⟩
  simp
theorem blank_st : (Str.ofString " ") = st [32] := by decide +kernel
theorem empty_st : (Str.ofString "") = st [] := by decide +kernel
theorem join_jn : ∀ ws : List (List Nat), Str.join (st [32]) (ws.map st) = st (jn ws)
  | [] => rfl
  | [w] => rfl
  | w :: v :: r => by
    show st w ++ st [32] ++ Str.join (st [32]) ((v :: r).map st) = _
    rw [join_jn (v :: r), st_app, st_app]
    simp [jn]
theorem txjoin_jn (ws : List (List Nat)) : Txt.join (Str.ofString " ") (ws.map st) = st (jn ws) := by
  rw [blank_st, ← join_jn]
  exact StrLaws.glued_eq_join _ _
theorem split_jn {ws : List (List Nat)} (hne : ws ≠ []) (h : ∀ w ∈ ws, 32 ∉ w) : Txt.split (st (jn ws)) (Str.ofString " ") = ws.map st := by
  rw [← txjoin_jn, blank_st]
  refine TL.split_join (s := 32) (S := []) rfl (by simp) (by simpa using hne) fun p hp => ?_
  obtain ⟨w, hw, rfl⟩ := List.mem_map.mp hp
  exact h w hw
theorem jn_nil {ws : List (List Nat)} (h : ∀ w ∈ ws, w ≠ []) : jn ws = [] ↔ ws = [] := by
  cases ws with
  | nil => simp [jn]
  | cons w r =>
    cases r with
    | nil => simp [jn]; exact h w (List.mem_cons_self ..)
    | cons v r => simp [jn]
theorem jn_has {f : Face} : ∀ {ws : List (List Nat)}, (∀ w ∈ ws, ∀ c ∈ w, c ∈ f.lets) → ∀ c ∈ jn ws, f.has c
  | [], _, c, hc => by cases hc
  | [w], h, c, hc => .inr (h w (List.mem_cons_self ..) c hc)
  | w :: v :: r, h, c, hc => by
    simp only [jn, List.mem_append, List.mem_cons] at hc
    rcases hc with hc | hc | hc
    · exact .inr (h w (List.mem_cons_self ..) c hc)
    · exact .inl hc
    · exact jn_has (fun w' hw' => h w' (List.mem_cons_of_mem _ hw')) c hc
theorem strs_fit {ws : List (List Nat)} (h : ∀ w ∈ ws, (∀ c ∈ w, c ≤ 122) ∧ w.length ≤ 2000) (hl : ws.length ≤ 200) : Fit (.list (ws.map fun w => .str (st w))) 1 402000 := (Fit.listN (k := 0) (w := 2000) (m := 200) (fun d hd => by
    obtain ⟨w, hw, rfl⟩ := List.mem_map.mp hd
    exact Fit.str (fun c hc => by have := (h w hw).1 c (by simpa using hc); omega) (by simpa using (h w hw).2)) (by simpa using hl)).mono (by decide) (by decide)
theorem no_empty {ws : List (List Nat)} (h : ∀ w ∈ ws, (∀ c ∈ w, c ≤ 122) ∧ w.length ≤ 2000) (hl : ws.length ≤ 200) (hne : ∀ w ∈ ws, w ≠ []) (S : Sto) : inD (.py (.str (Str.ofString ""))) (.py (.list (ws.map fun w => .str (st w)))) S = .ok (.py (.bool false)) S := by
  have h1 : deep S 8 (.py (.str (Str.ofString ""))) = some (.str (Str.ofString "")) := rfl
  have h2 : deep S 8 (.py (.list (ws.map fun w => .str (st w)))) = some (.list (ws.map fun w => .str (st w))) := rfl
  simp only [inD, inS, h1, h2, inB]
  have f0 : Fit (.str (Str.ofString "")) 0 0 := by rw [empty_st]; exact Fit.str (by simp) (by simp)
  rw [if_pos ⟨f0.shaped (by decide), (strs_fit h hl).shaped (by decide)⟩]
  have : ((ws.map fun w => PyData.str (st w)).any fun z => PyData.eqv z (.str (Str.ofString ""))) = false := by
    rw [List.any_eq_false]
    intro d hd
    obtain ⟨w, hw, rfl⟩ := List.mem_map.mp hd
    rw [PyData.eqv.eq_6, empty_st]
    have := hne w hw
    simpa using this
  rw [this]
theorem need_text_eq {f : Face} {l : List Nat} (h : ∀ c ∈ l, f.has c) (hl : l.length ≤ 10000) (S : Sto) : F_need_text [.py f.py, .py (tx l)] S = .ok (.py .none) S := by
  have e := is_text_eq h hl
  unfold F_need_text b_need_text
  refine fn_eq (wp_fn ?_)
  simp [init, e]
  exact .self
/-- words of a face -/
structure Wds (f : Face) (ws : List (List Nat)) : Prop where
  ne : ∀ w ∈ ws, w ≠ []
  mem : ∀ w ∈ ws, ∀ c ∈ w, c ∈ f.lets
  short : ∀ w ∈ ws, w.length ≤ 100
  few : ws.length ≤ 60
theorem jn_len : ∀ {ws : List (List Nat)} {n : Nat}, (∀ w ∈ ws, w.length ≤ n) → (jn ws).length ≤ ws.length * (n + 1)
  | [], n, _ => by simp [jn]
  | [w], n, h => by
    have := h w (List.mem_cons_self ..)
    simp [jn]
    omega
  | w :: v :: r, n, h => by
    have h1 := h w (List.mem_cons_self ..)
    have h2 := jn_len (ws := v :: r) fun x hx => h x (List.mem_cons_of_mem _ hx)
    simp only [jn, List.length_append, List.length_cons, Nat.add_mul] at h2 ⊢
    omega
theorem Wds.len {f : Face} {ws : List (List Nat)} (h : Wds f ws) : (jn ws).length ≤ 10000 := by
  have h1 := jn_len h.short
  have h2 : ws.length * (100 + 1) ≤ 60 * 101 := Nat.mul_le_mul_right _ h.few
  omega
@[simp ↓] theorem wp_methSL (g : D → List D → Sto → R (List D)) (o : Ex) (a : Ax) {σ : En} {S : Sto} {P : List D → Sto → Prop} {E : Str → Sto → Prop} : (methSL g o a σ S).wp P E = (o σ S).wp (fun x S1 => ∃ z, x = .py (.str z) ∧ (a σ S1).wp (fun ds S2 => (g x ds S2).wp P E) E) E := by
  unfold methSL
  rw [wp_bind]
  congr 1
  funext d S1
  split
  · rw [wp_bind]
    exact propext ⟨fun h => ⟨_, rfl, h⟩, fun ⟨z, e, h⟩ => by cases e; exact h⟩
  · rename_i hn
    exact propext ⟨fun h => h.elim, fun ⟨z, e, _⟩ => (hn z e).elim⟩
abbrev encW (ws : List (List Nat)) : PyData := .list (ws.map fun w => .str (st w))
theorem words_of_eq {f : Face} {ws : List (List Nat)} (h : Wds f ws) (b : ∀ c ∈ f.lets, 97 ≤ c ∧ c ≤ 122) (S : Sto) : F_words_of [.py f.py, .py (tx (jn ws))] S = .ok (.py (encW ws)) S := by
  have nt := need_text_eq (jn_has h.mem) h.len
  have em : (st (jn ws) = Str.ofString "") = (ws = []) := by
    rw [empty_st]
    have := jn_nil h.ne
    simpa using this
  unfold F_words_of b_words_of
  refine fn_eq (wp_fn ?_)
  by_cases h0 : ws = []
  · subst h0
    simp [init, nt, em]
    exact ⟨.self, rfl⟩
  · have sp : ∀ S, splitD (.py (tx (jn ws))) [.py (.str (Str.ofString " "))] S = .ok ((ws.map fun w => PyData.str (st w)).map D.py) S := fun S => by
      unfold splitD
      simp only
      have e := split_jn h0 fun w hw h32 => by
        have := b 32 (h.mem w hw 32 h32)
        omega
      have hl := h.len
      rw [show (⟨(jn ws).toArray⟩ : Str) = st (jn ws) from rfl, e, if_pos ⟨by decide +kernel, by rw [sl_big']; simp [Str.length]; omega, by rw [List.length_map, sl_big']; have := h.few; omega⟩]
      simp
    have ne := no_empty (ws := ws) (fun w hw => ⟨fun c hc => (b c (h.mem w hw c hc)).2, by have := h.short w hw; omega⟩) (by have := h.few; omega) h.ne
    simp [init, nt, em, h0, sp, ne]
    exact ⟨.self, rfl⟩
theorem need_wide_eq {n : Int} (h : 1 ≤ n ∧ n ≤ 999) (S : Sto) : F_need_wide [.py (.int n)] S = .ok (.py .none) S := by
  unfold F_need_wide b_need_wide
  refine fn_eq (wp_fn ?_)
  simp [init, is_from_to_int, h]
  exact .self
theorem room_of_eq {f : Face} {P : List Pair} {l : List Nat} {n : Int} (nd : f.lets.Nodup) (h : ∀ c ∈ l, f.has c) (b : ∀ c ∈ f.lets, 97 ≤ c) (hl : l.length ≤ 10000) (S : Sto) : F_room_of [.py f.py, .py (encP P), .py (tx l), .py (.int n)] S = .ok (.py (.int (n - wd f P l))) S := by
  have w := wide_in_eq (P := P) nd h b hl
  unfold F_room_of b_room_of
  refine fn_eq (wp_fn ?_)
  simp [init, w]
  exact ⟨.self, rfl⟩
theorem need_words_eq {f : Face} {P : List Pair} {ws : List (List Nat)} {n : Int} (h : Wds f ws) (nd : f.lets.Nodup) (b : ∀ c ∈ f.lets, 97 ≤ c ∧ c ≤ 122) (hn : 1 ≤ n ∧ n ≤ 999) (hw : ∀ w ∈ ws, wd f P w ≤ n) (S : Sto) : F_need_words [.py f.py, .py (encP P), .py (tx (jn ws)), .py (.int n)] S = .ok (.py (encW ws)) S := by
  have e1 := words_of_eq h b
  have e2 := need_wide_eq hn
  unfold F_need_words b_need_words
  refine fn_eq (wp_fn ?_)
  simp [init, e1, e2]
  refine wp_forM (D.py ∘ fun w => PyData.str (st w)) (fun _ σ T => wipeD σ [5] = _ ∧ T = S) ⟨rfl, rfl⟩ ?_ ?_
  · rintro pre w post σ T e ⟨hσ, rfl⟩
    obtain ⟨_, rfl⟩ := slot_any hσ
    clear hσ
    have hm : w ∈ ws := by rw [e]; simp
    have r := room_of_eq (P := P) (n := n) nd (fun c hc => .inr (h.mem w hm c hc)) (fun c hc => (b c hc).1) (by have := h.short w hm; omega)
    have := hw w hm
    have z : ¬ (n - wd f P w < 0) := by omega
    simp [r, z]
  · rintro σ T ⟨hσ, rfl⟩
    obtain ⟨_, rfl⟩ := slot_any hσ
    simp
    exact ⟨.self, rfl⟩
end DV

set_option maxHeartbeats 4000000
namespace DV
open PySem
/-! Lines that take words as long as they fit. -/
def fillS (f : Face) (P : List Pair) (n : Int) (ls : List (List Nat)) (w : List Nat) : List (List Nat) := match ls.getLast? with
  | some x => if wd f P (x ++ 32 :: w) ≤ n then ls.dropLast ++ [x ++ 32 :: w] else ls ++ [w]
  | none => ls ++ [w]
def fill (f : Face) (P : List Pair) (n : Int) (ws : List (List Nat)) : List (List Nat) := ws.foldl (fillS f P n) []
theorem fill_snoc (f : Face) (P : List Pair) (n : Int) (ws : List (List Nat)) (w : List Nat) : fill f P n (ws ++ [w]) = fillS f P n (fill f P n ws) w := by
  unfold fill
  rw [List.foldl_append]
  rfl
/-- lines of so many words -/
structure Lns (f : Face) (ls : List (List Nat)) (k : Nat) : Prop where
  has : ∀ l ∈ ls, ∀ c ∈ l, f.has c
  len : ∀ l ∈ ls, l.length ≤ k * 101
  few : ls.length ≤ k
theorem fillS_lns {f : Face} {P : List Pair} {n : Int} {ls : List (List Nat)} {w : List Nat} {k : Nat} (h : Lns f ls k) (hw : ∀ c ∈ w, c ∈ f.lets) (hl : w.length ≤ 100) : Lns f (fillS f P n ls w) (k + 1) := by
  have app : Lns f (ls ++ [w]) (k + 1) := by
    refine ⟨fun l hm => ?_, fun l hm => ?_, ?_⟩
    · rcases List.mem_append.mp hm with hm | hm
      · exact h.has l hm
      · rw [List.mem_singleton] at hm
        subst hm
        exact fun c hc => .inr (hw c hc)
    · rcases List.mem_append.mp hm with hm | hm
      · have := h.len l hm
        omega
      · rw [List.mem_singleton] at hm
        subst hm
        omega
    · have := h.few
      simp
      omega
  unfold fillS
  split
  · rename_i x hx
    split
    · obtain ⟨ys, rfl⟩ := List.getLast?_eq_some_iff.mp hx
      rw [List.dropLast_concat]
      have hx' := h.has x (by simp)
      have lx := h.len x (by simp)
      refine ⟨fun l hm => ?_, fun l hm => ?_, ?_⟩
      · rcases List.mem_append.mp hm with hm | hm
        · exact h.has l (List.mem_append_left _ hm)
        · rw [List.mem_singleton] at hm
          subst hm
          intro c hc
          rw [List.mem_append, List.mem_cons] at hc
          rcases hc with hc | hc | hc
          · exact hx' c hc
          · exact .inl hc
          · exact .inr (hw c hc)
      · rcases List.mem_append.mp hm with hm | hm
        · have := h.len l (List.mem_append_left _ hm)
          omega
        · rw [List.mem_singleton] at hm
          subst hm
          simp
          omega
      · have := h.few
        simp at this ⊢
        omega
    · exact app
  · exact app
theorem fill_lns {f : Face} {P : List Pair} {n : Int} : ∀ (ws : List (List Nat)), (∀ w ∈ ws, (∀ c ∈ w, c ∈ f.lets) ∧ w.length ≤ 100) → ∀ (ls : List (List Nat)) (k : Nat), Lns f ls k → Lns f (ws.foldl (fillS f P n) ls) (k + ws.length)
  | [], _, ls, k, h => h
  | w :: ws, hw, ls, k, h => by
    have h1 := fillS_lns (P := P) (n := n) h (hw w (List.mem_cons_self ..)).1 (hw w (List.mem_cons_self ..)).2
    have := fill_lns (P := P) (n := n) ws (fun x hx => hw x (List.mem_cons_of_mem _ hx)) _ _ h1
    rw [List.foldl_cons, List.length_cons]
    have e : k + (ws.length + 1) = k + 1 + ws.length := by omega
    rw [e]
    exact this
theorem Wds.pre {f : Face} {ws pre post : List (List Nat)} (h : Wds f ws) (e : ws = pre ++ post) : Wds f pre := by
  subst e
  exact ⟨fun w hw => h.ne w (List.mem_append_left _ hw), fun w hw => h.mem w (List.mem_append_left _ hw), fun w hw => h.short w (List.mem_append_left _ hw), by have := h.few; rw [List.length_append] at this; omega⟩
theorem Wds.lns {f : Face} {P : List Pair} {n : Int} {ws : List (List Nat)} (h : Wds f ws) : Lns f (fill f P n ws) ws.length := by
  have := fill_lns (P := P) (n := n) ws (fun w hw => ⟨h.mem w hw, h.short w hw⟩) [] 0 ⟨by simp, by simp, by simp⟩
  simpa [fill] using this
def sts (ls : List (List Nat)) : List PyData := ls.map fun w => PyData.str (st w)
@[simp] theorem sts_len (ls : List (List Nat)) : (sts ls).length = ls.length := by simp [sts]
theorem sts_nil : sts [] = [] := id rfl
theorem deep_encW (S : Sto) (ls : List (List Nat)) : deep (stL S (sts ls)) 8 (.obj S.length) = some (encW ls) := deep_stL S _
theorem lns_fit {f : Face} {ls : List (List Nat)} {k : Nat} (h : Lns f ls k) (b : ∀ c ∈ f.lets, 97 ≤ c ∧ c ≤ 122) (hk : k ≤ 60) : Fit (encW ls) 1 402000 ∧ Fit (.tuple (sts ls)) 1 402000 := by
  have hc : ∀ l ∈ ls, ∀ c ∈ l, c ≤ 122 := fun l hl c hc => by
    rcases h.has l hl c hc with e | e
    · omega
    · exact (b c e).2
  have ea : ∀ d ∈ sts ls, Fit d 0 6060 := fun d hd => by
    obtain ⟨w, hw, rfl⟩ := List.mem_map.mp hd
    refine Fit.str (fun c hc' => by have := hc w hw c (by simpa using hc'); omega) ?_
    have := h.len w hw
    simp
    omega
  have hl : (sts ls).length ≤ 60 := by
    have := h.few
    rw [sts_len]
    omega
  exact ⟨(Fit.listN ea hl).mono (by decide) (by decide), (Fit.tupleN ea hl).mono (by decide) (by decide)⟩
theorem ne_empty {f : Face} {ls : List (List Nat)} {k : Nat} (h : Lns f ls k) (b : ∀ c ∈ f.lets, 97 ≤ c ∧ c ≤ 122) (hk : k ≤ 60) (S : Sto) :
    eqOD (.obj S.length) (.py (.list [])) (stL S (sts ls)) = .ok (.py (.bool (decide (ls = [])))) (stL S (sts ls)) ∧
    neOD (.obj S.length) (.py (.list [])) (stL S (sts ls)) = .ok (.py (.bool (!decide (ls = [])))) (stL S (sts ls)) := by
  have h2 : deep (stL S (sts ls)) 8 (.py (.list [])) = some (.list []) := rfl
  have hs := (lns_fit h b hk).1.shaped (by decide)
  have h0 := (Fit.list (FitL.nil (k := 0) (w := 0))).shaped (by decide)
  have e : PyData.eqv (encW ls) (.list []) = decide (ls = []) := by
    rw [PyData.eqv.eq_7]
    cases ls with
    | nil => rfl
    | cons a r => rfl
  unfold eqOD neOD
  simp only [deep_encW, h2]
  rw [if_pos ⟨hs, h0⟩, if_pos ⟨hs, h0⟩, e]
  exact ⟨rfl, rfl⟩
theorem item_last_st (S : Sto) (ys : List (List Nat)) (x : List Nat) : itemD (.obj S.length) (.py (.int (-1))) (stL S (sts (ys ++ [x]))) = .ok (.py (.str (st x))) (stL S (sts (ys ++ [x]))) := by
  have e : ((sts (ys ++ [x])).map D.py) = (sts ys).map D.py ++ [D.py (.str (st x))] := by simp [sts]
  simp only [itemD, seqOf, stL_get, e, L2.atI_last]
theorem ixP_last {σ : En} (S : Sto) (ys : List (List Nat)) (x z : List Nat) : ixP (.obj S.length) (.py (.int (-1))) (.py (.str (st z))) σ (stL S (sts (ys ++ [x]))) = .ok σ (stL S (sts (ys ++ [z]))) := by
  have hx : L2.ixN ((sts (ys ++ [x])).map D.py).length (-1) = some ys.length := by
    simp [L2.ixN, sts]
    try omega
  simp only [ixP, stL_get, hx]
  congr 1
  have e : (((sts (ys ++ [x])).map D.py).set ys.length (.py (.str (st z)))) = (sts (ys ++ [z])).map D.py := by
    simp [sts, List.set_append_right]
  rw [e, stL_set]
theorem add_st {a b : List Nat} (h : a.length + b.length ≤ 1000000) (S : Sto) : addD (.py (.str (st a))) (.py (.str (st b))) S = .ok (.py (.str (st (a ++ b)))) S := by
  unfold addD
  simp only
  rw [if_pos (by rw [sl_big']; simp [Str.length]; omega), st_app]
theorem fillS_cons {f : Face} {P : List Pair} {n : Int} {ys : List (List Nat)} {x w : List Nat} : fillS f P n (ys ++ [x]) w = if wd f P (x ++ 32 :: w) ≤ n then ys ++ [x ++ 32 :: w] else ys ++ [x] ++ [w] := by
  unfold fillS
  simp
theorem filled_eq {f : Face} {P : List Pair} {ws : List (List Nat)} {n : Int} (h : Wds f ws) (nd : f.lets.Nodup) (b : ∀ c ∈ f.lets, 97 ≤ c ∧ c ≤ 122) (hn : 1 ≤ n ∧ n ≤ 999) (hw : ∀ w ∈ ws, wd f P w ≤ n) (S : Sto) : F_filled [.py f.py, .py (encP P), .py (tx (jn ws)), .py (.int n)] S = .ok (.py (.tuple (sts (fill f P n ws)))) S := by
  have e1 := need_words_eq (P := P) h nd b hn hw
  unfold F_filled b_filled
  refine fn_eq (wp_fn ?_)
  simp [init, e1]
  rw [stL_nil]
  refine wp_forM (D.py ∘ fun w => PyData.str (st w)) (fun pre σ T => wipeD σ [6] = _ ∧ T = stL S (sts (fill f P n pre))) ⟨rfl, rfl⟩ ?_ ?_
  · rintro pre w post σ T e ⟨hσ, rfl⟩
    obtain ⟨_, rfl⟩ := slot_any hσ
    clear hσ
    have hm : w ∈ ws := by rw [e]; simp
    have hp := (h.pre e).lns (P := P) (n := n)
    have hk : pre.length ≤ 60 := (h.pre e).few
    have sw := h.short w hm
    rw [fill_snoc]
    generalize fill f P n pre = ls at *
    have ne := ne_empty hp b hk
    have few := hp.few
    have ap := stL_app (S := S) (ds := sts ls) (d := .str (st w)) (by rw [sts_len, sl_big']; omega)
    have ea : sts ls ++ [.str (st w)] = sts (ls ++ [w]) := by simp [sts]
    rw [ea] at ap
    by_cases h0 : ls = []
    · subst h0
      have n2 : neOD (.obj S.length) (.py (.list [])) (stL S []) = .ok (.py (.bool false)) (stL S []) := by simpa [sts_nil] using (ne S).2
      simp [sts_nil] at ap
      simp [sts_nil, n2, ap, fillS]
    · obtain ⟨ys, x, rfl⟩ : ∃ ys x, ls = ys ++ [x] := ⟨ls.dropLast, ls.getLast h0, (List.dropLast_concat_getLast h0).symm⟩
      have n2 := (ne S).2
      have it := item_last_st S ys x
      have lx := hp.len x (by simp)
      have hx := hp.has x (by simp)
      have a1 := add_st (a := x) (b := [32]) (by simp; omega)
      have a2 := add_st (a := x ++ [32]) (b := w) (by simp; omega)
      have rm := room_of_eq (P := P) (n := n) (l := x ++ [32] ++ w) nd (fun c hc => by
        rw [List.mem_append, List.mem_append, List.mem_singleton] at hc
        rcases hc with (hc | hc) | hc
        · exact hx c hc
        · exact .inl hc
        · exact .inr (h.mem w hm c hc)) (fun c hc => (b c hc).1) (by simp; omega)
      have ix := fun σ => ixP_last (σ := σ) S ys x (x ++ [32] ++ w)
      have ez : x ++ 32 :: w = x ++ [32] ++ w := by simp
      rw [fillS_cons, ez]
      generalize x ++ [32] ++ w = z at *
      rw [blank_st]
      by_cases hz : wd f P z ≤ n
      · have hz' : 0 ≤ n - wd f P z := by omega
        simp [n2, it, a1, a2, rm, hz, hz', ix]
      · have hz' : ¬ (0 ≤ n - wd f P z) := by omega
        simp [n2, it, a1, a2, rm, hz, hz', ap]
  · rintro σ T ⟨hσ, rfl⟩
    obtain ⟨_, rfl⟩ := slot_any hσ
    simp
    exact ⟨.stL, rfl⟩
end DV

set_option maxHeartbeats 4000000
namespace DV
open PySem
/-! How wide words and lines are. -/
theorem wd_cons (f : Face) (P : List Pair) (a b : Nat) (l : List Nat) : wd f P (a :: b :: l) = sw f a + bt P a b + wd f P (b :: l) := by
  unfold wd
  simp
  omega
theorem wd_one (f : Face) (P : List Pair) (a : Nat) : wd f P [a] = sw f a := by
  unfold wd
  simp
theorem wd_app (f : Face) (P : List Pair) : ∀ (x w : List Nat), x ≠ [] → w ≠ [] → wd f P (x ++ 32 :: w) = wd f P x + f.w + wd f P w
  | [], _, h, _ => absurd rfl h
  | [a], w, _, hw => by
    cases w with
    | nil => exact absurd rfl hw
    | cons c w =>
      show wd f P (a :: 32 :: c :: w) = _
      have b1 : bt P a 32 = 0 := by simp [bt]
      have b2 : bt P 32 c = 0 := by simp [bt]
      have s1 : sw f 32 = f.w := by simp [sw]
      rw [wd_cons, wd_cons, wd_one, b1, b2, s1]
      omega
  | a :: b :: x, w, _, hw => by
    have ih := wd_app f P (b :: x) w (by simp) hw
    show wd f P (a :: b :: (x ++ 32 :: w)) = _
    rw [wd_cons, wd_cons]
    have : wd f P (b :: (x ++ 32 :: w)) = wd f P (b :: x ++ 32 :: w) := rfl
    rw [this, ih]
    omega
/-- widths and gaps as they are drawn -/
structure Wid (f : Face) (P : List Pair) : Prop where
  w : 1 ≤ f.w ∧ f.w ≤ 99
  s : ∀ c ∈ f.lets, 10 ≤ sw f c ∧ sw f c ≤ 99
  g : ∀ a b, -9 ≤ bt P a b ∧ bt P a b ≤ 9
theorem wd_bnd {f : Face} {P : List Pair} (h : Wid f P) : ∀ {w : List Nat}, w ≠ [] → (∀ c ∈ w, c ∈ f.lets) → 10 ≤ wd f P w ∧ wd f P w ≤ 108 * (w.length : Int)
  | [], h0, _ => absurd rfl h0
  | [a], _, hm => by
    have := h.s a (hm a (List.mem_cons_self ..))
    rw [wd_one]
    simp
    omega
  | a :: b :: w, _, hm => by
    have h1 := h.s a (hm a (List.mem_cons_self ..))
    have h2 := h.g a b
    have h3 := wd_bnd h (w := b :: w) (by simp) fun c hc => hm c (List.mem_cons_of_mem _ hc)
    rw [wd_cons]
    simp only [List.length_cons] at h3 ⊢
    push_cast at h3 ⊢
    omega
def Under (f : Face) (P : List Pair) (ls : List (List Nat)) (m : Int) : Prop := ∀ l ∈ ls, wd f P l ≤ m
theorem fillS_under {f : Face} {P : List Pair} {n : Int} {ls : List (List Nat)} {w : List Nat} (u : Under f P ls n) (hw : wd f P w ≤ n) : Under f P (fillS f P n ls w) n := by
  have app : Under f P (ls ++ [w]) n := fun l hl => by
    rcases List.mem_append.mp hl with hl | hl
    · exact u l hl
    · rw [List.mem_singleton] at hl
      subst hl
      exact hw
  unfold fillS
  split
  · split
    · rename_i x hx hz
      intro l hl
      rcases List.mem_append.mp hl with hl | hl
      · exact u l (List.dropLast_subset _ hl)
      · rw [List.mem_singleton] at hl
        subst hl
        exact hz
    · exact app
  · exact app
theorem snoc_ind {α : Type} {Q : List α → Prop} (h0 : Q []) (hs : ∀ l a, Q l → Q (l ++ [a])) : ∀ l, Q l := by
  have key : ∀ (n : Nat) (l : List α), l.length = n → Q l := by
    intro n
    induction n with
    | zero => intro l h; rw [List.eq_nil_of_length_eq_zero h]; exact h0
    | succ n ih =>
      intro l h
      have hne : l ≠ [] := fun e => by rw [e] at h; cases h
      rw [← List.dropLast_concat_getLast hne]
      exact hs _ _ (ih _ (by simp [h]))
  exact fun l => key _ l rfl
theorem fill_under {f : Face} {P : List Pair} {n : Int} : ∀ ws : List (List Nat), (∀ w ∈ ws, wd f P w ≤ n) → Under f P (fill f P n ws) n := by
  refine snoc_ind (fun _ l hl => by cases hl) fun ws w ih hm => ?_
  rw [fill_snoc]
  exact fillS_under (ih fun x hx => hm x (List.mem_append_left _ hx)) (hm w (by simp))
end DV

set_option maxHeartbeats 4000000
namespace DV
open PySem
/-! Words and rooms drawn. -/
@[simp ↓] theorem wp_methS (g : D → List D → Sto → R D) (o : Ex) (a : Ax) {σ : En} {S : Sto} {P : D → Sto → Prop} {E : Str → Sto → Prop} : (methS g o a σ S).wp P E = (o σ S).wp (fun x S1 => ∃ z, x = .py (.str z) ∧ (a σ S1).wp (fun ds S2 => (g x ds S2).wp P E) E) E := by
  unfold methS
  rw [wp_bind]
  congr 1
  funext d S1
  split
  · rw [wp_bind]
    exact propext ⟨fun h => ⟨_, rfl, h⟩, fun ⟨z, e, h⟩ => by cases e; exact h⟩
  · rename_i hn
    exact propext ⟨fun h => h.elim, fun ⟨z, e, _⟩ => (hn z e).elim⟩
theorem strsOf_lt : ∀ rs : List Nat, strsOf (rs.map lt) = some (rs.map fun c => st [c])
  | [] => rfl
  | c :: rs => by
    show (strsOf (rs.map lt)).map (st [c] :: ·) = _
    rw [strsOf_lt rs]
    rfl
theorem join_empty : ∀ rs : List Nat, Str.join (st []) (rs.map fun c => st [c]) = st rs
  | [] => rfl
  | [c] => rfl
  | c :: d :: r => by
    show st [c] ++ st [] ++ Str.join (st []) ((d :: r).map fun c => st [c]) = _
    rw [join_empty (d :: r), st_app, st_app]
    rfl
theorem joinD_lts {rs : List Nat} (h : rs.length ≤ 1000) (S : Sto) : joinD (.py (.str (Str.ofString ""))) [.py (.list (rs.map lt))] S = .ok (.py (.str (st rs))) S := by
  unfold joinD
  simp only [strsOf_lt]
  rw [if_pos]
  · congr 3
    rw [empty_st]
    exact (StrLaws.glued_eq_join _ _).trans (join_empty rs)
  · have e : ((rs.map fun c => st [c]).map fun x => x.length).sum = rs.length := by
      clear h
      induction rs with
      | nil => rfl
      | cons c r ih =>
        simp only [List.map_cons, List.sum_cons, ih, List.length_cons]
        simp [Str.length]
        omega
    rw [e, List.length_map, empty_st]
    simp [Str.length]
    omega
theorem fix_at {m i : Nat} {T : Sto} {ds : List PyData} {σ : En} {N : K} (h : T[m]? = some (.lst (ds.map D.py))) (hi : σ[i]? = some (some (.obj m))) (q : N.nx (σ.set i (some (.py (.list ds)))) (T.set m .gone)) : (fixS i σ T).wp N := by
  unfold fixS
  simp only [hi, h, pysOf_map]
  exact q
end DV

set_option maxHeartbeats 4000000
namespace DV
open PySem
end DV

set_option maxHeartbeats 4000000
namespace DV
open PySem
theorem strsOf_w : ∀ ws : List (List Nat), strsOf (sts ws) = some (ws.map st)
  | [] => rfl
  | c :: rs => by
    show (strsOf (sts rs)).map (st c :: ·) = _
    rw [strsOf_w rs]
    rfl
theorem joinD_w {f : Face} {ws : List (List Nat)} (h : Wds f ws) (S : Sto) : joinD (.py (.str (Str.ofString " "))) [.py (encW ws)] S = .ok (.py (tx (jn ws))) S := by
  have hs := strsOf_w ws
  unfold sts at hs
  have sm : ∀ vs : List (List Nat), (∀ w ∈ vs, w.length ≤ 100) → ((vs.map st).map fun x => x.length).sum ≤ vs.length * 100 := by
    intro vs
    induction vs with
    | nil => simp
    | cons c r ih =>
      intro hv
      have a := ih fun w hw => hv w (List.mem_cons_of_mem _ hw)
      have b := hv c (List.mem_cons_self ..)
      simp only [List.map_cons, List.sum_cons, List.length_cons]
      have : (st c).length = c.length := by simp [Str.length]
      omega
  have b := sm ws h.short
  have c := h.few
  unfold joinD
  simp only [hs]
  rw [if_pos]
  · rw [blank_str]
    exact congrArg (fun z => R.ok (D.py (.str z)) S) ((StrLaws.glued_eq_join _ _).trans (join_jn ws))
  · rw [List.length_map, blank_str]
    have : (⟨#[32]⟩ : Str).length = 1 := rfl
    rw [this]
    omega
end DV

set_option maxHeartbeats 4000000
namespace DV
open PySem
/-! Texts, refused or not; odd things. -/
theorem wp_exq {α : Type} {r : R α} {c : Str} {S : Sto} (h : r.wp (fun _ _ => False) (fun c' T => c' = c ∧ T = S)) : r = .ex c S := by
  cases r with
  | ok a T => exact h.elim
  | ex c' T =>
    obtain ⟨rfl, rfl⟩ := h
    rfl
  | no => exact h.elim
instance (f : Face) (c : Nat) : Decidable (f.has c) := by unfold Face.has; infer_instance
theorem lt_eqq (a c : Nat) (S : Sto) : eqD (.py (lt a)) (.py (lt c)) S = .ok (.py (.bool (decide (a = c)))) S := by
  rw [eqD_str]
  congr 3
  simp
theorem is_sign_any (f : Face) (c : Nat) (S : Sto) : F_is_sign [.py f.py, .py (lt c)] S = .ok (.py (.bool (decide (f.has c)))) S := by
  by_cases h : f.has c
  · rw [is_sign_eq h, decide_eq_true h]
  · have pl := place_gen (f := f) (t := lt c) (p := fun a => decide (a = c)) (fun q _ S => lt_eqq q.1 c S)
    have hn : f.lets.findIdx? (fun a => decide (a = c)) = none := by
      rw [List.findIdx?_eq_none_iff]
      intro a ha
      simp
      intro e
      subst e
      exact h (.inr ha)
    rw [hn] at pl
    have h32 : c ≠ 32 := fun e => h (.inl e)
    unfold F_is_sign b_is_sign
    refine fn_eq (wp_fn ?_)
    simp [init, h32, pl, plcD, h]
    exact ⟨.self, rfl⟩
/-- is a thing a text of the face -/
def isTx (f : Face) : PyData → Bool
  | .str x => x.cps.toList.all fun c => decide (f.has c)
  | _ => false
/-- a text of the thing is not too long -/
def Short (n : Nat) (d : PyData) : Prop := ∀ x, d = .str x → x.length ≤ n
theorem isTx_tx {f : Face} {d : PyData} (h : isTx f d = true) : ∃ l, d = tx l ∧ ∀ c ∈ l, f.has c := by
  cases d with
  | str x =>
    obtain ⟨⟨l⟩⟩ := x
    exact ⟨l, rfl, fun c hc => by simpa using List.all_eq_true.mp h c hc⟩
  | _ => cases h
theorem is_text_any {f : Face} {d : PyData} (h : Short 10000 d) (S : Sto) : F_is_text [.py f.py, .py d] S = .ok (.py (.bool (isTx f d))) S := by
  unfold F_is_text b_is_text
  refine fn_eq (wp_fn ?_)
  cases d with
  | str x =>
    obtain ⟨⟨l⟩⟩ := x
    have hl := h _ rfl
    simp [Str.length] at hl
    simp [init, isB]
    refine ⟨by simp [Str.length]; omega, ?_⟩
    refine wp_pureM1 (D.py ∘ lt) (fun c => D.py (.bool (decide (f.has c)))) (fun c hc => wp_eq (by simp [is_sign_any])) ?_
    have e2 : (l.map fun c => D.py (.bool (decide (f.has c)))) = ((l.map fun c => decide (f.has c)).map PyData.bool).map D.py := by simp
    rw [e2, pysOf_map]
    simp only [allD_bools, wp_ok]
    refine ⟨S, .self, rfl, ?_, rfl⟩
    simp [isTx, List.all_map]
  | none => simp [init, isB, isTx]; exact ⟨.self, rfl⟩
  | bool b => simp [init, isB, isTx]; exact ⟨.self, rfl⟩
  | int i => simp [init, isB, isTx]; exact ⟨.self, rfl⟩
  | list ds => simp [init, isB, isTx]; exact ⟨.self, rfl⟩
  | tuple ds => simp [init, isB, isTx]; exact ⟨.self, rfl⟩
  | dict ds => simp [init, isiD, tyN, isB, isTx]; exact ⟨.self, rfl⟩
theorem need_text_any {f : Face} {d : PyData} (h : Short 10000 d) (S : Sto) : F_need_text [.py f.py, .py d] S = if isTx f d = true then .ok (.py .none) S else .ex "NoLine" S := by
  have it := is_text_any (f := f) h
  unfold F_need_text b_need_text
  by_cases ht : isTx f d = true
  · rw [if_pos ht]
    refine fn_eq (wp_fn ?_)
    simp [init, it, ht]
    exact .self
  · rw [if_neg ht]
    refine wp_exq (wp_fn ?_)
    simp [init, it, ht]
    exact .self
theorem begins_any {f : Face} {P : List Pair} {d : PyData} (nd : f.lets.Nodup) (b : ∀ c ∈ f.lets, 97 ≤ c) (h : Short 10000 d) (S : Sto) :
    (isTx f d = false → F_begins [.py f.py, .py (encP P), .py d] S = .ex "NoLine" S) ∧ ∀ l, d = tx l → (∀ c ∈ l, f.has c) → F_begins [.py f.py, .py (encP P), .py d] S = .ok (.py (tupI (begs f P l))) S := by
  have nt := need_text_any (f := f) h
  refine ⟨fun ht => ?_, fun l e hl => ?_⟩
  · unfold F_begins b_begins
    refine wp_exq (wp_fn ?_)
    simp [init, nt, ht]
    exact .self
  · subst e
    have hh := h _ rfl
    simp [Str.length] at hh
    have ht : isTx f (tx l) = true := by
      simp [isTx]
      exact hl
    have bi := begins_in_eq (P := P) nd hl b hh
    unfold F_begins b_begins
    refine fn_eq (wp_fn ?_)
    simp [init, nt, ht, bi]
    exact ⟨.self, rfl⟩
@[simp] theorem lstOf_list (ds : List PyData) (S : Sto) : lstOf S (.py (.list ds)) = some (ds.map .py) := rfl
@[simp ↓] theorem wp_catL (a b : Ex) {σ : En} {S : Sto} {P : List D → Sto → Prop} {E : Str → Sto → Prop} : (catL a b σ S).wp P E = (a σ S).wp (fun x S1 => (b σ S1).wp (fun y S2 => ∃ xs ys, lstOf S2 x = some xs ∧ lstOf S2 y = some ys ∧ xs.length + ys.length ≤ sizeLine ∧ P (xs ++ ys) S2) E) E := by
  unfold catL
  rw [wp_bind]
  congr 1
  funext x S1
  rw [wp_bind]
  congr 1
  funext y S2
  split
  · rename_i xs ys h1 h2
    rw [wp_iteR]
    split
    · rename_i hz
      exact propext ⟨fun p => ⟨xs, ys, h1, h2, hz, p⟩, fun ⟨_, _, e1, e2, _, p⟩ => by rw [h1] at e1; rw [h2] at e2; cases e1; cases e2; exact p⟩
    · rename_i hz
      exact propext ⟨fun p => p.elim, fun ⟨_, _, e1, e2, q, p⟩ => by rw [h1] at e1; rw [h2] at e2; cases e1; cases e2; exact hz q⟩
  · rename_i hn
    exact propext ⟨fun h => h.elim, fun ⟨_, _, e1, e2, _, _⟩ => (hn _ _ e1 e2).elim⟩
@[simp ↓] theorem wp_repL (a b : Ex) {σ : En} {S : Sto} {P : List D → Sto → Prop} {E : Str → Sto → Prop} : (repL a b σ S).wp P E = (a σ S).wp (fun x S1 => (b σ S1).wp (fun y S2 => ∃ xs k, lstOf S2 x = some xs ∧ y = .py (.int k) ∧ (-1000 ≤ k ∧ k ≤ 1000 ∧ xs.length ≤ 1000) ∧ P (List.replicate k.toNat xs).flatten S2) E) E := by
  unfold repL
  rw [wp_bind]
  congr 1
  funext x S1
  rw [wp_bind]
  congr 1
  funext y S2
  split
  · rename_i xs k h1
    rw [wp_iteR]
    split
    · rename_i hz
      exact propext ⟨fun p => ⟨xs, k, h1, rfl, hz, p⟩, fun ⟨_, _, e1, e2, _, p⟩ => by rw [h1] at e1; cases e1; cases e2; exact p⟩
    · rename_i hz
      exact propext ⟨fun p => p.elim, fun ⟨_, _, e1, e2, q, p⟩ => by rw [h1] at e1; cases e1; cases e2; exact hz q⟩
  · rename_i hn
    exact propext ⟨fun h => h.elim, fun ⟨_, _, e1, e2, _, _⟩ => (hn _ _ e1 e2).elim⟩
end DV

set_option maxHeartbeats 4000000
/-! text.replace(a, b) of written texts, in a list of which an earlier item has a written text -/
namespace DV
open PySem PySem.Spec PyProof.Rows L2
section
variable {X : Cx} {E : XK} {e a o : Expr} {es : List Expr} {f g : Ex} {fs : Ax} {pos p apos c0 c1 : Pos} {x y z : Str} {j k : Nat} {op : Operator}
end
end DV

set_option maxHeartbeats 4000000
namespace DV
open PySem
/-! Any text cut at its blanks; blanks made double. -/
def spl : List Nat → List (List Nat)
  | [] => [[]]
  | c :: l => if c = 32 then [] :: spl l else match spl l with
    | w :: r => (c :: w) :: r
    | [] => [[c]]
theorem spl_ne (l : List Nat) : spl l ≠ [] := by
  cases l with
  | nil => simp [spl]
  | cons c l =>
    unfold spl
    split
    · simp
    · split <;> simp
theorem spl_mem : ∀ {l : List Nat}, ∀ w ∈ spl l, 32 ∉ w ∧ ∀ c ∈ w, c ∈ l
  | [], w, h => by
    simp [spl] at h
    subst h
    simp
  | c :: l, w, h => by
    have ih := fun v hv => spl_mem (l := l) v hv
    unfold spl at h
    split at h
    · rcases List.mem_cons.mp h with rfl | h
      · simp
      · obtain ⟨h1, h2⟩ := ih w h
        exact ⟨h1, fun x hx => List.mem_cons_of_mem _ (h2 x hx)⟩
    · rename_i hc
      split at h
      · rename_i v r e
        rcases List.mem_cons.mp h with rfl | h
        · obtain ⟨h1, h2⟩ := ih v (by rw [e]; simp)
          refine ⟨fun z => ?_, fun x hx => ?_⟩
          · rcases List.mem_cons.mp z with z | z
            · exact hc z.symm
            · exact h1 z
          · rcases List.mem_cons.mp hx with rfl | hx
            · simp
            · exact List.mem_cons_of_mem _ (h2 x hx)
        · obtain ⟨h1, h2⟩ := ih w (by rw [e]; simp [h])
          exact ⟨h1, fun x hx => List.mem_cons_of_mem _ (h2 x hx)⟩
      · simp at h
        subst h
        refine ⟨by simp; exact fun z => hc z.symm, by simp⟩
theorem jn_cons (c : Nat) (w : List Nat) (r : List (List Nat)) : jn ((c :: w) :: r) = c :: jn (w :: r) := by
  cases r <;> simp [jn]
theorem jn_spl : ∀ l : List Nat, jn (spl l) = l
  | [] => rfl
  | c :: l => by
    have ih := jn_spl l
    unfold spl
    split
    · rename_i hc
      subst hc
      cases e : spl l with
      | nil => exact absurd e (spl_ne l)
      | cons v r =>
        rw [e] at ih
        show [] ++ 32 :: jn (v :: r) = _
        rw [ih]
        rfl
    · split
      · rename_i v r e
        rw [e] at ih
        rw [jn_cons, ih]
      · rename_i e
        exact absurd e (spl_ne l)
theorem jn_few : ∀ {ws : List (List Nat)}, ws ≠ [] → (jn ws).length + 1 = (ws.map fun w => w.length + 1).sum
  | [], h => absurd rfl h
  | [w], _ => by simp [jn]
  | w :: v :: r, _ => by
    have ih := jn_few (ws := v :: r) (by simp)
    simp only [jn, List.length_append, List.length_cons, List.map_cons, List.sum_cons] at ih ⊢
    omega
theorem spl_few (l : List Nat) : (spl l).length ≤ l.length + 1 ∧ ∀ w ∈ spl l, w.length ≤ l.length := by
  have h := jn_few (spl_ne l)
  rw [jn_spl] at h
  have key : ∀ ws : List (List Nat), ws.length ≤ (ws.map fun w => w.length + 1).sum ∧ ∀ w ∈ ws, w.length + 1 ≤ (ws.map fun w => w.length + 1).sum := by
    intro ws
    induction ws with
    | nil => simp
    | cons v r ih =>
      simp only [List.map_cons, List.sum_cons, List.length_cons]
      refine ⟨by omega, fun w hw => ?_⟩
      rcases List.mem_cons.mp hw with rfl | hw
      · omega
      · have := ih.2 w hw
        omega
  obtain ⟨k1, k2⟩ := key (spl l)
  exact ⟨by omega, fun w hw => by have := k2 w hw; omega⟩
end DV

set_option maxHeartbeats 4000000
namespace DV
open PySem
/-! What a line of words costs. -/
theorem cut_both {α : Type} (xs : List α) {a b : Nat} (ha : a ≤ b) (hb : b ≤ xs.length) : cutP xs (some (a : Int)) (some (b : Int)) = (xs.drop a).take (b - a) := by
  unfold cutP
  rw [HT.sIx_nat, HT.sIx_nat, Nat.min_eq_left hb, Nat.min_eq_left (Nat.le_trans ha hb)]
/-- the words from one number to another -/
def lnW (ws : List (List Nat)) (a b : Nat) : List (List Nat) := (ws.drop a).take (b - a)
theorem Wds.ln {f : Face} {ws : List (List Nat)} (h : Wds f ws) (a b : Nat) : Wds f (lnW ws a b) := by
  have sub : ∀ w ∈ lnW ws a b, w ∈ ws := fun w hw => List.mem_of_mem_drop (List.mem_of_mem_take hw)
  refine ⟨fun w hw => h.ne w (sub w hw), fun w hw => h.mem w (sub w hw), fun w hw => h.short w (sub w hw), ?_⟩
  have := h.few
  simp [lnW]
  omega
theorem line_of_eq {f : Face} {ws : List (List Nat)} (h : Wds f ws) {a b : Nat} (ha : a ≤ b) (hb : b ≤ ws.length) (S : Sto) : F_line_of [.py (encW ws), .py (.int (a : Int)), .py (.int (b : Int))] S = .ok (.py (tx (jn (lnW ws a b)))) S := by
  have jd := joinD_w (h.ln a b)
  have few := h.few
  have cu : cutP (ws.map (D.py ∘ fun w => PyData.str (st w))) (some (a : Int)) (some (b : Int)) = ((lnW ws a b).map fun w => PyData.str (st w)).map D.py := by
    rw [cut_both _ ha (by simpa using hb)]
    simp [lnW, List.map_drop, List.map_take]
  have sq : ∀ T, seqOf T (.py (encW ws)) = some ((ws.map fun w => PyData.str (st w)).map D.py) := fun T => by simp [seqOf]
  have ll : ws.length ≤ sizeLine := by
    rw [sl_big']
    omega
  unfold F_line_of b_line_of
  refine fn_eq (wp_fn ?_)
  simp only [init]
  simp [sq, ll]
  rw [cu, pysOf_map]
  simp [jd]
  exact ⟨.self, rfl⟩
/-- what a line costs -/
def cost (f : Face) (P : List Pair) (n : Int) (ws : List (List Nat)) (a b : Nat) : Option Int :=
  if n - wd f P (jn (lnW ws a b)) < 0 then none else if b = ws.length then some 0 else some ((n - wd f P (jn (lnW ws a b))) * (n - wd f P (jn (lnW ws a b))))
theorem wd_jn {f : Face} {P : List Pair} (hW : Wid f P) : ∀ {ws : List (List Nat)}, (∀ w ∈ ws, w ≠ [] ∧ ∀ c ∈ w, c ∈ f.lets) → 0 ≤ wd f P (jn ws)
  | [], _ => by simp [jn, wd]
  | [w], h => by
    have := h w (List.mem_cons_self ..)
    have := wd_bnd hW this.1 this.2
    simp only [jn]
    omega
  | w :: v :: r, h => by
    have h1 := h w (List.mem_cons_self ..)
    have h2 := wd_bnd hW h1.1 h1.2
    have h3 := wd_jn hW (ws := v :: r) fun x hx => h x (List.mem_cons_of_mem _ hx)
    have h4 : jn (v :: r) ≠ [] := fun e => by
      have := (jn_nil fun x hx => (h x (List.mem_cons_of_mem _ hx)).1).mp e
      simp at this
    have h5 := hW.w
    simp only [jn]
    rw [wd_app f P w (jn (v :: r)) h1.1 h4]
    omega
theorem cost_in_eq {f : Face} {P : List Pair} {ws : List (List Nat)} {n : Int} {a b : Nat} (h : Wds f ws) (nd : f.lets.Nodup) (hb97 : ∀ c ∈ f.lets, 97 ≤ c) (ha : a ≤ b) (hb : b ≤ ws.length) (hn : n ≤ 999) (hW : Wid f P) (S : Sto) :
    F_cost_in [.py f.py, .py (encP P), .py (encW ws), .py (.tuple [.int (a : Int), .int (b : Int)]), .py (.int n)] S = .ok (.py (match cost f P n ws a b with | some c => .int c | none => .none)) S := by
  have le := line_of_eq h ha hb
  have hl := h.ln a b
  have rm := room_of_eq (P := P) (n := n) (l := jn (lnW ws a b)) nd (jn_has hl.mem) hb97 hl.len
  have hv := wd_jn hW (ws := lnW ws a b) fun w hw => ⟨hl.ne w hw, hl.mem w hw⟩
  unfold F_cost_in b_cost_in
  refine fn_eq (wp_fn ?_)
  unfold cost
  generalize wd f P (jn (lnW ws a b)) = v at *
  by_cases h1 : n - v < 0
  · simp [init, le, rm, h1]
    exact ⟨.self, rfl⟩
  · by_cases h2 : b = ws.length
    · subst h2
      simp [init, le, rm, h1]
      exact ⟨.self, rfl⟩
    · simp [init, le, rm, h1, h2]
      refine .inl ⟨by omega, ?_⟩
      rw [mulD_l (by omega)]
      exact ⟨S, .self, rfl, rfl, rfl⟩
end DV

set_option maxHeartbeats 4000000
namespace DV
open PySem
/-! The least of some sums, none where there is none. -/
def bestS (b : Option Int) (s : Option Int) : Option Int := match s with
  | none => b
  | some c => match b with
    | none => some c
    | some v => if c < v then some c else some v
def bestL (xs : List (Option Int)) : Option Int := xs.foldl bestS none
theorem bestL_snoc (xs : List (Option Int)) (x : Option Int) : bestL (xs ++ [x]) = bestS (bestL xs) x := by
  unfold bestL
  rw [List.foldl_append]
  rfl
theorem bestL_spec : ∀ xs : List (Option Int), match bestL xs with
    | none => ∀ x ∈ xs, x = none
    | some v => some v ∈ xs ∧ ∀ c, some c ∈ xs → v ≤ c := by
  refine snoc_ind (by simp [bestL]) fun xs x ih => ?_
  rw [bestL_snoc]
  cases hb : bestL xs with
  | none =>
    rw [hb] at ih
    cases x with
    | none =>
      simp only [bestS]
      intro d hd
      rcases List.mem_append.mp hd with hd | hd
      · exact ih d hd
      · simpa using hd
    | some c =>
      simp only [bestS]
      refine ⟨by simp, fun d hd => ?_⟩
      rcases List.mem_append.mp hd with hd | hd
      · cases ih _ hd
      · rw [List.mem_singleton] at hd
        cases hd
        omega
  | some v =>
    rw [hb] at ih
    cases x with
    | none =>
      simp only [bestS]
      refine ⟨List.mem_append_left _ ih.1, fun d hd => ?_⟩
      rcases List.mem_append.mp hd with hd | hd
      · exact ih.2 d hd
      · simp at hd
    | some c =>
      simp only [bestS]
      by_cases h : c < v
      · rw [if_pos h]
        refine ⟨by simp, fun d hd => ?_⟩
        rcases List.mem_append.mp hd with hd | hd
        · have := ih.2 d hd
          omega
        · rw [List.mem_singleton] at hd
          cases hd
          omega
      · rw [if_neg h]
        refine ⟨List.mem_append_left _ ih.1, fun d hd => ?_⟩
        rcases List.mem_append.mp hd with hd | hd
        · exact ih.2 d hd
        · rw [List.mem_singleton] at hd
          cases hd
          omega
/-- the least costs from each of the last k words on, the first ahead -/
def prices (f : Face) (P : List Pair) (n : Int) (ws : List (List Nat)) : Nat → List Int
  | 0 => [0]
  | k + 1 => ((bestL ((List.range (k + 1)).map fun i => (cost f P n ws (ws.length - (k + 1)) (ws.length - k + i)).map (· + (prices f P n ws k).getD i 0))).getD 0) :: prices f P n ws k
theorem prices_len (f : Face) (P : List Pair) (n : Int) (ws : List (List Nat)) : ∀ k, (prices f P n ws k).length = k + 1
  | 0 => rfl
  | k + 1 => by
    rw [prices, List.length_cons, prices_len f P n ws k]
theorem cost_one {f : Face} {P : List Pair} {n : Int} {ws : List (List Nat)} {a : Nat} (ha : a < ws.length) (h : wd f P ws[a] ≤ n) : cost f P n ws a (a + 1) ≠ none := by
  have e : lnW ws a (a + 1) = [ws[a]] := by
    unfold lnW
    rw [List.drop_eq_getElem_cons ha, show a + 1 - a = 1 by omega]
    rfl
  unfold cost
  have e1 : jn [ws[a]] = ws[a] := rfl
  have h0 : ¬ (n - wd f P ws[a] < 0) := by omega
  rw [e, e1, if_neg h0]
  by_cases h2 : a + 1 = ws.length
  · rw [if_pos h2]
    simp
  · rw [if_neg h2]
    simp
theorem price_ok {f : Face} {P : List Pair} {n : Int} {ws : List (List Nat)} (hw : ∀ w ∈ ws, wd f P w ≤ n) {k : Nat} (hk : k < ws.length) :
    ∃ v, bestL ((List.range (k + 1)).map fun i => (cost f P n ws (ws.length - (k + 1)) (ws.length - k + i)).map (· + (prices f P n ws k).getD i 0)) = some v := by
  have ha : ws.length - (k + 1) < ws.length := by omega
  have c1 := cost_one (f := f) (P := P) (n := n) ha (hw _ (List.getElem_mem ha))
  have sp := bestL_spec ((List.range (k + 1)).map fun i => (cost f P n ws (ws.length - (k + 1)) (ws.length - k + i)).map (· + (prices f P n ws k).getD i 0))
  split at sp
  · have e : ws.length - (k + 1) + 1 = ws.length - k + 0 := by omega
    rw [e] at c1
    have := sp _ (List.mem_map.mpr ⟨0, by simp, rfl⟩)
    rw [Option.map_eq_none_iff] at this
    exact absurd this c1
  · exact ⟨_, by assumption⟩
theorem stL_ins {S : Sto} {ds : List PyData} {d : PyData} (h : ds.length < sizeLine) : insertD (.obj S.length) [.py (.int 0), .py d] (stL S ds) = .ok (.py .none) (stL S (d :: ds)) := by
  unfold insertD
  simp only [stL_get]
  rw [if_pos ⟨by simpa using h, by decide, by decide⟩]
  have := stL_set (S := S) (ds := ds) (es := d :: ds)
  exact congrArg (R.ok (D.py .none)) this
@[simp ↓] theorem wp_rrng (a b : Ex) {σ : En} {S : Sto} {P : List D → Sto → Prop} {E : Str → Sto → Prop} : (rrngI a b σ S).wp P E = (a σ S).wp (fun x S1 => (b σ S1).wp (fun y S2 => ∃ i j, x = .py (.int i) ∧ y = .py (.int j) ∧ (-(2 ^ 62) ≤ i ∧ j - i ≤ 16777216 ∧ i < 2 ^ 62 ∧ -(2 ^ 62) ≤ j ∧ j < 2 ^ 62) ∧ P (rngV i (j - i).toNat).reverse S2) E) E := by
  unfold rrngI
  rw [wp_bind]
  congr 1
  funext x S1
  rw [wp_bind]
  congr 1
  funext y S2
  split
  · rw [wp_iteR]
    split
    · rename_i h
      exact propext ⟨fun p => ⟨_, _, rfl, rfl, h, p⟩, fun ⟨i, j, e1, e2, _, p⟩ => by cases e1; cases e2; exact p⟩
    · rename_i h
      exact propext ⟨fun p => p.elim, fun ⟨i, j, e1, e2, h', p⟩ => by cases e1; cases e2; exact h h'⟩
  · rename_i hn
    exact propext ⟨fun h => h.elim, fun ⟨i, j, e1, e2, _, _⟩ => (hn i j e1 e2).elim⟩
@[simp ↓] theorem wp_rng2 (a b : Ex) {σ : En} {S : Sto} {P : List D → Sto → Prop} {E : Str → Sto → Prop} : (rng2I a b σ S).wp P E = (a σ S).wp (fun x S1 => (b σ S1).wp (fun y S2 => ∃ i j, x = .py (.int i) ∧ y = .py (.int j) ∧ (-(2 ^ 62) ≤ i ∧ j - i ≤ 16777216 ∧ i < 2 ^ 62 ∧ -(2 ^ 62) ≤ j ∧ j < 2 ^ 62) ∧ P (rngV i (j - i).toNat) S2) E) E := by
  unfold rng2I
  rw [wp_bind]
  congr 1
  funext x S1
  rw [wp_bind]
  congr 1
  funext y S2
  split
  · rw [wp_iteR]
    split
    · rename_i h
      exact propext ⟨fun p => ⟨_, _, rfl, rfl, h, p⟩, fun ⟨i, j, e1, e2, _, p⟩ => by cases e1; cases e2; exact p⟩
    · rename_i h
      exact propext ⟨fun p => p.elim, fun ⟨i, j, e1, e2, h', p⟩ => by cases e1; cases e2; exact h h'⟩
  · rename_i hn
    exact propext ⟨fun h => h.elim, fun ⟨i, j, e1, e2, _, _⟩ => (hn i j e1 e2).elim⟩
end DV

set_option maxHeartbeats 4000000
namespace DV
open PySem
def oD : Option Int → D
  | some c => .py (.int c)
  | none => .py .none
theorem prices_of_eq {f : Face} {P : List Pair} {ws : List (List Nat)} {n : Int} (h : Wds f ws) (nd : f.lets.Nodup) (hb97 : ∀ c ∈ f.lets, 97 ≤ c) (hn : n ≤ 999) (hW : Wid f P) (hw : ∀ w ∈ ws, wd f P w ≤ n) (S : Sto) :
    F_prices_of [.py f.py, .py (encP P), .py (encW ws), .py (.int n)] S = .ok (.py (.list ((prices f P n ws ws.length).map PyData.int))) S := by
  have few := h.few
  unfold F_prices_of b_prices_of
  refine fn_eq (wp_fn ?_)
  simp [init, -wp_forL_cons]
  refine ⟨by omega, ?_⟩
  refine wp_forL (fun pre σ T => wipeD σ [5, 6, 7, 8] = _ ∧ T = stL S ((prices f P n ws pre.length).map PyData.int)) ⟨rfl, rfl⟩ ?_ ?_
  · rintro pre x post σ T e ⟨hσ, rfl⟩
    obtain ⟨_, _, _, _, rfl⟩ := slot4 hσ
    clear hσ
    have lx : pre.length < ws.length ∧ x = .py (.int ((ws.length - (pre.length + 1) : Nat) : Int)) := by
      have l := congrArg List.length e
      have g := congrArg (fun l => l[pre.length]?) e
      simp [rngV] at l
      have lt : pre.length < ws.length := by omega
      refine ⟨lt, ?_⟩
      rw [List.getElem?_append_right (Nat.le_refl _), Nat.sub_self, List.getElem?_cons_zero, List.getElem?_reverse (by simp [rngV]; omega)] at g
      simp [rngV] at g
      obtain ⟨u, hu, rfl⟩ := g
      rw [List.getElem?_range (by omega)] at hu
      cases hu
      congr 2
      omega
    obtain ⟨lk, rfl⟩ := lx
    generalize hk : pre.length = k at *
    obtain ⟨v, pv⟩ := price_ok (P := P) hw lk
    have pl := prices_len f P n ws k
    have pe : prices f P n ws (k + 1) = v :: prices f P n ws k := by rw [prices, pv]; rfl
    simp [-wp_forL_cons, pe, hk]
    refine ⟨by omega, ?_⟩
    refine wp_forL (fun pre σ T => wipeD σ [7, 8] = [some (D.py f.py), some (D.py (encP P)), some (D.py (encW ws)), some (D.py (PyData.int n)), some (D.obj (List.length S)), some (D.py (PyData.int ((ws.length - (k + 1) : Nat) : Int))), some (oD (bestL ((List.range pre.length).map fun i => (cost f P n ws (ws.length - (k + 1)) (ws.length - k + i)).map (· + (prices f P n ws k).getD i 0)))), none, none] ∧ T = stL S ((prices f P n ws k).map PyData.int)) ⟨rfl, rfl⟩ ?_ ?_
    · rintro pre x post σ T e3 ⟨hσ, rfl⟩
      obtain ⟨_, _, rfl⟩ := slot2 hσ
      clear hσ
      have lx : pre.length < k + 1 ∧ x = .py (.int ((ws.length - k + pre.length : Nat) : Int)) := by
        have l := congrArg List.length e3
        have g := congrArg (fun l => l[pre.length]?) e3
        simp [rngV] at l
        have lt : pre.length < k + 1 := by omega
        refine ⟨lt, ?_⟩
        rw [List.getElem?_append_right (Nat.le_refl _), Nat.sub_self, List.getElem?_cons_zero] at g
        simp [rngV] at g
        obtain ⟨u, hu, rfl⟩ := g
        rw [List.getElem?_range (by omega)] at hu
        cases hu
        congr 2
        omega
      obtain ⟨lp, rfl⟩ := lx
      obtain ⟨p, hp⟩ : ∃ p, pre.length = p := ⟨_, rfl⟩
      rw [hp] at lp
      simp only [List.length_append, List.length_singleton, hp]
      clear e3 hp
      have ce := cost_in_eq (P := P) (n := n) (a := ws.length - (k + 1)) (b := ws.length - k + p) h nd hb97 (by omega) (by omega) hn hW
      simp only [List.range_succ (n := p), List.map_append, List.map_singleton, bestL_snoc]
      have it : ∀ T, T = stL S ((prices f P n ws k).map PyData.int) → itemD (.obj S.length) (.py (.int (p : Int))) T = .ok (.py (.int ((prices f P n ws k).getD p 0))) T := by
        rintro _ rfl
        obtain ⟨x, hx⟩ : ∃ x, (prices f P n ws k)[p]? = some x := ⟨_, List.getElem?_eq_getElem (by rw [pl]; omega)⟩
        rw [List.getD_eq_getElem?_getD, hx]
        exact itemD_obj (ds := ((prices f P n ws k).map PyData.int).map D.py) stL_get p (by simp [hx])
      generalize hB : bestL (List.map (fun i => Option.map (fun x => x + (prices f P n ws k).getD i 0) (cost f P n ws (ws.length - (k + 1)) (ws.length - k + i))) (List.range p)) = B
      have ea : ((ws.length - k + p : Nat) : Int) - ((ws.length - (k + 1) : Nat) : Int) - 1 = (p : Int) := by omega
      generalize ws.length - k + p = e at *
      generalize cost f P n ws (ws.length - (k + 1)) e = c at *
      generalize (prices f P n ws k).getD p 0 = g at *
      generalize hT : stL S ((prices f P n ws k).map PyData.int) = T at *
      have it := it T rfl
      cases c with
      | none =>
        simp [ce, bestS]
      | some c =>
        cases B with
        | none => simp [ce, bestS, ea, it, oD]
        | some v =>
          by_cases hc : c + g < v
          · simp [ce, bestS, ea, it, oD, hc]
          · simp [ce, bestS, ea, it, oD, hc]
    · rintro σ T ⟨hσ, rfl⟩
      obtain ⟨_, _, rfl⟩ := slot2 hσ
      clear hσ
      have e2 : (rngV (((ws.length - (k + 1) : Nat) : Int) + 1) ((ws.length : Int) + 1 - (((ws.length - (k + 1) : Nat) : Int) + 1)).toNat).length = k + 1 := by
        simp [rngV]
        omega
      rw [e2, pv]
      have ins := stL_ins (S := S) (ds := (prices f P n ws k).map PyData.int) (d := .int v) (by rw [List.length_map, pl, sl_big']; omega)
      simp [oD, ins]
  · rintro σ T ⟨hσ, rfl⟩
    obtain ⟨_, _, _, _, rfl⟩ := slot4 hσ
    clear hσ
    have e : (rngV 0 ws.length).reverse.length = ws.length := by simp [rngV]
    refine stL_fix rfl ?_
    simp [e]
    exact ⟨.app, rfl⟩
end DV

set_option maxHeartbeats 4000000
namespace DV
/-! Breakings of k words left of L into lines, as rows of how many words each line has: costs, the greedy row of least cost. -/
section
variable (C : Nat → Nat → Option Int) (L : Nat) (pr : Nat → Int)
/-- what a row costs, none where it is no row of k words or a line does not fit -/
def rowC : Nat → List Nat → Option Int
  | k, [] => if k = 0 then some 0 else none
  | k, m :: r => if 1 ≤ m ∧ m ≤ k then (match C (L - k) (L - k + m), rowC (k - m) r with
    | some c, some d => some (c + d)
    | _, _ => none) else none
/-- the line of i + 1 words keeps to the price of k + 1 words left -/
def okR (k i : Nat) : Bool := match C (L - (k + 1)) (L - k + i) with
  | some c => decide (c + pr (k - i) = pr (k + 1))
  | none => false
def pickR (k : Nat) : Nat := ((List.range (k + 1)).reverse.find? fun i => okR C L pr k i).getD 0
def greedy : Nat → List Nat
  | 0 => []
  | k + 1 => (pickR C L pr k + 1) :: greedy (k - pickR C L pr k)
termination_by k => k
/-- the prices are least sums -/
structure Prs : Prop where
  zero : pr 0 = 0
  is : ∀ k, k < L → ∃ i c, i ≤ k ∧ C (L - (k + 1)) (L - k + i) = some c ∧ c + pr (k - i) = pr (k + 1)
  le : ∀ k i c, k < L → i ≤ k → C (L - (k + 1)) (L - k + i) = some c → pr (k + 1) ≤ c + pr (k - i)
variable {C L pr}
theorem pick_spec (h : Prs C L pr) {k : Nat} (hk : k < L) : okR C L pr k (pickR C L pr k) = true ∧ pickR C L pr k ≤ k ∧ ∀ i, i ≤ k → okR C L pr k i = true → i ≤ pickR C L pr k := by
  obtain ⟨i0, c0, h1, h2, h3⟩ := h.is k hk
  have o0 : okR C L pr k i0 = true := by
    unfold okR
    rw [h2]
    simp [h3]
  unfold pickR
  cases e : (List.range (k + 1)).reverse.find? fun i => okR C L pr k i with
  | none =>
    rw [List.find?_eq_none] at e
    exact absurd o0 (e i0 (by simp; omega))
  | some j =>
    obtain ⟨a1, as, bs, a2, a3⟩ := List.find?_eq_some_iff_append.mp e
    have hj : j ≤ k := by
      have : j ∈ (List.range (k + 1)).reverse := by rw [a2]; simp
      simp at this
      omega
    refine ⟨a1, hj, fun i hi ho => ?_⟩
    show i ≤ j
    rcases Nat.lt_or_ge j i with hl | hl
    · -- i stands ahead of j in the reversed row
      exfalso
      have mem : i ∈ as := by
        have hm : i ∈ as ++ j :: bs := by rw [← a2]; simp; omega
        rcases List.mem_append.mp hm with m | m
        · exact m
        · rcases List.mem_cons.mp m with m | m
          · omega
          · have pw : ((List.range (k + 1)).reverse).Pairwise (fun a b => b < a) := by
              rw [List.pairwise_reverse]
              exact List.pairwise_lt_range
            rw [a2] at pw
            have := (List.pairwise_cons.mp (List.pairwise_append.mp pw).2.1).1 i m
            omega
      have := a3 i mem
      rw [ho] at this
      cases this
    · exact hl
theorem ok_cost {k i : Nat} (h : okR C L pr k i = true) : ∃ c, C (L - (k + 1)) (L - k + i) = some c ∧ c + pr (k - i) = pr (k + 1) := by
  unfold okR at h
  split at h
  · rename_i c hc
    exact ⟨c, hc, by simpa using h⟩
  · cases h
/-- the greedy row costs the price -/
theorem greedy_cost (h : Prs C L pr) : ∀ k, k ≤ L → rowC C L k (greedy C L pr k) = some (pr k) := by
  intro k
  induction k using Nat.strongRecOn with
  | ind k ih =>
    intro hk
    cases k with
    | zero => rw [greedy, rowC, h.zero]; rfl
    | succ k =>
      obtain ⟨a1, a2, a3⟩ := pick_spec h (show k < L by omega)
      obtain ⟨c, h1, h2⟩ := ok_cost a1
      have := ih (k - pickR C L pr k) (by omega) (by omega)
      rw [greedy, rowC, if_pos ⟨by omega, by omega⟩]
      have e1 : L - (k + 1) + (pickR C L pr k + 1) = L - k + pickR C L pr k := by omega
      have e2 : k + 1 - (pickR C L pr k + 1) = k - pickR C L pr k := by omega
      rw [e1, e2, h1, this]
      simp [h2]
/-- a row with more words ahead -/
def ahead : List Nat → List Nat → Prop
  | x :: xs, y :: ys => y < x ∨ (x = y ∧ ahead xs ys)
  | _, _ => False
theorem rowC_cons {k m : Nat} {r : List Nat} {v : Int} (h : rowC C L k (m :: r) = some v) : 1 ≤ m ∧ m ≤ k ∧ ∃ c d, C (L - k) (L - k + m) = some c ∧ rowC C L (k - m) r = some d ∧ v = c + d := by
  rw [rowC] at h
  split at h
  · rename_i hm
    split at h
    · rename_i c d h1 h2
      cases h
      exact ⟨hm.1, hm.2, c, d, h1, h2, rfl⟩
    · cases h
  · cases h
/-- no row costs less, and of those that cost the price the greedy one has most words ahead -/
theorem greedy_least (h : Prs C L pr) : ∀ k, k ≤ L → ∀ row v, rowC C L k row = some v → pr k ≤ v ∧ (v = pr k → row = greedy C L pr k ∨ ahead (greedy C L pr k) row) := by
  intro k
  induction k using Nat.strongRecOn with
  | ind k ih =>
    intro hk row v hv
    cases row with
    | nil =>
      rw [rowC] at hv
      split at hv
      · rename_i hz
        subst hz
        cases hv
        rw [h.zero, greedy]
        exact ⟨Int.le_refl _, fun _ => .inl rfl⟩
      · cases hv
    | cons m r =>
      obtain ⟨m1, m2, c, d, h1, h2, rfl⟩ := rowC_cons hv
      cases k with
      | zero => omega
      | succ k =>
        obtain ⟨i, rfl⟩ : ∃ i, m = i + 1 := ⟨m - 1, by omega⟩
        have e1 : L - (k + 1) + (i + 1) = L - k + i := by omega
        have e2 : k + 1 - (i + 1) = k - i := by omega
        rw [e1] at h1
        rw [e2] at h2
        obtain ⟨i1, i2⟩ := ih (k - i) (by omega) (by omega) r d h2
        have le := h.le k i c (by omega) (by omega) h1
        refine ⟨by omega, fun e => ?_⟩
        obtain ⟨a1, a2, a3⟩ := pick_spec h (show k < L by omega)
        have ed : d = pr (k - i) := by omega
        have ok : okR C L pr k i = true := by
          unfold okR
          rw [h1]
          simp
          omega
        have ge := a3 i (by omega) ok
        rw [greedy]
        rcases Nat.lt_or_ge i (pickR C L pr k) with hl | hl
        · exact .inr (.inl (by omega))
        · have ei : i = pickR C L pr k := by omega
          rcases i2 ed with q | q
          · exact .inl (by rw [← ei, q])
          · exact .inr (.inr ⟨by rw [ei], by rw [← ei]; exact q⟩)
end
/-! ### all rows -/
def rowOk (k : Nat) (row : List Nat) : Prop := (∀ m ∈ row, 1 ≤ m) ∧ row.sum = k
theorem rowC_ok {C : Nat → Nat → Option Int} {L : Nat} : ∀ {row : List Nat} {k : Nat} {v : Int}, rowC C L k row = some v → rowOk k row
  | [], k, v, h => by
    rw [rowC] at h
    split at h
    · rename_i hz
      exact ⟨by simp, by simp [hz]⟩
    · cases h
  | m :: r, k, v, h => by
    obtain ⟨m1, m2, c, d, h1, h2, rfl⟩ := rowC_cons h
    obtain ⟨q1, q2⟩ := rowC_ok h2
    refine ⟨fun x hx => ?_, ?_⟩
    · rcases List.mem_cons.mp hx with rfl | hx
      · exact m1
      · exact q1 x hx
    · rw [List.sum_cons, q2]
      omega
/-- the last number one more -/
def more1 (row : List Nat) : List Nat := row.dropLast ++ [row.getLastD 0 + 1]
def brk : Nat → List (List Nat)
  | 0 => [[]]
  | 1 => [[1]]
  | k + 2 => (brk (k + 1)).map (· ++ [1]) ++ (brk (k + 1)).map more1
theorem snoc_of {α : Type} : ∀ {l : List α}, l ≠ [] → ∃ r x, l = r ++ [x]
  | l, h => ⟨l.dropLast, l.getLast h, (List.dropLast_concat_getLast h).symm⟩
end DV

set_option maxHeartbeats 4000000
namespace DV
open PySem
/-! The even lines. -/
theorem wp_while {c : Tx} {b : Sx} {N : K} (I : Nat → En → Sto → Prop)
    (hs : ∀ m σ S, I m σ S → (c σ S).wp (fun k S1 => if k = true then (b σ S1).wp { N with nx := fun σ2 S2 => ∃ m', m' < m ∧ I m' σ2 S2, ct := fun σ2 S2 => ∃ m', m' < m ∧ I m' σ2 S2, bk := N.nx } else N.nx σ S1) N.ex) :
    ∀ (n m : Nat) (σ : En) (S : Sto), m < n → I m σ S → (whileL c b n σ S).wp N := by
  intro n
  induction n with
  | zero => intro m σ S h; omega
  | succ n ih =>
    intro m σ S hm hi
    have z := hs m σ S hi
    unfold whileL
    cases hc : c σ S with
    | ok k S1 =>
      rw [hc] at z
      rw [run_ok]
      have z : if k = true then (b σ S1).wp _ else N.nx σ S1 := z
      by_cases hk : k = true
      · rw [if_pos hk] at z ⊢
        cases hb : b σ S1 with
        | nx σ2 S2 => rw [hb] at z; obtain ⟨m', h1, h2⟩ := z; exact ih m' σ2 S2 (by omega) h2
        | ct σ2 S2 => rw [hb] at z; obtain ⟨m', h1, h2⟩ := z; exact ih m' σ2 S2 (by omega) h2
        | bk σ2 S2 => rw [hb] at z; exact z
        | rt d S2 => rw [hb] at z; exact z
        | ex c S2 => rw [hb] at z; exact z
        | no => rw [hb] at z; exact z
      · rw [if_neg hk] at z ⊢
        exact z
    | ex c S1 => rw [hc] at z; exact z
    | no => rw [hc] at z; exact z
/-- the price of the last k words -/
def price (f : Face) (P : List Pair) (n : Int) (ws : List (List Nat)) (k : Nat) : Int := (prices f P n ws k).getD 0 0
theorem prices_get (f : Face) (P : List Pair) (n : Int) (ws : List (List Nat)) : ∀ k j, j ≤ k → (prices f P n ws k)[j]? = some (price f P n ws (k - j))
  | 0, j, h => by
    have : j = 0 := by omega
    subst this
    rfl
  | k + 1, 0, h => rfl
  | k + 1, j + 1, h => by
    rw [prices, List.getElem?_cons_succ, prices_get f P n ws k j (by omega)]
    congr 2
    omega
theorem prs {f : Face} {P : List Pair} {n : Int} {ws : List (List Nat)} (hw : ∀ w ∈ ws, wd f P w ≤ n) : Prs (cost f P n ws) ws.length (price f P n ws) := by
  have gd : ∀ k i, i ≤ k → (prices f P n ws k).getD i 0 = price f P n ws (k - i) := fun k i h => by
    rw [List.getD_eq_getElem?_getD, prices_get f P n ws k i h]
    rfl
  have pe : ∀ k v, bestL ((List.range (k + 1)).map fun i => (cost f P n ws (ws.length - (k + 1)) (ws.length - k + i)).map (· + (prices f P n ws k).getD i 0)) = some v → price f P n ws (k + 1) = v := fun k v h => by
    unfold price
    rw [prices, h]
    rfl
  refine ⟨rfl, fun k hk => ?_, fun k i c hk hi hc => ?_⟩
  · obtain ⟨v, pv⟩ := price_ok (P := P) hw hk
    have sp := bestL_spec ((List.range (k + 1)).map fun i => (cost f P n ws (ws.length - (k + 1)) (ws.length - k + i)).map (· + (prices f P n ws k).getD i 0))
    rw [pv] at sp
    obtain ⟨i, hi, e⟩ := List.mem_map.mp sp.1
    rw [Option.map_eq_some_iff] at e
    obtain ⟨c, h1, h2⟩ := e
    have hi : i ≤ k := by simp at hi; omega
    refine ⟨i, c, hi, h1, ?_⟩
    rw [pe k v pv, ← h2, gd k i hi]
  · obtain ⟨v, pv⟩ := price_ok (P := P) hw hk
    have sp := bestL_spec ((List.range (k + 1)).map fun i => (cost f P n ws (ws.length - (k + 1)) (ws.length - k + i)).map (· + (prices f P n ws k).getD i 0))
    rw [pv] at sp
    rw [pe k v pv, ← gd k i hi]
    exact sp.2 _ (List.mem_map.mpr ⟨i, by simp; omega, by rw [hc]; rfl⟩)
/-- the lines of a row of words, from one number on -/
def linesAt (ws : List (List Nat)) : Nat → List Nat → List (List (List Nat))
  | _, [] => []
  | a, m :: r => lnW ws a (a + m) :: linesAt ws (a + m) r
abbrev gRow (f : Face) (P : List Pair) (n : Int) (ws : List (List Nat)) (k : Nat) : List Nat := greedy (cost f P n ws) ws.length (price f P n ws) k
abbrev encN (ls : List (List (List Nat))) : List PyData := ls.map fun l => .str (st (jn l))
theorem evened_eq {f : Face} {P : List Pair} {ws : List (List Nat)} {n : Int} (h : Wds f ws) (nd : f.lets.Nodup) (b : ∀ c ∈ f.lets, 97 ≤ c ∧ c ≤ 122) (hn : 1 ≤ n ∧ n ≤ 999) (hW : Wid f P) (hw : ∀ w ∈ ws, wd f P w ≤ n) (S : Sto) :
    F_evened [.py f.py, .py (encP P), .py (tx (jn ws)), .py (.int n)] S = .ok (.py (.tuple (encN (linesAt ws 0 (gRow f P n ws ws.length))))) S := by
  have e1 := need_words_eq (P := P) h nd b hn hw
  have e2 := prices_of_eq (P := P) h nd (fun c hc => (b c hc).1) hn.2 hW hw
  have pg := prices_get f P n ws ws.length
  have pl := prices_len f P n ws ws.length
  have pp := prs (P := P) hw
  have few := h.few
  unfold F_evened b_evened
  refine fn_eq (wp_fn ?_)
  simp [init, e1, e2, whileS]
  rw [stL_nil]
  generalize prices f P n ws ws.length = ps at *
  refine wp_while (fun k σ T => ∃ done, k ≤ ws.length ∧ done ++ linesAt ws (ws.length - k) (gRow f P n ws k) = linesAt ws 0 (gRow f P n ws ws.length) ∧ done.length ≤ ws.length - k ∧
    wipeD σ [8, 9] = [some (D.py f.py), some (D.py (encP P)), some (D.py (tx (jn ws))), some (D.py (PyData.int n)), some (D.py (encW ws)), some (D.py (.list (ps.map PyData.int))), some (D.obj S.length), some (D.py (PyData.int ((ws.length - k : Nat) : Int))), none, none] ∧ T = stL S (encN done)) ?_ 1000000 ws.length _ _ (by omega) ⟨[], by simp, by simp, by simp, by simp, rfl⟩
  rintro k σ T ⟨done, hk, hd, hl, hσ, rfl⟩
  obtain ⟨_, _, rfl⟩ := slot2 hσ
  clear hσ
  cases k with
  | zero =>
    simp
    have e : done = linesAt ws 0 (gRow f P n ws ws.length) := by rw [← hd, gRow, greedy, linesAt]; simp
    rw [e]
    exact ⟨_, .stL, rfl, rfl, rfl⟩
  | succ k =>
    obtain ⟨a1, a2, a3⟩ := pick_spec pp (show k < ws.length by omega)
    have ha : ws.length - (k + 1) < ws.length := by omega
    have lt : ((ws.length - (k + 1) : Nat) : Int) < ws.length := by omega
    simp [lt, -wp_forL_cons]
    refine ⟨by omega, ?_⟩
    have em : ((ws.length : Int) + 1 - (((ws.length - (k + 1) : Nat) : Int) + 1)).toNat = k + 1 := by omega
    rw [em]
    refine wp_forL (fun pre σ T => (∀ j, j < pre.length → okR (cost f P n ws) ws.length (price f P n ws) k (k - j) = false) ∧
      wipeD σ [8, 9] = [some (D.py f.py), some (D.py (encP P)), some (D.py (tx (jn ws))), some (D.py (PyData.int n)), some (D.py (encW ws)), some (D.py (.list (ps.map PyData.int))), some (D.obj S.length), some (D.py (PyData.int ((ws.length - (k + 1) : Nat) : Int))), none, none] ∧ T = stL S (encN done)) ⟨by simp, rfl, rfl⟩ ?_ ?_
    · rintro pre x post σ T e ⟨hno, hσ, rfl⟩
      obtain ⟨_, _, rfl⟩ := slot2 hσ
      clear hσ
      have lx : pre.length < k + 1 ∧ x = .py (.int ((ws.length - k + (k - pre.length) : Nat) : Int)) := by
        have l := congrArg List.length e
        have g := congrArg (fun l => l[pre.length]?) e
        simp [rngV] at l
        have lt : pre.length < k + 1 := by omega
        refine ⟨lt, ?_⟩
        rw [List.getElem?_append_right (Nat.le_refl _), Nat.sub_self, List.getElem?_cons_zero, List.getElem?_reverse (by simp [rngV]; omega)] at g
        simp [rngV] at g
        obtain ⟨u, hu, rfl⟩ := g
        rw [List.getElem?_range (by omega)] at hu
        cases hu
        congr 2
        omega
      obtain ⟨lp, rfl⟩ := lx
      simp only [List.length_append, List.length_singleton]
      obtain ⟨p, hp⟩ : ∃ p, pre.length = p := ⟨_, rfl⟩
      simp only [hp] at lp hno ⊢
      clear e hp
      have ce := cost_in_eq (P := P) (n := n) (a := ws.length - (k + 1)) (b := ws.length - k + (k - p)) h nd (fun c hc => (b c hc).1) (by omega) (by omega) hn.2 hW
      have le := line_of_eq (a := ws.length - (k + 1)) (b := ws.length - k + (k - p)) h (by omega) (by omega)
      have i1 : ∀ T, itemD (.py (.list (ps.map PyData.int))) (.py (.int ((ws.length - k + (k - p) : Nat) : Int))) T = .ok (.py (.int (price f P n ws p))) T := fun T => by
        refine itemD_list _ ?_
        rw [List.getElem?_map, pg _ (by omega)]
        simp only [Option.map_some]
        congr 3
        omega
      have i2 : ∀ T, itemD (.py (.list (ps.map PyData.int))) (.py (.int ((ws.length - (k + 1) : Nat) : Int))) T = .ok (.py (.int (price f P n ws (k + 1)))) T := fun T => by
        refine itemD_list _ ?_
        rw [List.getElem?_map, pg _ (by omega)]
        simp only [Option.map_some]
        congr 3
        omega
      have ok : okR (cost f P n ws) ws.length (price f P n ws) k (k - p) = match cost f P n ws (ws.length - (k + 1)) (ws.length - k + (k - p)) with
        | some c => decide (c + price f P n ws p = price f P n ws (k + 1))
        | none => false := by
        unfold okR
        have : k - (k - p) = p := by omega
        rw [this] <;> rfl
      have ho : ∀ q : okR (cost f P n ws) ws.length (price f P n ws) k (k - p) = false, ∀ j, j < p + 1 → okR (cost f P n ws) ws.length (price f P n ws) k (k - j) = false := fun q j hj => by
        rcases Nat.lt_or_ge j p with h1 | h1
        · exact hno j h1
        · have : j = p := by omega
          rw [this]
          exact q
      generalize hbe : ws.length - k + (k - p) = be at *
      cases hc : cost f P n ws (ws.length - (k + 1)) be with
      | none =>
        rw [hc] at ce ok
        simp [ce]
        exact ho ok
      | some c =>
        rw [hc] at ce ok
        by_cases hq : c + price f P n ws p = price f P n ws (k + 1)
        · have ok1 : okR (cost f P n ws) ws.length (price f P n ws) k (k - p) = true := by rw [ok]; simp [hq]
          have ep : k - p = pickR (cost f P n ws) ws.length (price f P n ws) k := by
            have g1 := a3 _ (by omega) ok1
            rcases Nat.lt_or_ge (k - p) (pickR (cost f P n ws) ws.length (price f P n ws) k) with h1 | h1
            · have := hno (k - pickR (cost f P n ws) ws.length (price f P n ws) k) (by omega)
              have e2 : k - (k - pickR (cost f P n ws) ws.length (price f P n ws) k) = pickR (cost f P n ws) ws.length (price f P n ws) k := by omega
              rw [e2, a1] at this
              cases this
            · omega
          have ap := stL_app (S := S) (ds := encN done) (d := tx (jn (lnW ws (ws.length - (k + 1)) be))) (by rw [List.length_map, sl_big']; omega)
          simp [ce, i1, i2, hq, le, ap]
          refine ⟨p, by omega, by omega, done ++ [lnW ws (ws.length - (k + 1)) be], ?_, ?_, ?_, ?_⟩
          · rw [← hd]
            have eg : gRow f P n ws (k + 1) = (pickR (cost f P n ws) ws.length (price f P n ws) k + 1) :: gRow f P n ws (k - pickR (cost f P n ws) ws.length (price f P n ws) k) := by rw [gRow, greedy]
            rw [eg, ← ep, linesAt]
            have e1 : ws.length - (k + 1) + (k - p + 1) = be := by omega
            have e2 : ws.length - p = be := by omega
            have e3 : k - (k - p) = p := by omega
            rw [e1, e2, e3]
            simp
          · simp
            omega
          · have e2 : be = ws.length - p := by omega
            rw [e2]
          · simp
        · simp [ce, i1, i2, hq]
          exact ho (by rw [ok]; simp [hq])
    · rintro σ T ⟨hno, _, _⟩
      exfalso
      have := hno (k - pickR (cost f P n ws) ws.length (price f P n ws) k) (by simp [rngV]; omega)
      have e2 : k - (k - pickR (cost f P n ws) ws.length (price f P n ws) k) = pickR (cost f P n ws) ws.length (price f P n ws) k := by omega
      rw [e2, a1] at this
      cases this
end DV

set_option maxHeartbeats 4000000
namespace DV
open PySem
/-! All breakings gone through: the least one. -/
theorem shows_even_eq {f : Face} {P : List Pair} {ws : List (List Nat)} {n : Int} (h : Wds f ws) (nd : f.lets.Nodup) (b : ∀ c ∈ f.lets, 97 ≤ c ∧ c ≤ 122) (hn : 1 ≤ n ∧ n ≤ 999) (hW : Wid f P) (hw : ∀ w ∈ ws, wd f P w ≤ n) (S : Sto) :
    F_shows_even [.py f.py, .py (encP P), .py (tx (jn ws)), .py (.int n)] S = .ok (.py (.tuple ((prices f P n ws ws.length).map PyData.int))) S := by
  have e1 := need_words_eq (P := P) h nd b hn hw
  have e2 := prices_of_eq (P := P) h nd (fun c hc => (b c hc).1) hn.2 hW hw
  unfold F_shows_even b_shows_even
  refine fn_eq (wp_fn ?_)
  simp [init, e1, e2]
  exact ⟨.self, rfl⟩
theorem rowOk.le {k : Nat} {r : List Nat} (h : rowOk k r) : r.length ≤ k := by
  have : ∀ (r : List Nat), (∀ m ∈ r, 1 ≤ m) → r.length ≤ r.sum := by
    intro r
    induction r with
    | nil => simp
    | cons x xs ih =>
      intro q
      have h1 := q x (List.mem_cons_self ..)
      have h2 := ih fun m hm => q m (List.mem_cons_of_mem _ hm)
      rw [List.length_cons, List.sum_cons]
      omega
  have := this r h.1
  rw [h.2] at this
  exact this
/-- the room of each line -/
def roomsOf (f : Face) (P : List Pair) (n : Int) (ls : List (List (List Nat))) : List Int := ls.map fun l => n - wd f P (jn l)
theorem rowC_rooms {f : Face} {P : List Pair} {n : Int} {ws : List (List Nat)} : ∀ {row : List Nat} {k : Nat}, k ≤ ws.length → rowOk k row →
    rowC (cost f P n ws) ws.length k row = if ∀ r ∈ roomsOf f P n (linesAt ws (ws.length - k) row), 0 ≤ r then some (((roomsOf f P n (linesAt ws (ws.length - k) row)).dropLast.map fun r => r * r).sum) else none
  | [], k, hk, h => by
    have : k = 0 := h.2.symm
    subst this
    simp [rowC, linesAt, roomsOf]
  | m :: r, k, hk, h => by
    have h2 := h.2
    rw [List.sum_cons] at h2
    have hm := h.1 m (List.mem_cons_self ..)
    have hr : rowOk (k - m) r := ⟨fun x hx => h.1 x (List.mem_cons_of_mem _ hx), by omega⟩
    have ih := rowC_rooms (f := f) (P := P) (n := n) (ws := ws) (row := r) (k := k - m) (by omega) hr
    have ea : ws.length - k + m = ws.length - (k - m) := by omega
    rw [rowC, if_pos ⟨hm, by omega⟩, linesAt, ea]
    have eR : roomsOf f P n (lnW ws (ws.length - k) (ws.length - (k - m)) :: linesAt ws (ws.length - (k - m)) r) = (n - wd f P (jn (lnW ws (ws.length - k) (ws.length - (k - m))))) :: roomsOf f P n (linesAt ws (ws.length - (k - m)) r) := rfl
    rw [eR, ih]
    have eN : r = [] ↔ roomsOf f P n (linesAt ws (ws.length - (k - m)) r) = [] := by
      cases r with
      | nil => simp [linesAt, roomsOf]
      | cons x xs => simp [linesAt, roomsOf]
    have eL : (ws.length - (k - m) = ws.length) ↔ r = [] := by
      constructor
      · intro e
        cases r with
        | nil => rfl
        | cons x xs =>
          have := hr.1 x (List.mem_cons_self ..)
          have := hr.2
          rw [List.sum_cons] at this
          omega
      · intro e
        subst e
        have := hr.2
        simp at this
        omega
    unfold cost
    generalize roomsOf f P n (linesAt ws (ws.length - (k - m)) r) = R at *
    generalize n - wd f P (jn (lnW ws (ws.length - k) (ws.length - (k - m)))) = x at *
    by_cases hx : x < 0
    · have h0 : ¬ ∀ r ∈ x :: R, 0 ≤ r := fun q => by
        have := q x (List.mem_cons_self ..)
        omega
      rw [if_pos hx, if_neg h0]
    · rw [if_neg hx]
      by_cases hR : ∀ r ∈ R, 0 ≤ r
      · have hR2 : ∀ r ∈ x :: R, 0 ≤ r := fun r hr => by
          rcases List.mem_cons.mp hr with rfl | hr
          · omega
          · exact hR r hr
        rw [if_pos hR, if_pos hR2]
        by_cases h0 : r = []
        · have hR0 := eN.mp h0
          subst hR0
          rw [if_pos (eL.mpr h0)]
          simp
        · have hR0 : R ≠ [] := fun e => h0 (eN.mpr e)
          rw [if_neg fun e => h0 (eL.mp e)]
          rw [List.dropLast_cons_of_ne_nil hR0]
          simp
      · have hR2 : ¬ ∀ r ∈ x :: R, 0 ≤ r := fun q => hR fun r hr => q r (List.mem_cons_of_mem _ hr)
        rw [if_neg hR, if_neg hR2]
        by_cases h0 : r = []
        · rw [if_pos (eL.mpr h0)]
        · rw [if_neg fun e => h0 (eL.mp e)]
/-- what the law keeps of a row -/
def encB (c : Int) (row : List Nat) (ls : List (List (List Nat))) : PyData := .tuple [.int c, .list (row.map fun (m : Nat) => .int (-(m : Int))), .list (encN ls)]
theorem neg_lex : ∀ {a b : List Nat}, ahead a b →
    PyData.eqvAll (a.map fun (m : Nat) => .int (-(m : Int))) (b.map fun (m : Nat) => .int (-(m : Int))) = false ∧ PyData.eqvAll (b.map fun (m : Nat) => .int (-(m : Int))) (a.map fun (m : Nat) => .int (-(m : Int))) = false ∧
    PySem.W.dataLt (.list (a.map fun (m : Nat) => .int (-(m : Int)))) (.list (b.map fun (m : Nat) => .int (-(m : Int)))) = true ∧ PySem.W.dataLt (.list (b.map fun (m : Nat) => .int (-(m : Int)))) (.list (a.map fun (m : Nat) => .int (-(m : Int)))) = false
  | x :: xs, y :: ys, h => by
    rw [PySem.W.dataLt_list, PySem.W.dataLt_list]
    simp only [List.map_cons]
    by_cases hxy : x = y
    · subst hxy
      have ha : ahead xs ys := by
        rcases h with h | ⟨_, h⟩
        · omega
        · exact h
      obtain ⟨i1, i2, i3, i4⟩ := neg_lex ha
      have e : PyData.eqv (.int (-(x : Int))) (.int (-(x : Int))) = true := by simp [PyData.eqv]
      rw [PySem.W.dataLt_all_yes rfl e, PySem.W.dataLt_all_yes rfl e, PySem.W.eqv_all_cons, PySem.W.eqv_all_cons, e, i1, i2]
      rw [PySem.W.dataLt_list] at i3 i4
      exact ⟨rfl, rfl, i3, i4⟩
    · have hl : y < x := by
        rcases h with h | ⟨h, _⟩
        · exact h
        · exact absurd h hxy
      have e1 : PyData.eqv (.int (-(x : Int))) (.int (-(y : Int))) = false := by simp [PyData.eqv]; omega
      have e2 : PyData.eqv (.int (-(y : Int))) (.int (-(x : Int))) = false := by simp [PyData.eqv]; omega
      rw [PySem.W.dataLt_all_no rfl e1, PySem.W.dataLt_all_no rfl e2, PySem.W.eqv_all_cons, PySem.W.eqv_all_cons, e1, e2, PySem.W.dataLt_int, PySem.W.dataLt_int]
      refine ⟨rfl, rfl, ?_, ?_⟩
      · simp; omega
      · simp; omega
theorem alike_ints : ∀ (a b : List Nat), PySem.W.alikeAll (a.map fun (m : Nat) => .int (-(m : Int))) (b.map fun (m : Nat) => .int (-(m : Int))) = true
  | [], _ => by simp [PySem.W.alikeAll]
  | x :: xs, [] => by simp [PySem.W.alikeAll]
  | x :: xs, y :: ys => by
    rw [List.map_cons, List.map_cons, PySem.W.alikeAll, alike_ints xs ys]
    rfl
/-- cheaper, or as cheap with more words ahead -/
theorem encB_lt {c d : Int} {a b : List Nat} {l m : List (List (List Nat))} (h : c < d ∨ (c = d ∧ ahead a b)) : PySem.W.dataLt (encB c a l) (encB d b m) = true ∧ PySem.W.dataLt (encB d b m) (encB c a l) = false := by
  unfold encB
  rw [PySem.W.dataLt_tuple, PySem.W.dataLt_tuple]
  by_cases hc : c = d
  · subst hc
    have ha : ahead a b := by
      rcases h with h | ⟨_, h⟩
      · omega
      · exact h
    obtain ⟨i1, i2, i3, i4⟩ := neg_lex ha
    have e : PyData.eqv (.int c) (.int c) = true := by simp [PyData.eqv]
    rw [PySem.W.dataLt_all_yes rfl e, PySem.W.dataLt_all_yes rfl e]
    rw [PySem.W.dataLt_all_no (by simpa [PySem.W.alike] using alike_ints a b) (by simpa [PyData.eqv] using i1), PySem.W.dataLt_all_no (by simpa [PySem.W.alike] using alike_ints b a) (by simpa [PyData.eqv] using i2)]
    exact ⟨i3, i4⟩
  · have hl : c < d := by
      rcases h with h | ⟨h, _⟩
      · exact h
      · exact absurd h hc
    have e1 : PyData.eqv (.int c) (.int d) = false := by simp [PyData.eqv]; omega
    have e2 : PyData.eqv (.int d) (.int c) = false := by simp [PyData.eqv]; omega
    rw [PySem.W.dataLt_all_no rfl e1, PySem.W.dataLt_all_no rfl e2, PySem.W.dataLt_int, PySem.W.dataLt_int]
    refine ⟨?_, ?_⟩
    · simp; omega
    · simp; omega
theorem flat_all : ∀ {ds : List PyData}, (∀ d ∈ ds, d.hasDict = false ∧ d.depth = 0) → PyData.hasDictAll ds = false ∧ PyData.depthAll ds = 0
  | [], _ => ⟨PyData.hasDictAll.eq_1, PyData.depthAll.eq_1⟩
  | d :: ds, h => by
    have h1 := h d (List.mem_cons_self ..)
    have h2 := flat_all fun e he => h e (List.mem_cons_of_mem _ he)
    rw [PyData.hasDictAll.eq_2, PyData.depthAll.eq_2, h1.1, h1.2, h2.1, h2.2]
    exact ⟨rfl, rfl⟩
/-- each line is the words from one number to another -/
theorem linesAt_ln {ws : List (List Nat)} : ∀ {row : List Nat} {a : Nat} {l : List (List Nat)}, l ∈ linesAt ws a row → ∃ x y, l = lnW ws x y
  | [], a, l, h => by simp [linesAt] at h
  | m :: r, a, l, h => by
    rw [linesAt] at h
    rcases List.mem_cons.mp h with rfl | h
    · exact ⟨_, _, rfl⟩
    · exact linesAt_ln h
theorem linesAt_len {ws : List (List Nat)} : ∀ {row : List Nat} {a : Nat}, (linesAt ws a row).length = row.length
  | [], a => rfl
  | m :: r, a => by rw [linesAt, List.length_cons, List.length_cons, linesAt_len]
theorem ints_lay : ∀ R : List Int, PyData.canLayAll0 (R.map PyData.int) = true
  | [] => PyData.canLayAll0.eq_1
  | x :: xs => by rw [List.map_cons, PyData.canLayAll0.eq_2, ints_lay xs, PyData.canLay0.eq_3]; rfl
theorem ints_depth (R : List Int) : PyData.depthAll (R.map PyData.int) = 0 := (flat_all fun d hd => by
    obtain ⟨m, _, rfl⟩ := List.mem_map.mp hd
    exact ⟨PyData.hasDict.eq_3 _, PyData.depth.eq_6 _⟩).2
theorem ints_shaped (R : List Int) : SeqAt.shaped (.list (R.map PyData.int)) = true := by
  unfold SeqAt.shaped
  rw [PyData.canLay0.eq_5, ints_lay, PyData.depth.eq_1, ints_depth]
  rfl
section
variable (f : Face) (P : List Pair) (n : Int) (ws : List (List Nat))
abbrev rowV (r : List Nat) : Option Int := rowC (cost f P n ws) ws.length ws.length r
abbrev encV (r : List Nat) : PyData := encB ((rowV f P n ws r).getD 0) r (linesAt ws 0 r)
def nextB (st : Option (List Nat)) (r : List Nat) : Option (List Nat) := if rowV f P n ws r = none then st else match st with
  | none => some r
  | some b => if PySem.W.dataLt (encV f P n ws r) (encV f P n ws b) = true then some r else some b
end
section
variable {f : Face} {P : List Pair} {n : Int} {ws : List (List Nat)}
theorem encV_lt (hw : ∀ w ∈ ws, wd f P w ≤ n) {b : List Nat} (hb : rowV f P n ws b ≠ none) (ne : b ≠ gRow f P n ws ws.length) :
    PySem.W.dataLt (encV f P n ws (gRow f P n ws ws.length)) (encV f P n ws b) = true ∧ PySem.W.dataLt (encV f P n ws b) (encV f P n ws (gRow f P n ws ws.length)) = false := by
  have pp := prs (P := P) hw
  obtain ⟨v, hv⟩ := Option.ne_none_iff_exists'.mp hb
  obtain ⟨l1, l2⟩ := greedy_least pp _ (Nat.le_refl _) b v hv
  have gc := greedy_cost pp _ (Nat.le_refl ws.length)
  unfold encV
  rw [hv, show rowV f P n ws (gRow f P n ws ws.length) = _ from gc]
  refine encB_lt ?_
  simp only [Option.getD_some]
  by_cases hq : v = price f P n ws ws.length
  · rcases l2 hq with q | q
    · exact absurd q ne
    · exact .inr ⟨hq.symm, q⟩
  · exact .inl (by omega)
/-- the best so far: once the greedy row has been seen it stays -/
structure BInv (f : Face) (P : List Pair) (n : Int) (ws : List (List Nat)) (pre : List (List Nat)) (st : Option (List Nat)) : Prop where
  seen : gRow f P n ws ws.length ∈ pre → st = some (gRow f P n ws ws.length)
  fit : ∀ b, st = some b → rowV f P n ws b ≠ none
theorem BInv.next (hw : ∀ w ∈ ws, wd f P w ≤ n) {pre : List (List Nat)} {st : Option (List Nat)} (h : BInv f P n ws pre st) (r : List Nat) : BInv f P n ws (pre ++ [r]) (nextB f P n ws st r) := by
  have pp := prs (P := P) hw
  have gc : rowV f P n ws (gRow f P n ws ws.length) = some _ := greedy_cost pp _ (Nat.le_refl ws.length)
  by_cases hr : rowV f P n ws r = none
  · have ng : r ≠ gRow f P n ws ws.length := fun e => by rw [e, gc] at hr; cases hr
    unfold nextB
    rw [if_pos hr]
    refine ⟨fun m => ?_, h.fit⟩
    rcases List.mem_append.mp m with m | m
    · exact h.seen m
    · rw [List.mem_singleton] at m
      exact absurd m.symm ng
  · unfold nextB
    rw [if_neg hr]
    cases st with
    | none =>
      refine ⟨fun m => ?_, fun b e => by cases e; exact hr⟩
      rcases List.mem_append.mp m with m | m
      · have := h.seen m
        cases this
      · rw [List.mem_singleton] at m
        rw [m]
    | some b =>
      have hb := h.fit b rfl
      by_cases ng : r = gRow f P n ws ws.length
      · by_cases nb : b = gRow f P n ws ws.length
        · rw [ng, nb]
          simp only [ite_self]
          exact ⟨fun _ => rfl, fun b e => by cases e; rw [gc]; simp⟩
        · rw [ng]
          simp only
          rw [if_pos (encV_lt hw hb nb).1]
          exact ⟨fun _ => rfl, fun b e => by cases e; rw [gc]; simp⟩
      · refine ⟨fun m => ?_, fun c e => ?_⟩
        · rcases List.mem_append.mp m with m | m
          · have e := h.seen m
            cases e
            simp only
            rw [(encV_lt hw hr ng).2]
            rfl
          · rw [List.mem_singleton] at m
            exact absurd m.symm ng
        · simp only at e
          split at e
          · cases e
            exact hr
          · cases e
            exact hb
end
end DV

set_option maxHeartbeats 4000000
namespace DV
open PySem
/-! Lines that take words as long as they fit are the fewest. -/
theorem jn_app : ∀ {a b : List (List Nat)}, a ≠ [] → b ≠ [] → jn (a ++ b) = jn a ++ 32 :: jn b
  | [], b, h, _ => absurd rfl h
  | [w], b, _, hb => by
    cases b with
    | nil => exact absurd rfl hb
    | cons x b => rfl
  | w :: v :: r, b, _, hb => by
    have ih := jn_app (a := v :: r) (by simp) hb
    show w ++ 32 :: jn ((v :: r) ++ b) = (w ++ 32 :: jn (v :: r)) ++ 32 :: jn b
    rw [ih]
    simp
section
variable {f : Face} {P : List Pair} {n : Int}
def GW (f : Face) (ws : List (List Nat)) : Prop := ∀ w ∈ ws, w ≠ [] ∧ ∀ c ∈ w, c ∈ f.lets
theorem GW.app {a b : List (List Nat)} (h : GW f (a ++ b)) : GW f a ∧ GW f b := ⟨fun w hw => h w (List.mem_append_left _ hw), fun w hw => h w (List.mem_append_right _ hw)⟩
theorem jn_ne {a : List (List Nat)} (h : GW f a) (h0 : a ≠ []) : jn a ≠ [] := fun e => h0 ((jn_nil fun w hw => (h w hw).1).mp e)
theorem wd_jnapp {a b : List (List Nat)} (h : GW f (a ++ b)) (ha : a ≠ []) (hb : b ≠ []) : wd f P (jn (a ++ b)) = wd f P (jn a) + f.w + wd f P (jn b) := by
  rw [jn_app ha hb, wd_app f P _ _ (jn_ne h.app.1 ha) (jn_ne h.app.2 hb)]
def fillGS (f : Face) (P : List Pair) (n : Int) (gs : List (List (List Nat))) (w : List Nat) : List (List (List Nat)) := match gs.getLast? with
  | some g => if wd f P (jn g ++ 32 :: w) ≤ n then gs.dropLast ++ [g ++ [w]] else gs ++ [[w]]
  | none => gs ++ [[w]]
def fillG (f : Face) (P : List Pair) (n : Int) (ws : List (List Nat)) : List (List (List Nat)) := ws.foldl (fillGS f P n) []
theorem fillG_snoc (ws : List (List Nat)) (w : List Nat) : fillG f P n (ws ++ [w]) = fillGS f P n (fillG f P n ws) w := by
  unfold fillG
  rw [List.foldl_append]
  rfl
theorem fillGS_cons {ys : List (List (List Nat))} {g : List (List Nat)} {w : List Nat} : fillGS f P n (ys ++ [g]) w = if wd f P (jn g ++ 32 :: w) ≤ n then ys ++ [g ++ [w]] else ys ++ [g] ++ [[w]] := by
  unfold fillGS
  rw [List.getLast?_append]
  simp
theorem fillG_is : ∀ ws : List (List Nat), (fillG f P n ws).map jn = fill f P n ws ∧ (fillG f P n ws).flatten = ws ∧ ∀ g ∈ fillG f P n ws, g ≠ [] := by
  refine snoc_ind ⟨rfl, rfl, by simp [fillG]⟩ fun ws w ⟨h1, h2, h3⟩ => ?_
  rw [fillG_snoc, fill_snoc]
  by_cases hg : fillG f P n ws = []
  · rw [hg] at h1 h2 ⊢
    rw [← h1, ← h2]
    simp [fillGS, fillS, jn]
  · obtain ⟨ys, g, e⟩ := snoc_of hg
    rw [e] at h1 h2 h3 ⊢
    have hgn := h3 g (by simp)
    rw [fillGS_cons, ← h1, List.map_append, List.map_cons, List.map_nil, fillS_cons]
    split
    · refine ⟨by simp [jn_app hgn, jn], by rw [← h2]; simp, fun y hy => ?_⟩
      rcases List.mem_append.mp hy with hy | hy
      · exact h3 y (List.mem_append_left _ hy)
      · rw [List.mem_singleton.mp hy]
        simp
    · refine ⟨by simp [jn], by rw [← h2]; simp, fun y hy => ?_⟩
      rcases List.mem_append.mp hy with hy | hy
      · exact h3 y hy
      · rw [List.mem_singleton.mp hy]
        simp
/-- groups of all the words, each fits -/
structure Grp (f : Face) (P : List Pair) (n : Int) (ws : List (List Nat)) (gs : List (List (List Nat))) : Prop where
  fl : gs.flatten = ws
  ne : ∀ g ∈ gs, g ≠ []
  fit : ∀ g ∈ gs, wd f P (jn g) ≤ n
theorem few_lines (hW : Wid f P) : ∀ ws : List (List Nat), GW f ws → ∀ gs, Grp f P n ws gs →
    (fillG f P n ws).length < gs.length ∨ ((fillG f P n ws).length = gs.length ∧ ((fillG f P n ws).getLastD []).length ≤ (gs.getLastD []).length) := by
  refine snoc_ind (Q := fun ws => GW f ws → ∀ gs, Grp f P n ws gs → (fillG f P n ws).length < gs.length ∨ ((fillG f P n ws).length = gs.length ∧ ((fillG f P n ws).getLastD []).length ≤ (gs.getLastD []).length)) ?_ ?_
  · intro _ gs h
    cases gs with
    | nil => exact .inr ⟨rfl, Nat.le_refl _⟩
    | cons g gs => exact .inl (by simp [fillG])
  · intro ws w ih gw gs h
    obtain ⟨hg1, hg2⟩ := gw.app
    have fi := fillG_is (f := f) (P := P) (n := n) ws
    have hne : gs ≠ [] := fun e => by
      have := h.fl
      rw [e] at this
      simp at this
    obtain ⟨gs1, gl, rfl⟩ := snoc_of hne
    have hgl := h.ne gl (by simp)
    obtain ⟨g0, w', rfl⟩ := snoc_of hgl
    have efl := h.fl
    simp only [List.flatten_append, List.flatten_cons, List.flatten_nil, List.append_nil] at efl
    rw [← List.append_assoc] at efl
    obtain ⟨e1, e2⟩ := List.append_inj' efl rfl
    have e2 : w' = w := by simpa using e2
    subst e2
    rw [fillG_snoc]
    have step : (fillGS f P n (fillG f P n ws) w').length ≤ (fillG f P n ws).length + 1 ∧ ((fillGS f P n (fillG f P n ws) w').length = (fillG f P n ws).length + 1 → ((fillGS f P n (fillG f P n ws) w').getLastD []).length = 1) := by
      cases hf : fillG f P n ws with
      | nil => simp [fillGS]
      | cons x xs =>
        obtain ⟨ys, g, e⟩ := snoc_of (l := fillG f P n ws) (by rw [hf]; simp)
        rw [← hf, e, fillGS_cons]
        split
        · simp
        · simp
    by_cases h0 : g0 = []
    · subst h0
      have hG : Grp f P n ws gs1 := ⟨by simpa using e1, fun g hg => h.ne g (List.mem_append_left _ hg), fun g hg => h.fit g (List.mem_append_left _ hg)⟩
      have := ih hg1 gs1 hG
      have hl : (gs1 ++ [[] ++ [w']]).length = gs1.length + 1 := by simp
      have hl2 : ((gs1 ++ [[] ++ [w']]).getLastD []).length = 1 := by simp
      rw [hl, hl2]
      rcases Nat.lt_or_ge (fillGS f P n (fillG f P n ws) w').length (gs1.length + 1) with q | q
      · exact .inl q
      · have : (fillGS f P n (fillG f P n ws) w').length = (fillG f P n ws).length + 1 := by omega
        exact .inr ⟨by omega, by rw [step.2 this]; exact Nat.le_refl _⟩
    · have hgw : GW f (g0 ++ [w']) := fun x hx => gw x (by
        rw [← e1]
        rcases List.mem_append.mp hx with hx | hx
        · simp [hx]
        · simp [List.mem_singleton.mp hx])
      have hw' := hgw w' (by simp)
      have w10 := (wd_bnd hW hw'.1 hw'.2).1
      have fw := hW.w
      have hG : Grp f P n ws (gs1 ++ [g0]) := by
        refine ⟨by simpa using e1, fun g hg => ?_, fun g hg => ?_⟩
        · rcases List.mem_append.mp hg with hg | hg
          · exact h.ne g (List.mem_append_left _ hg)
          · rw [List.mem_singleton.mp hg]
            exact h0
        · rcases List.mem_append.mp hg with hg | hg
          · exact h.fit g (List.mem_append_left _ hg)
          · rw [List.mem_singleton.mp hg]
            have q := h.fit (g0 ++ [w']) (by simp)
            rw [wd_jnapp hgw h0 (by simp)] at q
            simp only [jn] at q
            omega
      have hI := ih hg1 _ hG
      have hl : (gs1 ++ [g0 ++ [w']]).length = gs1.length + 1 := by simp
      have hl2 : ((gs1 ++ [g0 ++ [w']]).getLastD []).length = g0.length + 1 := by simp
      have hl3 : (gs1 ++ [g0]).length = gs1.length + 1 := by simp
      have hl4 : ((gs1 ++ [g0]).getLastD []).length = g0.length := by simp
      rw [hl3, hl4] at hI
      rw [hl, hl2]
      rcases hI with hI | ⟨hI1, hI2⟩
      · rcases Nat.lt_or_ge (fillGS f P n (fillG f P n ws) w').length (gs1.length + 1) with q | q
        · exact .inl q
        · have : (fillGS f P n (fillG f P n ws) w').length = (fillG f P n ws).length + 1 := by omega
          exact .inr ⟨by omega, by rw [step.2 this]; omega⟩
      · obtain ⟨ys, k, e⟩ := snoc_of (l := fillG f P n ws) (fun e => by rw [e] at hI1; simp at hI1)
        rw [e] at hI2 hI1 ⊢
        rw [fillGS_cons]
        have hk : k ≠ [] := fi.2.2 k (by rw [e]; simp)
        have hkl : k.length ≤ g0.length := by simpa using hI2
        have ek : (ys.flatten ++ k) = gs1.flatten ++ g0 := by
          have := fi.2.1
          rw [e] at this
          simp at this
          rw [this, e1]
        -- k is a suffix of g0
        obtain ⟨d, hd⟩ : ∃ d, g0 = d ++ k := by
          have hs1 : k <:+ gs1.flatten ++ g0 := ⟨_, ek⟩
          have hs2 : g0 <:+ gs1.flatten ++ g0 := ⟨_, rfl⟩
          obtain ⟨d, hd⟩ := List.suffix_of_suffix_length_le hs1 hs2 hkl
          exact ⟨d, hd.symm⟩
        have hfit : wd f P (jn k ++ 32 :: w') ≤ n := by
          have q := h.fit (g0 ++ [w']) (by simp)
          have ej : jn k ++ 32 :: w' = jn (k ++ [w']) := by rw [jn_app hk (by simp)]; rfl
          rw [ej]
          by_cases hd0 : d = []
          · rw [hd, hd0] at q
            exact q
          · rw [hd, List.append_assoc] at q hgw
            rw [wd_jnapp hgw hd0 (by simp)] at q
            have := wd_jn (P := P) hW (ws := d) hgw.app.1
            omega
        rw [if_pos hfit]
        refine .inr ⟨by simpa using hI1, by simp; exact hkl⟩
end
end DV

set_option maxHeartbeats 4000000
namespace DV
open PySem
/-! Lines that are widened; what lines cost. -/
/-- the blanks of m + 1 words, so much room over -/
def blanks (w room : Int) (m : Nat) : List Int := (List.range m).map fun i : Nat => w + room / (m : Int) + (if (i : Int) < room % (m : Int) then 1 else 0)
theorem spread_eq {f : Face} {P : List Pair} {ws : List (List Nat)} {n : Int} (h : Wds f ws) (nd : f.lets.Nodup) (b : ∀ c ∈ f.lets, 97 ≤ c ∧ c ≤ 122) (hn : 1 ≤ n ∧ n ≤ 999) {m : Nat} (hm : ws.length = m + 1) (h1 : 1 ≤ m) (hw : wd f P (jn ws) ≤ n) (S : Sto) :
    F_spread [.py f.py, .py (encP P), .py (tx (jn ws)), .py (.int n)] S = .ok (.py (.tuple ((blanks f.w (n - wd f P (jn ws)) m).map .int))) S := by
  have e1 := words_of_eq h b
  have e2 := need_wide_eq hn
  have e3 := room_of_eq (P := P) (n := n) nd (jn_has h.mem) (fun c hc => (b c hc).1) h.len
  have ll : ∀ T, lenD [.py (encW ws)] T = .ok (.py (.int (ws.length : Nat))) T := fun T => by simp [lenD, seqOf]
  have i0 : ∀ T, itemD (.py f.py) (.py (.int 0)) T = .ok (.py (.int f.w)) T := fun T => itemD_tupleI (by decide) rfl
  have hf := h.few
  obtain ⟨room, hr⟩ : ∃ room, room = n - wd f P (jn ws) := ⟨_, rfl⟩
  rw [← hr]
  simp only [← hr] at e3
  have r0 : ¬ room < 0 := by omega
  have dm : ∀ T, divmodD [.py (.int room), .py (.int (m : Int))] T = .ok (.py (.tuple [.int (room / (m : Int)), .int (room % (m : Int))])) T := fun T => by
    show (if 0 < (m : Int) ∧ (m : Int) < 1073741824 then _ else _) = _
    rw [if_pos (by omega)]
  have l1 : ∀ T, subD (.py (.int ((ws.length : Nat) : Int))) (.py (.int 1)) T = .ok (.py (.int (m : Int))) T := fun T => by
    show DV.R.ok _ _ = _
    rw [hm]
    congr 3
    omega
  have l2 : ¬ ((ws.length : Int) < 2) := by omega
  have tt : ∀ ds T, tupleD [.py (.list ds)] T = .ok (.py (.tuple ds)) T := fun ds T => by simp [tupleD, seqOf]
  unfold F_spread b_spread
  refine fn_eq (wp_fn ?_)
  simp [init, e1, e2, e3, r0, ll, l1, l2, dm, i0, pysOf, rngV]
  refine ⟨by omega, ?_⟩
  refine wp_pureM1 (fun i : Nat => D.py (.int (i : Int))) (fun i : Nat => D.py (.int (f.w + room / (m : Int) + (if (i : Int) < room % (m : Int) then 1 else 0)))) (fun i hi => ?_) ?_
  · have lt' : ∀ T, ltD (.py (.int (i : Int))) (.py (.int (room % (m : Int)))) T = .ok (.py (.bool (decide ((i : Int) < room % (m : Int))))) T := fun T => rfl
    by_cases hb : (i : Int) < room % (m : Int)
    · exact wp_eq (by simp [i0, hb, intD])
    · exact wp_eq (by simp [i0, hb, intD])
  have e4 : ((List.range m).map fun i : Nat => D.py (.int (f.w + room / (m : Int) + (if (i : Int) < room % (m : Int) then 1 else 0)))) = ((blanks f.w room m).map PyData.int).map D.py := by simp [blanks]
  rw [e4, pysOf_map]
  exact ⟨S, .self, rfl, rfl, rfl⟩
end DV

set_option maxHeartbeats 4000000
namespace DV
open PySem
/-! Things whose text may be asked, dicts among them. -/
mutual
theorem leaves_mono : ∀ (d : PyData), d.leavesShort 13 = true → d.leavesShort 25 = true
  | .none, _ => by rw [PyData.leavesShort.eq_1]
  | .bool b, _ => by rw [PyData.leavesShort.eq_2]
  | .int i, h => by
    rw [PyData.leavesShort.eq_3, decide_eq_true_eq] at h ⊢
    omega
  | .str x, h => by
    rw [PyData.leavesShort.eq_4] at h ⊢
    exact h
  | .list xs, h => by
    rw [PyData.leavesShort.eq_5] at h ⊢
    exact leaves_monoAll xs h
  | .tuple xs, h => by
    rw [PyData.leavesShort.eq_6] at h ⊢
    exact leaves_monoAll xs h
  | .dict kvs, h => by
    rw [PyData.leavesShort.eq_7] at h ⊢
    exact leaves_monoKv kvs h
theorem leaves_monoAll : ∀ (ds : List PyData), PyData.leavesShortAll 13 ds = true → PyData.leavesShortAll 25 ds = true
  | [], _ => by rw [PyData.leavesShortAll.eq_1]
  | d :: ds, h => by
    rw [PyData.leavesShortAll.eq_2, Bool.and_eq_true] at h ⊢
    exact ⟨leaves_mono d h.1, leaves_monoAll ds h.2⟩
theorem leaves_monoKv : ∀ (ds : List (PyData × PyData)), PyData.leavesShortKv 13 ds = true → PyData.leavesShortKv 25 ds = true
  | [], _ => by rw [PyData.leavesShortKv.eq_1]
  | (k, v) :: ds, h => by
    rw [PyData.leavesShortKv.eq_2, Bool.and_eq_true, Bool.and_eq_true] at h ⊢
    exact ⟨⟨leaves_mono k h.1.1, leaves_mono v h.1.2⟩, leaves_monoKv ds h.2⟩
end
structure FitX (d : PyData) (k w : Nat) : Prop where
  sh : d.showable = true
  dp : d.depth ≤ k
  ls : d.leavesShort 25 = true
  bk : d.bulk ≤ w
structure FitXL (ds : List PyData) (k w : Nat) : Prop where
  sh : PyData.showableAll ds = true
  dp : PyData.depthAll ds ≤ k
  ls : PyData.leavesShortAll 25 ds = true
  bk : PyData.bulkAll ds ≤ w
theorem Fit.x {d : PyData} {k w : Nat} (h : Fit d k w) : FitX d k w := ⟨h.sh, h.dp, leaves_mono d h.ls, h.bk⟩
theorem FitX.mono {d : PyData} {k k' w w' : Nat} (h : FitX d k w) (hk : k ≤ k') (hw : w ≤ w') : FitX d k' w' := ⟨h.sh, Nat.le_trans h.dp hk, h.ls, Nat.le_trans h.bk hw⟩
theorem FitXL.nil {k w : Nat} : FitXL [] k w := ⟨PyData.showableAll.eq_1, by rw [PyData.depthAll.eq_1]; exact Nat.zero_le _, PyData.leavesShortAll.eq_1 25, by rw [PyData.bulkAll.eq_1]; exact Nat.zero_le _⟩
theorem FitXL.cons {d : PyData} {ds : List PyData} {k w w' : Nat} (h : FitX d k w) (hs : FitXL ds k w') : FitXL (d :: ds) k (w + 1 + w') := by
  refine ⟨?_, ?_, ?_, ?_⟩
  · rw [PyData.showableAll.eq_2, h.sh, hs.sh]
    rfl
  · rw [PyData.depthAll.eq_2]
    exact Nat.max_le.mpr ⟨h.dp, hs.dp⟩
  · rw [PyData.leavesShortAll.eq_2, h.ls, hs.ls]
    rfl
  · rw [PyData.bulkAll.eq_2]
    have := h.bk
    have := hs.bk
    omega
theorem FitX.list {ds : List PyData} {k w : Nat} (h : FitXL ds k w) : FitX (.list ds) (k + 1) w :=
  ⟨by rw [PyData.showable.eq_5]; exact h.sh, by rw [PyData.depth.eq_1]; exact Nat.succ_le_succ h.dp, by rw [PyData.leavesShort.eq_5]; exact h.ls, by rw [PyData.bulk.eq_2]; exact h.bk⟩
theorem FitX.tuple {ds : List PyData} {k w : Nat} (h : FitXL ds k w) : FitX (.tuple ds) (k + 1) w :=
  ⟨by rw [PyData.showable.eq_6]; exact h.sh, by rw [PyData.depth.eq_2]; exact Nat.succ_le_succ h.dp, by rw [PyData.leavesShort.eq_6]; exact h.ls, by rw [PyData.bulk.eq_3]; exact h.bk⟩
/-- two things in a list -/
theorem FitX.two {a b : PyData} {k w v : Nat} (ha : FitX a k w) (hb : FitX b k v) : FitX (.list [a, b]) (k + 1) (w + 1 + (v + 1 + 0)) := FitX.list (.cons ha (.cons hb .nil))
end DV

set_option maxHeartbeats 4000000
namespace DV
open PySem
/-! The law's own loop, where it makes lambdas; what is said. -/
def Low (d : PyData) : Prop := ∀ x, d = .str x → ∀ c ∈ x.cps.toList, c ≤ 300
end DV

set_option maxHeartbeats 4000000
namespace DV
open PySem
/-! What is shown is no word; how far the signs of a text begin. -/
@[simp ↓] theorem wp_revS (a : Ex) {σ : En} {S : Sto} {P : D → Sto → Prop} {E : Str → Sto → Prop} : (revS a σ S).wp P E = (a σ S).wp (fun x S1 => ∃ z : Str, x = .py (.str z) ∧ z.length ≤ sizeLine ∧ P (.py (.str ⟨z.cps.toList.reverse.toArray⟩)) S1) E := by
  unfold revS
  rw [wp_bind]
  congr 1
  funext x S1
  split
  · rename_i z
    rw [wp_iteR]
    split
    · rename_i hz
      exact propext ⟨fun p => ⟨z, rfl, hz, p⟩, fun ⟨_, e, _, p⟩ => by cases e; exact p⟩
    · rename_i hz
      exact propext ⟨fun p => p.elim, fun ⟨_, e, q, p⟩ => by cases e; exact hz q⟩
  · rename_i hn
    exact propext ⟨fun h => h.elim, fun ⟨_, e, _⟩ => (hn _ e).elim⟩
theorem in_lts {g : List Nat} (hg : ∀ c ∈ g, c ≤ 122) (hl : g.length ≤ 2000) (c : Nat) (hc : c ≤ 300) (S : Sto) : inD (.py (lt c)) (.py (.list (g.map lt))) S = .ok (.py (.bool (decide (c ∈ g)))) S := by
  have h1 : deep S 8 (.py (lt c)) = some (lt c) := rfl
  have h2 : deep S 8 (.py (.list (g.map lt))) = some (.list (g.map lt)) := rfl
  simp only [inD, inS, h1, h2, inB]
  have f1 : SeqAt.shaped (lt c) = true := (Fit.str (x := ⟨#[c]⟩) (n := 1) (fun c' h' => by simp at h'; omega) (Nat.le_refl _)).shaped (by decide)
  have f2 : Fit (.list (g.map lt)) 1 4000 := (Fit.listN (k := 0) (w := 1) (m := 2000) (fun d hd => by
    obtain ⟨c, hc, rfl⟩ := List.mem_map.mp hd
    have := hg c hc
    exact Fit.str (fun c' h' => by simp at h'; omega) (by simp)) (by simpa using hl)).mono (by decide) (by decide)
  rw [if_pos ⟨f1, f2.shaped (by decide)⟩]
  have h4 : ((g.map lt).any fun z => PyData.eqv z (lt c)) = decide (c ∈ g) := by
    rw [List.any_map]
    simp only [Function.comp_def, eqv_lt]
    by_cases h : c ∈ g
    · rw [decide_eq_true h, List.any_eq_true]
      exact ⟨c, h, by simp⟩
    · rw [decide_eq_false h, List.any_eq_false]
      intro x hx
      simp
      exact fun e => h (e ▸ hx)
  rw [h4]
end DV

set_option maxHeartbeats 4000000
namespace DV
open PySem
theorem gapIn_all {Q : Int → Prop} (q0 : Q 0) {P : List Pair} (h : ∀ p ∈ P, Q p.2.2) (a b : Nat) : Q (gapIn P a b) := by
  unfold gapIn
  split
  · rename_i e
    exact h _ (List.mem_of_find?_eq_some e)
  · exact q0
theorem wid_of {f : Face} {lo hi : Int} {R : List (List Int)} (g : f.Good lo hi) (r : Rows R f.ls.length) : Wid f (mlist f.lets R) := by
  refine ⟨⟨g.w0, g.w1⟩, fun c hc => ?_, fun a b => ?_⟩
  · obtain ⟨p, hp, rfl⟩ := List.mem_map.mp hc
    have o := g.ok p hp
    have hs : sw f p.1 ∈ f.ls.map (·.2) := by
      unfold sw
      rw [if_neg (by omega)]
      cases e : f.ls.find? fun q => decide (q.1 = p.1) with
      | none => exact absurd (List.find?_eq_none.mp e p hp) (by simp)
      | some q => exact List.mem_map.mpr ⟨q, List.mem_of_find?_eq_some e, rfl⟩
    obtain ⟨q, hq, e⟩ := List.mem_map.mp hs
    have o2 := g.ok q hq
    omega
  · unfold bt
    split
    · omega
    · refine gapIn_all (Q := fun x => -9 ≤ x ∧ x ≤ 9) (by omega) (fun p hp => ?_) a b
      obtain ⟨i, j, row, k1, k2, k3, k4, _⟩ := mem_mlist hp
      exact r.bnd _ (List.mem_of_getElem? k2) _ (List.mem_of_getElem? k4)
end DV

set_option maxHeartbeats 4000000
namespace DV
open PySem
/-! Things drawn for laws of texts. -/
/-- a thing that may be asked about -/
structure Tng (x : PyData) : Prop where
  short : Short 10000 x
  low : Low x
  fit : FitX x 6 1000
theorem Tng.tx {l : List Nat} (h : ∀ c ∈ l, c ≤ 300) (hl : l.length ≤ 1000) : Tng (tx l) :=
  ⟨fun x e => (by cases e; simp [Str.length]; omega), fun x e => (by cases e; simpa using h), (Fit.str (x := ⟨l.toArray⟩) (n := 1000) (fun c hc => by have := h c (by simpa using hc); omega) (by simpa using hl)).x.mono (by decide) (by decide)⟩
theorem Tng.odd {p : PyData} (h1 : Short 100 p) (h2 : Low p) (h3 : FitX p 5 200) : Tng p :=
  ⟨fun x e => by have := h1 x e; omega, h2, h3.mono (by decide) (by decide)⟩
theorem fitL_lts {l : List Nat} (h : ∀ c ∈ l, c ≤ 300) (hl : l.length ≤ 250) : FitL (l.map lt) 0 500 := (FitL.all (k := 0) (w := 1) (fun d hd => by
    obtain ⟨c, hc, rfl⟩ := List.mem_map.mp hd
    have := h c hc
    exact Fit.lt (by omega))).mono (by decide) (by simp; omega)
theorem Tng.lst {l : List Nat} (h : ∀ c ∈ l, c ≤ 300) (hl : l.length ≤ 250) : Tng (.list (l.map lt)) :=
  ⟨fun x e => (by cases e), fun x e => (by cases e), (Fit.list (fitL_lts h hl)).x.mono (k := 1) (w := 500) (by decide) (by decide)⟩
theorem Tng.tup {l : List Nat} (h : ∀ c ∈ l, c ≤ 300) (hl : l.length ≤ 250) : Tng (.tuple (l.map lt)) :=
  ⟨fun x e => (by cases e), fun x e => (by cases e), (Fit.tuple (fitL_lts h hl)).x.mono (k := 1) (w := 500) (by decide) (by decide)⟩
theorem wide_any {f : Face} {P : List Pair} {d : PyData} (nd : f.lets.Nodup) (b : ∀ c ∈ f.lets, 97 ≤ c) (h : Short 10000 d) (S : Sto) :
    (isTx f d = false → F_wide [.py f.py, .py (encP P), .py d] S = .ex "NoLine" S) ∧ ∀ l, d = tx l → (∀ c ∈ l, f.has c) → F_wide [.py f.py, .py (encP P), .py d] S = .ok (.py (.int (wd f P l))) S := by
  have nt := need_text_any (f := f) h
  refine ⟨fun ht => ?_, fun l e hl => ?_⟩
  · unfold F_wide b_wide
    refine wp_exq (wp_fn ?_)
    simp [init, nt, ht]
    exact .self
  · subst e
    have hh := h _ rfl
    simp [Str.length] at hh
    have ht : isTx f (tx l) = true := by
      simp [isTx]
      exact hl
    have bi := wide_in_eq (P := P) nd hl b hh
    unfold F_wide b_wide
    refine fn_eq (wp_fn ?_)
    simp [init, nt, ht, bi]
    exact ⟨.self, rfl⟩
/-- the law's own loop, where a text is named ahead of it -/
def Keep1 (sc z : D) (n : Nat) (σ : En) : Prop := ∃ ys : En, σ = some sc :: some z :: ys ∧ ys.length = n
theorem Keep1.mk {sc z : D} {n : Nat} {ys : En} (h : ys.length = n) : Keep1 sc z n (some sc :: some z :: ys) := ⟨ys, rfl, h⟩
end DV

set_option maxHeartbeats 4000000
namespace DV
open PySem
/-! The sign at a number. -/
def spanAt (f : Face) (P : List Pair) (l : List Nat) (n : Int) (i : Nat) : Bool := decide (bg f P l i ≤ n) && decide (n < bg f P l i + sw f (l.getD i 0))
def idx (p : Nat → Bool) (m : Nat) : PyData := match (List.range m).find? p with
  | some i => .int i
  | none => .none
theorem range_zip (m : Nat) : (List.range m).zipIdx = (List.range m).map fun i => (i, i) := by
  apply List.ext_getElem
  · simp
  · intro i h1 h2
    simp
theorem idx_some {p : Nat → Bool} {m i : Nat} (h : i < m) (hp : p i = true) (hn : ∀ j, j < i → p j = false) : idx p m = .int i := by
  unfold idx
  have : (List.range m).find? p = some i := by
    rw [List.find?_range_eq_some]
    refine ⟨hp, by simpa using h, fun j hj => ?_⟩
    rw [hn j hj]
    rfl
  rw [this]
theorem idx_none {p : Nat → Bool} {m : Nat} (hn : ∀ j, j < m → p j = false) : idx p m = .none := by
  unfold idx
  have : (List.range m).find? p = none := by
    rw [List.find?_eq_none]
    intro x hx
    rw [hn x (by simpa using hx)]
    simp
  rw [this]
def isI : PyData → Bool
  | .int _ => true
  | _ => false
theorem need_whole_any (d : PyData) (S : Sto) : F_need_whole [.py d] S = if isI d = true then .ok (.py .none) S else .ex "NoNumber" S := by
  unfold F_need_whole b_need_whole
  by_cases ht : isI d = true
  · rw [if_pos ht]
    refine fn_eq (wp_fn ?_)
    cases d <;> simp [isI] at ht
    simp [init, isB]
    exact .self
  · rw [if_neg ht]
    refine wp_exq (wp_fn ?_)
    cases d with
    | int i => exact absurd rfl ht
    | dict ds => simp [init, isiD, tyN, isB]; exact .self
    | none => simp [init, isB]; exact .self
    | bool b => simp [init, isB]; exact .self
    | str b => simp [init, isB]; exact .self
    | list b => simp [init, isB]; exact .self
    | tuple b => simp [init, isB]; exact .self
theorem sign_at_eq {f : Face} {P : List Pair} {l : List Nat} {n : Int} (nd : f.lets.Nodup) (b : ∀ c ∈ f.lets, 97 ≤ c) (hl : ∀ c ∈ l, f.has c) (h : l.length ≤ 10000) (S : Sto) :
    F_sign_at [.py f.py, .py (encP P), .py (tx l), .py (.int n)] S = .ok (.py (idx (spanAt f P l n) l.length)) S := by
  have sh : Short 10000 (tx l) := fun x e => by
    cases e
    simp [Str.length]
    omega
  have ht : isTx f (tx l) = true := by
    simp [isTx]
    exact hl
  have nt := need_text_any (f := f) sh
  have nw := need_whole_any (.int n)
  have bi := begins_in_eq (P := P) nd hl b h
  unfold F_sign_at b_sign_at
  refine fn_eq (wp_fn ?_)
  simp [init, nt, ht, nw, isI, bi, begs, range_zip, Function.comp_def, -wp_forL_cons]
  refine wp_forM (fun i : Nat => D.py (.tuple [.int i, .int (bg f P l i)])) (fun (pre : List Nat) σ T => wipeD σ [4, 5] = [some (.py f.py), some (.py (encP P)), some (.py (tx l)), some (.py (.int n)), none, none] ∧ (∀ j, j < pre.length → spanAt f P l n j = false) ∧ T = S) ⟨rfl, fun j hj => absurd hj (Nat.not_lt_zero _), rfl⟩ ?_ ?_
  · rintro pre i post σ T e ⟨hσ, h4, rfl⟩
    obtain ⟨_, _, rfl⟩ := slot2 hσ
    clear hσ
    have ei : i = pre.length := by
      have := congrArg (fun z => z[pre.length]?) e
      simp at this
      obtain ⟨h1, h2⟩ := List.getElem?_eq_some_iff.mp this
      simpa using h2.symm
    subst ei
    have hi : pre.length < l.length := by
      have := congrArg List.length e
      simp at this
      omega
    have ec : l[pre.length]? = some l[pre.length] := List.getElem?_eq_getElem hi
    have it := item_tx (l := l) (by omega) pre.length ec
    have sw' := sign_width_eq (f := f) (c := l[pre.length]) nd (hl _ (List.getElem_mem hi)) b
    have eg : l.getD pre.length 0 = l[pre.length] := by simp [hi]
    by_cases h1 : bg f P l pre.length ≤ n
    · by_cases h2 : n < bg f P l pre.length + sw f l[pre.length]
      · simp [h1, it, sw', h2]
        refine ⟨T, .self, rfl, ?_, rfl⟩
        rw [idx_some hi (by unfold spanAt; rw [eg]; simp [h1, h2]) h4]
      · simp [h1, it, sw', h2]
        intro j hj
        rcases Nat.lt_succ_iff_lt_or_eq.mp hj with hj | rfl
        · exact h4 j hj
        · unfold spanAt
          rw [eg]
          simp [h1]
          omega
    · simp [h1]
      intro j hj
      rcases Nat.lt_succ_iff_lt_or_eq.mp hj with hj | rfl
      · exact h4 j hj
      · unfold spanAt
        simp [h1]
  · rintro σ T ⟨hσ, h4, rfl⟩
    obtain ⟨_, _, rfl⟩ := slot2 hσ
    simp
    rw [idx_none (by simpa using h4)]
    exact ⟨T, .self, rfl, rfl, rfl⟩
end DV

set_option maxHeartbeats 4000000
namespace DV
open PySem
/-! Letters that may be added. -/
/-- the letter that a thing is -/
def isL : PyData → Option Nat
  | .str x => match x.cps.toList with
    | [c] => if 97 ≤ c ∧ c ≤ 122 then some c else none
    | _ => none
  | _ => none
theorem isL_lt {d : PyData} {c : Nat} (h : isL d = some c) : d = lt c ∧ 97 ≤ c ∧ c ≤ 122 := by
  cases d with
  | str x =>
    obtain ⟨⟨l⟩⟩ := x
    match l, h with
    | [a], h =>
      unfold isL at h
      simp only at h
      split at h
      · rename_i hc
        cases h
        exact ⟨rfl, hc⟩
      · cases h
  | _ => cases h
theorem len_str {l : List Nat} (h : l.length ≤ 10000) (S : Sto) : lenD [.py (.str ⟨⟨l⟩⟩)] S = .ok (.py (.int (l.length : Nat))) S := by
  unfold lenD
  simp only
  rw [if_pos (by simp [Str.length, sl_big']; omega)]
  rfl
theorem in_alpha (c : Nat) (S : Sto) : inD (.py (lt c)) (.py (.str (Str.ofString "abcdefghijklmnopqrstuvwxyz"))) S = .ok (.py (.bool (decide (97 ≤ c ∧ c ≤ 122)))) S := by
  have h1 : deep S 8 (.py (lt c)) = some (lt c) := rfl
  have h2 : deep S 8 (.py (.str (Str.ofString "abcdefghijklmnopqrstuvwxyz"))) = some (.str (Str.ofString "abcdefghijklmnopqrstuvwxyz")) := rfl
  simp only [inD, inS, h1, h2, inB]
  rw [alphabet]
  congr 3
  rw [decide_eq_decide]
  simp
  constructor
  · rintro ⟨a, h, rfl⟩
    omega
  · intro h
    exact ⟨c - 97, by omega, by omega⟩
theorem is_letter_any {d : PyData} (h : Short 10000 d) (S : Sto) : F_is_letter [.py d] S = .ok (.py (.bool (isL d).isSome)) S := by
  unfold F_is_letter b_is_letter
  refine fn_eq (wp_fn ?_)
  cases d with
  | str x =>
    obtain ⟨⟨l⟩⟩ := x
    have hl := h _ rfl
    simp [Str.length] at hl
    have le := len_str hl
    match l, le with
    | [], le => simp [init, isB, le, isL]; exact ⟨.self, rfl⟩
    | [c], le =>
      have ia := in_alpha c
      by_cases hc : 97 ≤ c ∧ c ≤ 122
      · simp [init, isB, le, isL, ia, hc]
        exact ⟨.self, rfl⟩
      · simp [init, isB, le, isL, ia, hc]
        exact ⟨.self, rfl⟩
    | a :: b :: r, le =>
      have : ¬ ((r.length : Int) + 1 + 1 = 1) := by omega
      simp [init, isB, le, isL, this]
      exact ⟨.self, rfl⟩
  | none => simp [init, isB, isL]; exact ⟨.self, rfl⟩
  | bool b => simp [init, isB, isL]; exact ⟨.self, rfl⟩
  | int i => simp [init, isB, isL]; exact ⟨.self, rfl⟩
  | list ds => simp [init, isB, isL]; exact ⟨.self, rfl⟩
  | tuple ds => simp [init, isB, isL]; exact ⟨.self, rfl⟩
  | dict ds => simp [init, isiD, tyN, isB, isL]; exact ⟨.self, rfl⟩
theorem need_fresh_any {f : Face} {d : PyData} (h : Short 10000 d) (S : Sto) : F_need_fresh [.py f.py, .py d] S = if (∃ c, isL d = some c ∧ c ∉ f.lets) then .ok (.py .none) S else .ex "NoLetter" S := by
  have il := is_letter_any h
  unfold F_need_fresh b_need_fresh
  cases hd : isL d with
  | none =>
    rw [if_neg (by simp)]
    refine wp_exq (wp_fn ?_)
    simp [init, il, hd]
    exact .self
  | some c =>
    obtain ⟨rfl, _, _⟩ := isL_lt hd
    have pl := place_lt (f := f) c
    by_cases hc : c ∈ f.lets
    · rw [if_neg (by simp [hc])]
      refine wp_exq (wp_fn ?_)
      have : ∃ i, f.lets.findIdx? (fun x => decide (x = c)) = some i := by
        cases e : f.lets.findIdx? (fun x => decide (x = c)) with
        | some i => exact ⟨i, rfl⟩
        | none =>
          rw [List.findIdx?_eq_none_iff] at e
          have := e c hc
          simp at this
      obtain ⟨i, hi⟩ := this
      rw [hi] at pl
      simp [init, il, hd, pl, plcD, isNon]
      exact .self
    · rw [if_pos ⟨c, rfl, hc⟩]
      refine fn_eq (wp_fn ?_)
      have hi : f.lets.findIdx? (fun x => decide (x = c)) = none := by
        rw [List.findIdx?_eq_none_iff]
        intro a ha
        simp
        intro e
        exact hc (e ▸ ha)
      rw [hi] at pl
      simp [init, il, hd, pl, plcD, isNon]
      exact .self
theorem need_room_any {f : Face} (S : Sto) : F_need_room [.py f.py] S = if 10 ≤ f.ls.length then .ex "TooMany" S else .ok (.py .none) S := by
  unfold F_need_room b_need_room
  have i1 : ∀ T, itemD (.py f.py) (.py (.int 1)) T = .ok (.py (.tuple (f.ls.map encL))) T := fun T => itemD_tupleI (by decide) rfl
  by_cases h : 10 ≤ f.ls.length
  · rw [if_pos h]
    refine wp_exq (wp_fn ?_)
    have : (10 : Int) ≤ f.ls.length := by omega
    simp [init, i1, this]
    exact .self
  · rw [if_neg h]
    refine fn_eq (wp_fn ?_)
    have : ¬ (10 : Int) ≤ f.ls.length := by omega
    simp [init, i1, this]
    first | exact .self | omega
/-! ### a drawn letter that a face has not -/
theorem sub_len : ∀ {l A : List Nat}, l.Nodup → (∀ x ∈ l, x ∈ A) → l.length ≤ A.length
  | [], _, _, _ => Nat.zero_le _
  | x :: r, A, hn, h => by
    have hx := h x (List.mem_cons_self ..)
    have hr := List.nodup_cons.mp hn
    have := sub_len (l := r) (A := A.erase x) hr.2 fun y hy => (List.mem_erase_of_ne (by rintro rfl; exact hr.1 hy)).mpr (h y (List.mem_cons_of_mem _ hy))
    rw [List.length_erase_of_mem hx] at this
    have hp : 0 < A.length := List.length_pos_of_mem hx
    rw [List.length_cons]
    omega
theorem not_in_lts {g : List Nat} (hg : ∀ c ∈ g, c ≤ 122) (hl : g.length ≤ 2000) (c : Nat) (hc : c ≤ 300) (S : Sto) : notInD (.py (lt c)) (.py (.list (g.map lt))) S = .ok (.py (.bool (!decide (c ∈ g)))) S := by
  have := in_lts hg hl c hc S
  unfold inD at this
  unfold notInD
  split at this
  · rename_i k hk
    cases this
    rfl
  · cases this
end DV

set_option maxHeartbeats 4000000
namespace DV
open PySem
/-! A line that is widened: of any text and any number. -/
section
variable {f : Face} {P : List Pair} {l : List Nat}
theorem has122 (b : ∀ c ∈ f.lets, 97 ≤ c ∧ c ≤ 122) {c : Nat} (h : f.has c) : c ≤ 122 := by
  rcases h with h | h
  · omega
  · exact (b c h).2
end
end DV

set_option maxHeartbeats 4000000
namespace DV
open PySem
/-! Things spoilt at some place. -/
theorem bulk_app : ∀ xs ys : List PyData, PyData.bulkAll (xs ++ ys) = PyData.bulkAll xs + PyData.bulkAll ys
  | [], ys => by rw [List.nil_append, PyData.bulkAll.eq_1, Nat.zero_add]
  | x :: xs, ys => by rw [List.cons_append, PyData.bulkAll.eq_2, PyData.bulkAll.eq_2, bulk_app xs ys]; omega
theorem depth_app : ∀ xs ys : List PyData, PyData.depthAll (xs ++ ys) = max (PyData.depthAll xs) (PyData.depthAll ys)
  | [], ys => by rw [List.nil_append, PyData.depthAll.eq_1, Nat.zero_max]
  | x :: xs, ys => by rw [List.cons_append, PyData.depthAll.eq_2, PyData.depthAll.eq_2, depth_app xs ys]; omega
theorem show_app : ∀ xs ys : List PyData, PyData.showableAll (xs ++ ys) = (PyData.showableAll xs && PyData.showableAll ys)
  | [], ys => by rw [List.nil_append, PyData.showableAll.eq_1, Bool.true_and]
  | x :: xs, ys => by rw [List.cons_append, PyData.showableAll.eq_2, PyData.showableAll.eq_2, show_app xs ys, Bool.and_assoc]
theorem leaves_app (n : Nat) : ∀ xs ys : List PyData, PyData.leavesShortAll n (xs ++ ys) = (PyData.leavesShortAll n xs && PyData.leavesShortAll n ys)
  | [], ys => by rw [List.nil_append, PyData.leavesShortAll.eq_1, Bool.true_and]
  | x :: xs, ys => by rw [List.cons_append, PyData.leavesShortAll.eq_2, PyData.leavesShortAll.eq_2, leaves_app n xs ys, Bool.and_assoc]
/-- the parts of a sequence, how much they weigh -/
structure Part (ds : List PyData) (k : Nat) : Prop where
  sh : PyData.showableAll ds = true
  dp : PyData.depthAll ds ≤ k
  ls : PyData.leavesShortAll 25 ds = true
theorem Part.app {xs ys : List PyData} {k : Nat} : Part (xs ++ ys) k ↔ Part xs k ∧ Part ys k := by
  constructor
  · intro ⟨a, b, c⟩
    rw [show_app, Bool.and_eq_true] at a
    rw [depth_app] at b
    rw [leaves_app, Bool.and_eq_true] at c
    exact ⟨⟨a.1, by omega, c.1⟩, ⟨a.2, by omega, c.2⟩⟩
  · intro ⟨⟨a, b, c⟩, ⟨d, e, f⟩⟩
    exact ⟨by rw [show_app, a, d]; rfl, by rw [depth_app]; omega, by rw [leaves_app, c, f]; rfl⟩
theorem Part.one {d : PyData} {k : Nat} : Part [d] k ↔ d.showable = true ∧ d.depth ≤ k ∧ d.leavesShort 25 = true := by
  constructor
  · intro ⟨a, b, c⟩
    rw [PyData.showableAll.eq_2, PyData.showableAll.eq_1, Bool.and_true] at a
    rw [PyData.depthAll.eq_2, PyData.depthAll.eq_1] at b
    rw [PyData.leavesShortAll.eq_2, PyData.leavesShortAll.eq_1, Bool.and_true] at c
    exact ⟨a, by omega, c⟩
  · intro ⟨a, b, c⟩
    exact ⟨by rw [PyData.showableAll.eq_2, PyData.showableAll.eq_1, a]; rfl, by rw [PyData.depthAll.eq_2, PyData.depthAll.eq_1]; omega, by rw [PyData.leavesShortAll.eq_2, PyData.leavesShortAll.eq_1, c]; rfl⟩
theorem Part.mono {ds : List PyData} {k j : Nat} (h : Part ds k) (hk : k ≤ j) : Part ds j := ⟨h.sh, Nat.le_trans h.dp hk, h.ls⟩
theorem FitX.part {d : PyData} {k w : Nat} (h : FitX d k w) : Part [d] k := Part.one.mpr ⟨h.sh, h.dp, h.ls⟩
theorem Part.fit {d : PyData} {k w : Nat} (h : Part [d] k) (hb : d.bulk ≤ w) : FitX d k w := let ⟨a, b, c⟩ := Part.one.mp h; ⟨a, b, c, hb⟩
theorem Part.tuple {ds : List PyData} {k w : Nat} (h : Part ds k) (hb : PyData.bulkAll ds ≤ w) : FitX (.tuple ds) (k + 1) w := FitX.tuple ⟨h.sh, h.dp, h.ls, hb⟩
theorem Part.list {ds : List PyData} {k w : Nat} (h : Part ds k) (hb : PyData.bulkAll ds ≤ w) : FitX (.list ds) (k + 1) w := FitX.list ⟨h.sh, h.dp, h.ls, hb⟩
theorem FitX.items {ds : List PyData} {k w : Nat} (h : FitX (.tuple ds) k w) : ∃ j, k = j + 1 ∧ Part ds j ∧ PyData.bulkAll ds ≤ w := by
  have h1 := h.sh
  have h2 := h.dp
  have h3 := h.ls
  have h4 := h.bk
  rw [PyData.showable.eq_6] at h1
  rw [PyData.depth.eq_2] at h2
  rw [PyData.leavesShort.eq_6] at h3
  rw [PyData.bulk.eq_3] at h4
  exact ⟨k - 1, by omega, ⟨h1, by omega, h3⟩, h4⟩
theorem bulk_mem {d : PyData} : ∀ {ds : List PyData}, d ∈ ds → d.bulk + 1 ≤ PyData.bulkAll ds
  | x :: xs, h => by
    rw [PyData.bulkAll.eq_2]
    rcases List.mem_cons.mp h with rfl | h
    · omega
    · have := bulk_mem h
      omega
theorem Part.mem {d : PyData} {ds : List PyData} {k : Nat} (h : Part ds k) (hd : d ∈ ds) : Part [d] k := by
  obtain ⟨a, b, rfl⟩ := List.append_of_mem hd
  have := (Part.app.mp h).2
  have : Part ([d] ++ b) k := this
  exact (Part.app.mp this).1
theorem FitX.item {d : PyData} {ds : List PyData} {k w : Nat} (h : FitX (.tuple ds) k w) (hd : d ∈ ds) : FitX d k w := by
  obtain ⟨j, rfl, p, b⟩ := h.items
  have := bulk_mem hd
  exact (p.mem hd).mono (Nat.le_succ _) |>.fit (by omega)
theorem FitX.short {d : PyData} {k w : Nat} (h : FitX d k w) : Short w d := by
  rintro x rfl
  have := h.bk
  rw [PyData.bulk.eq_1] at this
  exact this
theorem sl_tr : sizeLine = 16777216 := by decide
end DV

set_option maxHeartbeats 4000000
namespace DV
open PySem
/-! A thing spoilt at some place. -/
@[simp ↓] theorem wp_revTE (a : Ex) {σ : En} {S : Sto} {P : D → Sto → Prop} {E : Str → Sto → Prop} : (revTE a σ S).wp P E = (a σ S).wp (fun x S1 => ∃ ds, x = .py (.tuple ds) ∧ P (.py (.tuple ds.reverse)) S1) E := by
  unfold revTE
  rw [wp_bind]
  congr 1
  funext x S1
  split
  · exact propext ⟨fun h => ⟨_, rfl, h⟩, fun ⟨ds, e, h⟩ => by cases e; exact h⟩
  · rename_i hn
    exact propext ⟨fun h => h.elim, fun ⟨ds, e, h⟩ => (hn ds e).elim⟩
theorem Part.sub {xs ys : List PyData} {k : Nat} (h : xs.Sublist ys) : Part ys k → Part xs k ∧ PyData.bulkAll xs ≤ PyData.bulkAll ys := by
  induction h with
  | slnil => exact fun h => ⟨h, Nat.le_refl _⟩
  | @cons l1 l2 a hs ih =>
    intro h
    have h2 : Part ([a] ++ l2) k := h
    obtain ⟨i1, i2⟩ := ih (Part.app.mp h2).2
    refine ⟨i1, ?_⟩
    rw [PyData.bulkAll.eq_2]
    omega
  | @cons_cons l1 l2 a hs ih =>
    intro h
    have h2 : Part ([a] ++ l2) k := h
    obtain ⟨i1, i2⟩ := ih (Part.app.mp h2).2
    refine ⟨show Part ([a] ++ l1) k from Part.app.mpr ⟨(Part.app.mp h2).1, i1⟩, ?_⟩
    rw [PyData.bulkAll.eq_2, PyData.bulkAll.eq_2]
    omega
end DV

set_option maxHeartbeats 4000000
namespace DV
open PySem
/-! Letters, asked of any thing. -/
def isOne (t : PyData) (a : Nat) : Bool := match t with
  | .str x => decide ((⟨#[a]⟩ : Str) = x)
  | _ => false
def isIn (f : Face) (t : PyData) : Bool := f.lets.any (isOne t)
theorem isOne_lt {t : PyData} {a : Nat} (h : isOne t a = true) : t = lt a := by
  cases t with
  | str x =>
    have : (⟨#[a]⟩ : Str) = x := of_decide_eq_true h
    rw [← this]
  | _ => cases h
theorem isIn_lt {f : Face} {t : PyData} (h : isIn f t = true) : ∃ c, c ∈ f.lets ∧ t = lt c := by
  obtain ⟨c, hc, h1⟩ := List.any_eq_true.mp h
  exact ⟨c, hc, isOne_lt h1⟩
theorem lt_isIn {f : Face} {c : Nat} (h : c ∈ f.lets) : isIn f (lt c) = true := List.any_eq_true.mpr ⟨c, h, by simp [isOne]⟩
theorem eq_all {a : Nat} {t : PyData} (S : Sto) : eqD (.py (lt a)) (.py t) S = .ok (.py (.bool (isOne t a))) S := by
  cases t with
  | none => rfl
  | bool b => rfl
  | int i => rfl
  | str x => exact eqD_str
  | list ds =>
    unfold eqD eqB
    simp only [flatD]
    split
    · rename_i k hk
      split at hk
      · cases hk; rfl
      · cases hk; rfl
    · rename_i hk
      split at hk
      · cases hk
      · simp [offB] at hk
  | tuple ds =>
    unfold eqD eqB
    simp only [flatD]
    split
    · rename_i k hk
      split at hk
      · cases hk; rfl
      · cases hk; rfl
    · rename_i hk
      split at hk
      · cases hk
      · simp [offB] at hk
  | dict kvs =>
    have h0 : SeqAt.shaped (.dict kvs) = false := by
      unfold SeqAt.shaped
      rw [PyData.canLay0.eq_7]
      rfl
    unfold eqD eqB
    simp only [flatD]
    rw [h0]
    simp [offB, dkTx, isOne]
theorem need_letter_all {f : Face} {t : PyData} (S : Sto) : F_need_letter [.py f.py, .py t] S = if isIn f t = true then .ok (.py (plcD (f.lets.findIdx? (isOne t)))) S else .ex "NoLetter" S := by
  have pl := fun S => place_gen (f := f) (t := t) (p := isOne t) (fun q hq S => eq_all S) S
  unfold F_need_letter b_need_letter
  by_cases h : isIn f t = true
  · rw [if_pos h]
    obtain ⟨c, hc, e⟩ := isIn_lt h
    have : ∃ i, f.lets.findIdx? (isOne t) = some i := by
      cases q : f.lets.findIdx? (isOne t) with
      | some i => exact ⟨i, rfl⟩
      | none =>
        rw [List.findIdx?_eq_none_iff] at q
        have := q c hc
        rw [e] at this
        simp [isOne] at this
    obtain ⟨i, hi⟩ := this
    rw [hi] at pl ⊢
    refine fn_eq (wp_fn ?_)
    simp [init, pl, plcD, isNon]
    exact ⟨.self, rfl⟩
  · rw [if_neg h]
    have hi : f.lets.findIdx? (isOne t) = none := by
      rw [List.findIdx?_eq_none_iff]
      intro a ha
      cases q : isOne t a with
      | false => rfl
      | true => exact absurd (List.any_eq_true.mpr ⟨a, ha, q⟩) h
    rw [hi] at pl
    refine wp_exq (wp_fn ?_)
    simp [init, pl, plcD, isNon]
    exact .self
end DV

set_option maxHeartbeats 4000000
namespace DV
open PySem
/-! Rows of gaps, asked of any thing. -/
end DV

set_option maxHeartbeats 4000000
namespace DV
open PySem
/-! Papers of left classes. -/
def prtL (L : List Nat) (P : List Pair) (a b : Nat) : PyData := match L.find? (fun r => !decide (gapIn P a r = gapIn P b r)) with
  | some r => lt r
  | none => .none
theorem prt_hit {L pre post : List Nat} {P : List Pair} {a b c : Nat} (e : L = pre ++ c :: post) (h : ∀ r ∈ pre, gapIn P a r = gapIn P b r) (hc : gapIn P a c ≠ gapIn P b c) : prtL L P a b = lt c := by
  unfold prtL
  have : L.find? (fun r => !decide (gapIn P a r = gapIn P b r)) = some c := by
    rw [e, List.find?_append]
    have h1 : pre.find? (fun r => !decide (gapIn P a r = gapIn P b r)) = none := by
      rw [List.find?_eq_none]
      intro r hr
      simp [h r hr]
    rw [h1, List.find?_cons]
    simp [hc]
  rw [this]
theorem prt_none {L : List Nat} {P : List Pair} {a b : Nat} (h : ∀ r ∈ L, gapIn P a r = gapIn P b r) : prtL L P a b = .none := by
  unfold prtL
  have : L.find? (fun r => !decide (gapIn P a r = gapIn P b r)) = none := by
    rw [List.find?_eq_none]
    intro r hr
    simp [h r hr]
  rw [this]
theorem parting_letter_eq {f : Face} {P : List Pair} (a b : Nat) (S : Sto) : F_parting_letter [.py f.py, .py (encP P), .py (lt a), .py (lt b)] S = .ok (.py (prtL f.lets P a b)) S := by
  unfold F_parting_letter b_parting_letter
  refine fn_eq (wp_fn ?_)
  simp [init, letters_of_eq, -wp_forL_cons]
  refine wp_forM (D.py ∘ lt) (fun pre σ T => wipeD σ [4] = [some (.py f.py), some (.py (encP P)), some (.py (lt a)), some (.py (lt b)), none] ∧ (∀ r ∈ pre, gapIn P a r = gapIn P b r) ∧ T = S) ⟨rfl, (fun r hr => by cases hr), rfl⟩ ?_ ?_
  · rintro pre c post σ T e ⟨hσ, hp, rfl⟩
    obtain ⟨v, rfl⟩ := slot_any hσ
    clear hσ
    by_cases hc : gapIn P a c = gapIn P b c
    · simp [gap_in_eq, hc]
      intro r hr
      rcases hr with hr | rfl
      · exact hp r hr
      · exact hc
    · simp [gap_in_eq, hc]
      exact ⟨T, .self, rfl, (prt_hit e hp hc).symm, rfl⟩
  · rintro σ T ⟨hσ, hp, rfl⟩
    obtain ⟨v, rfl⟩ := slot_any hσ
    simp
    rw [prt_none hp]
    exact ⟨T, .self, rfl, rfl, rfl⟩
/-! ### all two of some letters -/
def twosUpTo (L : List Nat) (n : Nat) : List (Nat × Nat) := (List.range n).flatMap fun i => (L.drop (i + 1)).map fun y => (L.getD i 0, y)
def encTwo (p : Nat × Nat) : PyData := .tuple [lt p.1, lt p.2]
@[simp ↓] theorem wp_sliceA (a : Ex) (lo hi : Px) {σ : En} {S : Sto} {P : D → Sto → Prop} {E : Str → Sto → Prop} : (sliceA a lo hi σ S).wp P E = (a σ S).wp (fun x S1 => (lo σ S1).wp (fun l S2 => (hi σ S2).wp (fun h S3 => (sliceAV x l h S3).wp P E) E) E) E := by
  unfold sliceA
  rw [wp_bind]
  congr 1
  funext x S1
  rw [wp_bind]
  congr 1
  funext l S2
  rw [wp_bind]
def twosA {α : Type} (d : α) (L : List α) (n : Nat) : List (α × α) := (List.range n).flatMap fun i => (L.drop (i + 1)).map fun y => (L.getD i d, y)
theorem twosA_len {α : Type} (d : α) (L : List α) (n : Nat) : (twosA d L n).length ≤ n * L.length := by
  induction n with
  | zero => simp [twosA]
  | succ n ih =>
    unfold twosA at ih ⊢
    rw [List.range_succ, List.flatMap_append, List.length_append, Nat.succ_mul]
    simp at ih ⊢
    omega
theorem twosA_succ {α : Type} (d : α) (L : List α) (n : Nat) : twosA d L (n + 1) = twosA d L n ++ (L.drop (n + 1)).map fun y => (L.getD n d, y) := by
  unfold twosA
  rw [List.range_succ, List.flatMap_append]
  simp
theorem zipIdx_splitA {α : Type} : ∀ {L : List α} {pre post : List (α × Nat)} {x : α × Nat}, L.zipIdx = pre ++ x :: post → L = pre.map Prod.fst ++ x.1 :: post.map Prod.fst ∧ x.2 = pre.length := fun {L pre post x} e => by
  have e1 : L.zipIdx.map Prod.fst = L := by simp
  refine ⟨by rw [← e1, e]; simp, ?_⟩
  have := congrArg (fun z => z[pre.length]?) e
  simp at this
  obtain ⟨a, _, rfl⟩ := this
  rfl
theorem twos_gen {α : Type} (enc : α → PyData) (d : α) {L : List α} (h : L.length ≤ 200) {q : PyData} (hq : q = .tuple (L.map enc) ∨ q = .list (L.map enc)) (S : Sto) : F_twos [.py q] S = .ok (.py (.list ((twosA d L L.length).map fun p => PyData.tuple [enc p.1, enc p.2]))) S := by
  have hwk : ∀ T, pyWalk T (.py q) = some (L.map enc) := fun T => by rcases hq with rfl | rfl <;> rfl
  have hsl : ∀ (k : Nat) T, ∃ r, sliceAV (.py q) (some ((k : Int) + 1)) none T = .ok (.py r) T ∧ (r = .tuple ((L.drop (k + 1)).map enc) ∨ r = .list ((L.drop (k + 1)).map enc)) := fun k T => by
    have cu := cut_from (L.map enc) (k + 1)
    push_cast at cu
    rcases hq with rfl | rfl
    · refine ⟨_, rfl, .inl ?_⟩
      rw [cu, List.map_drop]
    · refine ⟨_, rfl, .inr ?_⟩
      rw [cu, List.map_drop]
  unfold F_twos b_twos
  refine fn_eq (wp_fn ?_)
  simp [init, hwk, -wp_forL_cons]
  rw [stL_nil]
  refine wp_forM (fun p : α × Nat => D.py (.tuple [.int (p.2 : Nat), enc p.1])) (fun (pre : List (α × Nat)) σ T => wipeD σ [2, 3] = [some (.py q), some (.obj S.length), none, none, none] ∧ T = stL S ((twosA d L pre.length).map fun p => PyData.tuple [enc p.1, enc p.2])) ⟨rfl, rfl⟩ ?_ ?_
  · rintro pre x post σ T e ⟨hσ, rfl⟩
    obtain ⟨_, _, rfl⟩ := slot2 hσ
    clear hσ
    obtain ⟨e1, e2⟩ := zipIdx_splitA e
    obtain ⟨c, i⟩ := x
    simp only at e1 e2
    subst e2
    have ll : pre.length < L.length := by
      have := congrArg List.length e1
      simp at this
      omega
    have eC : L.getD pre.length d = c := by rw [e1]; simp
    obtain ⟨r, hr, hr2⟩ := hsl pre.length (stL S ((twosA d L pre.length).map fun p => PyData.tuple [enc p.1, enc p.2]))
    have hw : seqD (.py r) = some ((L.drop (pre.length + 1)).map enc) := by
      rcases hr2 with rfl | rfl <;> rfl
    simp [hr, -List.map_drop]
    refine ⟨_, hw, ?_⟩
    rw [List.map_map]
    refine wp_pureM1 (D.py ∘ enc) (fun y => D.py (.tuple [enc c, enc y])) (fun y hy => wp_eq (by simp [pysOf])) ?_
    have l1 := twosA_len d L pre.length
    have l2 := Nat.mul_le_mul (Nat.le_of_lt ll) (Nat.le_refl L.length)
    have l3 := Nat.mul_le_mul h h
    refine ⟨_, stL_lstAt, ?_, ?_⟩
    · rw [sl_big']
      simp
      omega
    · have e3 : ((twosA d L pre.length).map fun p => PyData.tuple [enc p.1, enc p.2]).map D.py ++ (L.drop (pre.length + 1)).map (fun y => D.py (.tuple [enc c, enc y])) = ((twosA d L (pre.length + 1)).map fun p => PyData.tuple [enc p.1, enc p.2]).map D.py := by
        rw [twosA_succ, eC]
        simp
        first | done | rfl
      rw [e3, stL_set]
  · rintro σ T ⟨hσ, rfl⟩
    obtain ⟨_, _, rfl⟩ := slot2 hσ
    refine stL_fix rfl ?_
    simp
    exact ⟨.app, rfl⟩
theorem twos_eq {L : List Nat} (h : L.length ≤ 200) (S : Sto) : F_twos [.py (.tuple (L.map lt))] S = .ok (.py (.list ((twosUpTo L L.length).map encTwo))) S := twos_gen lt 0 h (.inl rfl) S
def heads (G : List (List Nat)) : List Nat := G.map fun g => g.headD 0
def prts (f : Face) (P : List Pair) (L : List Nat) : List PyData := (twosUpTo L L.length).map fun p => prtL f.lets P p.1 p.2
theorem head_item {g : List Nat} (h : g ≠ []) (S : Sto) : itemD (.py (.tuple (g.map lt))) (.py (.int 0)) S = .ok (.py (lt (g.headD 0))) S := by
  cases g with
  | nil => exact absurd rfl h
  | cons a r => exact itemD_tupleI (by decide) rfl
theorem shows_lefts_eq {f : Face} {P : List Pair} (hM : Mk (leftM f P)) (hl : (groups f.lets (leftM f P)).length ≤ 200) (hg : ∀ g ∈ groups f.lets (leftM f P), g ≠ []) (S : Sto) :
    F_shows_lefts [.py f.py, .py (encP P)] S = .ok (.py (.tuple [.tuple ((heads (groups f.lets (leftM f P))).map lt), .tuple (prts f P (heads (groups f.lets (leftM f P))))])) S := by
  have lp := fun S => left_parting_eq f P S hM
  unfold F_shows_lefts b_shows_lefts
  refine fn_eq (wp_fn ?_)
  simp only [show (f.lets.map fun l => f.lets.map fun r => gapIn P l r) = leftM f P from rfl] at lp
  generalize groups f.lets (leftM f P) = G at *
  simp [init, lp]
  rw [show (List.map (D.py ∘ fun g => PyData.tuple (List.map lt g)) G) = G.map (fun g => D.py (.tuple (g.map lt))) from rfl]
  refine wp_pureM1 (fun g : List Nat => D.py (.tuple (g.map lt))) (fun g => D.py (lt (g.headD 0))) (fun g hG => wp_eq (by simp [head_item (hg g hG)])) ?_
  have e1 : (G.map fun g => D.py (lt (g.headD 0))) = ((heads G).map lt).map D.py := by simp [heads]
  rw [e1, pysOf_map]
  have hh : (heads G).length ≤ 200 := by simpa [heads] using hl
  generalize heads G = L at *
  simp [twos_eq hh]
  refine wp_pureM (D.py ∘ encTwo) (fun _ => true) (fun p => D.py (prtL f.lets P p.1 p.2)) (fun p hp => by simp [encTwo, parting_letter_eq]) ?_
  rw [List.filter_eq_self.mpr fun _ _ => rfl]
  have e2 : ((twosUpTo L L.length).map fun p => D.py (prtL f.lets P p.1 p.2)) = (prts f P L).map D.py := by simp [prts]
  rw [e2, pysOf_map]
  exact ⟨S, .self, rfl, rfl, rfl⟩
theorem prt_fit {f : Face} {P : List Pair} (b122 : ∀ c ∈ f.lets, c ≤ 122) (a b : Nat) : Fit (prtL f.lets P a b) 0 1 := by
  unfold prtL
  cases e : f.lets.find? (fun r => !decide (gapIn P a r = gapIn P b r)) with
  | none => exact Fit.none.mono (by decide) (by decide)
  | some r =>
    have := b122 r (List.mem_of_find?_eq_some e)
    exact Fit.lt (by omega)
theorem groups_len {f : Face} {P : List Pair} : (groups f.lets (leftM f P)).length ≤ f.lets.length := by
  have := firsts_len (leftM f P)
  simpa [groups, leftM] using this
theorem groups_mem {f : Face} {P : List Pair} : ∀ g ∈ groups f.lets (leftM f P), g ≠ [] ∧ ∀ c ∈ g, c ∈ f.lets := fun g hg => by
  obtain ⟨m, h1, h2⟩ := mem_groups (L := f.lets) (rowf := fun l => f.lets.map fun r => gapIn P l r) hg
  exact ⟨h1, fun c hc => (h2 c hc).1⟩
end DV

set_option maxHeartbeats 4000000
namespace DV
open PySem
/-! A gap turned, a letter left out: what the program answers of any things. -/
theorem Cut.low {S S' : Sto} (hl : S.length ≤ S'.length) (h : ∀ j, j < S.length → S'[j]? = S[j]?) : Cut S S' S :=
  ⟨hl, by
    apply List.ext_getElem?
    intro i
    by_cases hi : i < S.length
    · rw [List.getElem?_take_of_lt hi, h i hi]
    · rw [List.getElem?_eq_none (by omega), List.getElem?_eq_none (by simp; omega)], fun i o hi e => .inl ((h i hi).symm.trans e)⟩
@[simp ↓] theorem wp_methT (g : D → List D → Sto → R D) (o : Ex) (a : Ax) {σ : En} {S : Sto} {P : D → Sto → Prop} {E : Str → Sto → Prop} : (methT g o a σ S).wp P E = (o σ S).wp (fun x S1 => ∃ ts, x = .py (.tuple ts) ∧ (a σ S1).wp (fun ds S2 => (g x ds S2).wp P E) E) E := by
  unfold methT
  rw [wp_bind]
  congr 1
  funext x S1
  rcases x with d | n | n
  · cases d
    case tuple ts =>
      simp only [wp_bind]
      exact propext ⟨fun h => ⟨ts, rfl, h⟩, fun ⟨_, _, h⟩ => h⟩
    all_goals exact propext ⟨fun h => h.elim, fun ⟨_, e, _⟩ => by cases e⟩
  · exact propext ⟨fun h => h.elim, fun ⟨_, e, _⟩ => by cases e⟩
  · exact propext ⟨fun h => h.elim, fun ⟨_, e, _⟩ => by cases e⟩
theorem find_nd {L : List Nat} {i c : Nat} (nd : L.Nodup) (h : L[i]? = some c) : L.findIdx? (fun y => decide (y = c)) = some i := by
  obtain ⟨hi, e⟩ := List.getElem?_eq_some_iff.mp h
  rw [List.findIdx?_eq_some_iff_getElem]
  refine ⟨hi, by simp [e], fun j hj => ?_⟩
  have hjl : j < L.length := by omega
  simp only [decide_eq_true_eq]
  intro z
  have := (List.getElem_inj nd).mp (z.trans e.symm)
  omega
theorem index_ltsT {L : List Nat} {i c : Nat} (nd : L.Nodup) (h : L[i]? = some c) (S : Sto) : indexTD (.py (.tuple (L.map lt))) [.py (lt c)] S = .ok (.py (.int (i : Nat))) S := by
  unfold indexTD
  simp only [strsOf_lt]
  have : ((L.map fun c => st [c]).findIdx? fun y => decide (y = ⟨#[c]⟩)) = some i := by
    rw [List.findIdx?_map, ← find_nd nd h]
    congr 1
    funext y
    have : (st [y] = (⟨#[c]⟩ : Str)) = (y = c) := by
      show ((⟨#[y]⟩ : Str) = ⟨#[c]⟩) = _
      simp
    simp only [Function.comp_apply, this]
  rw [this]
/-- the list with one gap turned -/
def gapR (R : List (List Int)) (i j : Nat) (x : Int) : List (List Int) := R.set i ((R.getD i []).set j x)
theorem with_gap_eq {f : Face} {P : List Pair} {a b i j : Nat} {x : Int} (nd : f.lets.Nodup) (h200 : f.ls.length ≤ 200) (ha : f.lets[i]? = some a) (hb : f.lets[j]? = some b) (hx : -9 ≤ x ∧ x ≤ 9) (S : Sto) :
    F_with_gap [.py f.py, .py (encP P), .py (lt a), .py (lt b), .py (.int x)] S = .ok (.py (encP (mlist f.lets (gapR (leftM f P) i j x)))) S := by
  have ma := List.mem_of_getElem? ha
  have mb := List.mem_of_getElem? hb
  have n1 := need_letter_all (f := f) (t := lt a)
  have n2 := need_letter_all (f := f) (t := lt b)
  have ia := lt_isIn ma
  have ib := lt_isIn mb
  have ig : ∀ T, F_is_gap [.py (.int x)] T = .ok (.py (.bool true)) T := fun T => by rw [is_gap_int]; simp [hx]
  have lo := letters_of_eq f
  have x1 := index_ltsT nd ha
  have x2 := index_ltsT nd hb
  have gi := fun l r T => gap_in_eq P l r T
  have hi := (List.getElem?_eq_some_iff.mp ha).1
  have hj := (List.getElem?_eq_some_iff.mp hb).1
  unfold F_with_gap b_with_gap
  refine fn_eq (wp_fn ?_)
  simp [init, n1, n2, ia, ib, ig, lo]
  refine wp_of (lcL_rowsM (D.py ∘ lt) (fun l => f.lets.map fun r => gapIn P l r) fun l hl S' => wp_eq ?_) ?_
  · simp
    refine wp_pureM1 (D.py ∘ lt) (fun r => D.py (.int (gapIn P l r))) (fun r hr => wp_eq (by simp [gi])) ?_
    simp
  have eR : (f.lets.map fun l => f.lets.map fun r => gapIn P l r) = leftM f P := rfl
  rw [eR]
  have lR : (leftM f P).length = f.lets.length := by simp [leftM]
  have hiR : i < (leftM f P).length := by omega
  have rl : (leftM f P)[i] = (leftM f P).getD i [] := by simp [hiR]
  have hjR : j < (leftM f P)[i].length := by
    have : (leftM f P)[i].length = f.lets.length := by simp [leftM]
    omega
  have G := Grid.new (S := S) (lo := S.length) (rows := leftM f P) (Nat.le_refl _)
  have low : ∀ k, k < S.length → (S ++ ((leftM f P).map fun (r : List Int) => O.lst (r.map pyi)) ++ [O.lst ((List.range' S.length (leftM f P).length).map D.obj)])[k]? = S[k]? := fun k hk => by
    rw [List.append_assoc, List.getElem?_append_left hk]
  have le : S.length ≤ (S ++ ((leftM f P).map fun (r : List Int) => O.lst (r.map pyi)) ++ [O.lst ((List.range' S.length (leftM f P).length).map D.obj)]).length := by simp
  have em : S.length + (leftM f P).length = (S ++ ((leftM f P).map fun (r : List Int) => O.lst (r.map pyi))).length := by simp
  rw [em] at G
  generalize (S ++ ((leftM f P).map fun (r : List Int) => O.lst (r.map pyi))).length = m at *
  generalize S ++ ((leftM f P).map fun (r : List Int) => O.lst (r.map pyi)) ++ [O.lst ((List.range' S.length (leftM f P).length).map D.obj)] = T0 at *
  generalize List.range' S.length (leftM f P).length = ids at *
  simp [x1, x2, G.get hiR]
  refine wp_of (G.put hiR hjR) ?_
  have G2 := G.set hiR ((leftM f P)[i].set j x)
  simp
  rw [← List.map_set]
  refine G2.fix rfl fun S' hl hs => ?_
  have fr := from_rows_eq f (gapR (leftM f P) i j x) S' h200
  have e2 : (leftM f P).set i ((leftM f P)[i].set j x) = gapR (leftM f P) i j x := by unfold gapR; rw [rl]
  rw [e2]
  simp [fr]
  refine ⟨Cut.low (by rw [hl]; simpa using le) fun k hk => ?_, rfl⟩
  rw [hs k hk, List.getElem?_set_ne, low k hk]
  have := (G.own _ (List.getElem_mem (by rw [G.len]; exact hiR) : ids[i]'(by rw [G.len]; exact hiR) ∈ ids)).1
  omega
end DV

set_option maxHeartbeats 4000000
namespace DV
open PySem
/-! A letter made like another one. -/
@[simp ↓] theorem wp_dictT (f : Ex) {σ : En} {S : Sto} {P : D → Sto → Prop} {E : Str → Sto → Prop} : (dictT f σ S).wp P E = (f σ S).wp (fun d S1 => ∃ ds kv, d = .py (.tuple ds) ∧ pairsOf ds = some kv ∧ (kv.map Prod.fst).Nodup ∧ P (.py (.dict (kv.map fun p => (keyP p.1, p.2)))) S1) E := by
  unfold dictT
  rw [wp_bind]
  congr 1
  funext d S1
  rcases d with d | n | n
  · cases d
    case tuple ds =>
      cases h : pairsOf ds with
      | none =>
        simp only [h]
        exact propext ⟨fun h => h.elim, fun ⟨_, _, e, h2, _⟩ => by cases e; rw [h] at h2; cases h2⟩
      | some kv =>
        simp only [h]
        rw [wp_iteR]
        split
        · rename_i hz
          exact propext ⟨fun p => ⟨_, _, rfl, h, hz, p⟩, fun ⟨_, _, e, h2, _, p⟩ => by cases e; rw [h] at h2; cases h2; exact p⟩
        · rename_i hz
          exact propext ⟨fun p => p.elim, fun ⟨_, _, e, h2, z, p⟩ => by cases e; rw [h] at h2; cases h2; exact hz z⟩
    all_goals exact propext ⟨fun h => h.elim, fun ⟨_, _, e, _⟩ => by cases e⟩
  · exact propext ⟨fun h => h.elim, fun ⟨_, _, e, _⟩ => by cases e⟩
  · exact propext ⟨fun h => h.elim, fun ⟨_, _, e, _⟩ => by cases e⟩
/-- how wide a letter of the face is -/
def wdL (f : Face) (c : Nat) : Int := ((f.ls.find? fun p => decide (p.1 = c)).map (·.2)).getD 0
theorem wdL_at {f : Face} {i c : Nat} (nd : f.lets.Nodup) (h : f.lets[i]? = some c) : ∃ p, f.ls[i]? = some p ∧ p.1 = c ∧ p.2 = wdL f c := by
  have h' := h
  unfold Face.lets at h'
  rw [List.getElem?_map, Option.map_eq_some_iff] at h'
  obtain ⟨p, hp, e⟩ := h'
  refine ⟨p, hp, e, ?_⟩
  unfold wdL
  have : f.ls.find? (fun p => decide (p.1 = c)) = some p := by
    cases q : f.ls.find? (fun p => decide (p.1 = c)) with
    | none => exact absurd (List.find?_eq_none.mp q p (List.mem_of_getElem? hp)) (by simp [e])
    | some p' =>
      have m := List.mem_of_find?_eq_some q
      have e' : p'.1 = c := by simpa using List.find?_some q
      obtain ⟨j, hj, ej⟩ := List.mem_iff_getElem.mp m
      have hj2 : f.lets[j]? = some c := by
        unfold Face.lets
        rw [List.getElem?_map, List.getElem?_eq_getElem hj, ej]
        exact congrArg some e'
      have : i = j := nodup_get nd h hj2
      subst this
      rw [List.getElem?_eq_getElem hj, ej] at hp
      exact hp
  rw [this]
  rfl
def addF (f : Face) (c : Nat) (w : Int) : Face := ⟨f.w, f.ls ++ [(c, w)]⟩
theorem addF_lets (f : Face) (c : Nat) (w : Int) : (addF f c w).lets = f.lets ++ [c] := by simp [addF, Face.lets]
theorem addF_py (f : Face) (c : Nat) (w : Int) : (addF f c w).py = .tuple [.int f.w, .tuple (f.ls.map encL ++ [.tuple [lt c, .int w]])] := by simp [addF, Face.py, encL]
theorem addF_good {f : Face} {lo hi : Int} (g : f.Good lo hi) {c : Nat} {w : Int} (hc : c ∉ f.lets) (h1 : 97 ≤ c ∧ c ≤ 122) (h2 : 10 ≤ w ∧ w ≤ 99) : (addF f c w).Good lo (hi + 1) := by
  refine ⟨g.w0, g.w1, ?_, ?_, ?_, ?_⟩
  · have := g.lo
    simp [addF]
    omega
  · have := g.hi
    simp [addF]
    omega
  · show ((f.ls ++ [(c, w)]).map (·.1)).Nodup
    rw [List.map_append, List.nodup_append]
    refine ⟨g.nd, by simp, fun x hx y hy => ?_⟩
    simp at hy
    rintro rfl
    exact hc (hy ▸ hx)
  · intro q hq
    have hq : q ∈ f.ls ++ [(c, w)] := hq
    rw [List.mem_append] at hq
    rcases hq with hq | hq
    · exact g.ok q hq
    · simp at hq
      subst hq
      exact ⟨h1.1, h1.2, h2.1, h2.2⟩
/-- the rows of a list with a letter like another one -/
def likeR (f : Face) (P : List Pair) (o : Nat) : List (List Int) := (f.lets ++ [o]).map fun l => (f.lets ++ [o]).map fun r => gapIn P l r
theorem with_like_eq {f : Face} {P : List Pair} {c o : Nat} (nd : f.lets.Nodup) (h9 : f.ls.length < 10) (hc : c ∉ f.lets) (h1 : 97 ≤ c ∧ c ≤ 122) (ho : o ∈ f.lets) (S : Sto) :
    F_with_like [.py f.py, .py (encP P), .py (lt c), .py (lt o)] S = .ok (.py (.tuple [(addF f c (wdL f o)).py, encP (mlist (f.lets ++ [c]) (likeR f P o))])) S := by
  have sh : Short 10000 (lt c) := fun x e => by cases e; simp [Str.length]
  have n1 := fun T => need_fresh_any (f := f) sh T
  have hd : isL (lt c) = some c := by simp [isL, h1]
  have hyes : ∃ c', isL (lt c) = some c' ∧ c' ∉ f.lets := ⟨c, hd, hc⟩
  simp only [if_pos hyes] at n1
  have n2 := need_letter_all (f := f) (t := lt o)
  have io := lt_isIn ho
  have n3 := fun T => need_room_any (f := f) T
  simp only [if_neg (show ¬ 10 ≤ f.ls.length by omega)] at n3
  have gi := fun l r T => gap_in_eq P l r T
  have pp := plc_lt ho
  have at_ : f.lets[plc f.lets o]? = some o := by
    rw [List.getElem?_eq_getElem pp]
    exact congrArg some (List.getElem_idxOf pp)
  have hp : f.lets.findIdx? (isOne (lt o)) = some (plc f.lets o) := by
    rw [← find_nd nd at_]
    congr 1
    funext y
    show decide ((⟨#[y]⟩ : Str) = ⟨#[o]⟩) = _
    simp
  generalize plc f.lets o = i at *
  obtain ⟨p, q1, q2, q3⟩ := wdL_at nd at_
  have pl : plcD (some i) = .int (i : Nat) := rfl
  have i0 : ∀ T, itemD (.py f.py) (.py (.int 0)) T = .ok (.py (.int f.w)) T := fun T => itemD_tupleI (by decide) rfl
  have i1 : ∀ T, itemD (.py f.py) (.py (.int 1)) T = .ok (.py (.tuple (f.ls.map encL))) T := fun T => itemD_tupleI (by decide) rfl
  have i2 : ∀ T, itemD (.py (.tuple (f.ls.map encL))) (.py (.int (i : Nat))) T = .ok (.py (encL p)) T := fun T => itemD_tuple i (by rw [List.getElem?_map, q1]; rfl)
  have i3 : ∀ T, itemD (.py (encL p)) (.py (.int 1)) T = .ok (.py (.int (wdL f o))) T := fun T => by rw [← q3]; exact itemD_tupleI (by decide) rfl
  have adt : ∀ T, addD (.py (.tuple (f.ls.map encL))) (.py (.tuple [.tuple [lt c, .int (wdL f o)]])) T = .ok (.py (.tuple (f.ls.map encL ++ [.tuple [lt c, .int (wdL f o)]]))) T := fun T => by
    unfold addD
    simp only
    rw [if_pos (by rw [List.length_map, sl_big']; simp; omega)]
  have lo := letters_of_eq (addF f c (wdL f o))
  rw [addF_lets, addF_py] at lo
  have ec : ∀ (x : Nat) T, eqD (.py (lt x)) (.py (lt c)) T = .ok (.py (.bool (decide (x = c)))) T := fun x T => by
    rw [eq_all]
    congr 3
    show decide ((⟨#[x]⟩ : Str) = ⟨#[c]⟩) = _
    simp
  have fr := from_rows_eq (addF f c (wdL f o)) (likeR f P o) S (by simp [addF]; omega)
  rw [addF_lets, addF_py] at fr
  rw [addF_py]
  have hst : ((f.lets ++ [c]).map fun x => if x = c then o else x) = f.lets ++ [o] := by
    rw [List.map_append]
    have : (f.lets.map fun x => if x = c then o else x) = f.lets := by
      conv => rhs; rw [← List.map_id f.lets]
      refine List.map_congr_left fun x hx => ?_
      have : x ≠ c := fun e => hc (e ▸ hx)
      rw [if_neg this]
      rfl
    rw [this]
    simp
  obtain ⟨lp, hlp⟩ : ∃ lp, lp = PyData.tuple [.int f.w, .tuple (f.ls.map encL ++ [.tuple [lt c, .int (wdL f o)]])] := ⟨_, rfl⟩
  rw [← hlp] at lo fr ⊢
  unfold F_with_like b_with_like
  refine fn_eq (wp_fn ?_)
  simp [init, n1, n2, io, hp, pl, n3, i0, i1, i2, i3, adt, ← hlp, lo]
  have e0 : List.map (D.py ∘ lt) f.lets ++ [D.py (lt c)] = (f.lets ++ [c]).map (D.py ∘ lt) := by simp
  rw [e0]
  refine wp_pureM1 (D.py ∘ lt) (fun x => D.py (lt (if x = c then o else x))) (fun x hx => ?_) ?_
  · by_cases e : x = c
    · exact wp_eq (by simp [ec, e])
    · exact wp_eq (by simp [ec, e])
  have e1 : ((f.lets ++ [c]).map fun x => D.py (lt (if x = c then o else x))) = ((f.lets ++ [o]).map lt).map D.py := by
    rw [← hst, List.map_map, List.map_map]
    rfl
  rw [e1, pysOf_map]
  simp only [List.map_map]
  refine wp_pureM1 (D.py ∘ lt) (fun l => D.py (.list (((f.lets ++ [o]).map fun r => gapIn P l r).map .int))) (fun l hl => wp_eq ?_) ?_
  · have sq : ∀ T, varE 6 [some (D.py f.py), some (D.py (encP P)), some (D.py (lt c)), some (D.py (lt o)), some (D.py (PyData.int (i : Nat))), some (D.py lp), some (D.py (.list ((f.lets ++ [o]).map lt))), none, none, some (D.py (lt l)), none] T = .ok (D.py (.list ((f.lets ++ [o]).map lt))) T := fun T => rfl
    simp [-List.map_append]
    refine wp_pureM1 (D.py ∘ lt) (fun r => D.py (.int (gapIn P l r))) (fun r hr => wp_eq (by simp [gi])) ?_
    have e2 : ((f.lets ++ [o]).map fun r => D.py (.int (gapIn P l r))) = (((f.lets ++ [o]).map fun r => gapIn P l r).map PyData.int).map D.py := by rw [List.map_map, List.map_map]; rfl
    rw [e2, pysOf_map]
    simp
  have e3 : ((f.lets ++ [o]).map fun l => D.py (.list (((f.lets ++ [o]).map fun r => gapIn P l r).map .int))) = ((likeR f P o).map fun r => PyData.list (r.map .int)).map D.py := by
    unfold likeR
    rw [List.map_map, List.map_map]
    rfl
  rw [e3, pysOf_map]
  have fr' : F_from_rows [.py lp, .py (.list ((likeR f P o).map fun r => PyData.list (r.map .int)))] S = .ok (.py (encP (mlist (f.lets ++ [c]) (likeR f P o)))) S := fr
  simp only [fr', wp_ok]
  exact ⟨S, .self, rfl, rfl, rfl⟩
end DV

set_option maxHeartbeats 4000000
namespace DV
open PySem
/-! Tuples of pairs in order, each with a gap, asked of any thing. -/
def ltC (a b : Nat × Nat × Int) : Prop := a.1 < b.1 ∨ (a.1 = b.1 ∧ a.2.1 < b.2.1)
instance (a b : Nat × Nat × Int) : Decidable (ltC a b) := by unfold ltC; infer_instance
theorem three {gs : List PyData} (h : gs.length = 3) : ∃ a b c, gs = [a, b, c] := by
  match gs, h with
  | [a, b, c], _ => exact ⟨a, b, c, rfl⟩
/-! ### the law's own -/
end DV

set_option maxHeartbeats 4000000
namespace DV
open PySem
/-! The law's things: some told ones, many spoilt ones. -/
theorem bulk_len : ∀ ds : List PyData, ds.length ≤ PyData.bulkAll ds
  | [] => Nat.zero_le _
  | d :: ds => by
    have := bulk_len ds
    rw [PyData.bulkAll.eq_2, List.length_cons]
    omega
theorem FitX.len {ts : List PyData} {k w : Nat} (h : FitX (.tuple ts) k w) : ts.length ≤ w := by
  obtain ⟨j, _, _, hb⟩ := h.items
  exact Nat.le_trans (bulk_len ts) hb
end DV

set_option maxHeartbeats 4000000
namespace DV
open PySem
/-! Partings, asked of any thing. -/
def pInts (is : List Nat) : List Int := is.map fun k : Nat => (k : Int)
@[simp] theorem pInts_len (is : List Nat) : (pInts is).length = is.length := by simp [pInts]
@[simp] theorem headD_take (is : List Nat) (h : is ≠ []) : is.take 1 = [is.headD 0] := by
  cases is with
  | nil => exact absurd rfl h
  | cons a r => rfl
/-! ### what is a parting is one -/
end DV

set_option maxHeartbeats 4000000
namespace DV
open PySem
/-! Lists with open pairs. -/
end DV

set_option maxHeartbeats 4000000
namespace DV
open PySem
/-! Open lists closed by a parting. -/
/-- a list of the store that is filled while others come and go above it -/
def Fil (S : Sto) (ds : List PyData) (T : Sto) : Prop := ∃ G, T = S ++ O.lst (ds.map D.py) :: G
theorem Fil.get {S T : Sto} {ds : List PyData} (h : Fil S ds T) : T[S.length]? = some (.lst (ds.map D.py)) := by
  obtain ⟨G, rfl⟩ := h
  simp
theorem Fil.app {S T : Sto} {ds : List PyData} (h : Fil S ds T) (hl : ds.length ≤ 100000) (d : PyData) : ∃ U, appendD (.obj S.length) [.py d] T = .ok (.py .none) U ∧ Fil S (ds ++ [d]) U := by
  have hg := h.get
  obtain ⟨G, rfl⟩ := h
  refine ⟨_, appendD_obj hg (by rw [List.length_map, sl_tr]; omega), G, ?_⟩
  rw [List.set_append_right _ _ (by omega)]
  simp
theorem Fil.more {S T : Sto} {ds : List PyData} (h : Fil S ds T) (U : Sto) : Fil S ds (T ++ U) := by
  obtain ⟨G, rfl⟩ := h
  exact ⟨G ++ U, by simp⟩
end DV

set_option maxHeartbeats 4000000
namespace DV
open PySem
/-! Open lists drawn. -/
end DV

set_option maxHeartbeats 4000000
namespace DV
open PySem
/-! Open lists in order are open lists. -/
end DV

set_option maxHeartbeats 4000000
namespace DV
open PySem
/-! Is any thing a face? -/
theorem two {gs : List PyData} (h : gs.length = 2) : ∃ a b, gs = [a, b] := by
  match gs, h with
  | [a, b], _ => exact ⟨a, b, rfl⟩
/-! a set of letters -/
end DV

set_option maxHeartbeats 4000000
namespace DV
open PySem
/-! Texts that are moved where one list stands for another one. -/
def mvd (P Q : List Pair) (l : List Nat) : Bool := (l.zip (l.drop 1)).any fun p => decide (bt P p.1 p.2 ≠ bt Q p.1 p.2)
theorem is_moved_eq (P Q : List Pair) {l : List Nat} (hl : l.length ≤ 10000) (S : Sto) : F_is_moved [.py (encP P), .py (encP Q), .py (tx l)] S = .ok (.py (.bool (mvd P Q l))) S := by
  have sl : ∀ T, sliceV (.py (tx l)) (some 1) none T = .ok (.py (tx (l.drop 1))) T := fun T => by
    unfold sliceV
    simp only
    rw [if_pos (by rw [sl_tr]; simp [Str.length]; omega)]
    have := cutS_from (l := l) 1
    rw [show ((1 : Nat) : Int) = 1 from rfl] at this
    rw [this]
  have p1 : ∀ T, pyWalk T (.py (tx l)) = some (l.map lt) := fun T => pw_tx (by omega) T
  have p2 : ∀ T, pyWalk T (.py (tx (l.drop 1))) = some ((l.drop 1).map lt) := fun T => pw_tx (by rw [List.length_drop]; omega) T
  unfold F_is_moved b_is_moved
  refine fn_eq (wp_fn ?_)
  simp only [List.drop_one] at sl p2
  simp [init, sl]
  refine ⟨_, p1 S, _, p2 S, ?_⟩
  rw [zip_mm]
  refine wp_pureM (fun p : Nat × Nat => D.py (.tuple [lt p.1, lt p.2])) (fun _ => true) (fun p => D.py (.bool (decide (bt P p.1 p.2 ≠ bt Q p.1 p.2)))) (fun p hp => ?_) ?_
  · have ne : ∀ (a b : Int) T, neD (.py (.int a)) (.py (.int b)) T = .ok (.py (.bool (decide (a ≠ b)))) T := fun a b T => by
      show R.ok (D.py (.bool (!decide (a = b)))) T = _
      by_cases h : a = b <;> simp [h]
    simp [between_eq, ne]
  · rw [List.filter_eq_self.mpr fun _ _ => rfl]
    have e2 : ((l.zip l.tail).map fun p => D.py (.bool (decide (bt P p.1 p.2 ≠ bt Q p.1 p.2)))) = (((l.zip l.tail).map fun p => decide (bt P p.1 p.2 ≠ bt Q p.1 p.2)).map PyData.bool).map D.py := by simp
    rw [e2, pysOf_map]
    simp only [anyD_bools, wp_ok]
    refine ⟨S, .self, rfl, ?_, rfl⟩
    unfold mvd
    rw [List.any_map, List.drop_one]
    rfl
def txOf : PyData → List Nat
  | .str x => x.cps.toList
  | _ => []
def areTx (f : Face) : PyData → Bool
  | .tuple ds => ds.all (isTx f)
  | _ => false
/-- the numbers of the texts that are moved -/
def mvs (P Q : List Pair) (ds : List PyData) : List Nat := (ds.zipIdx.filter fun q => mvd P Q (txOf q.1)).map (·.2)
theorem isTx_of {f : Face} {d : PyData} (h : isTx f d = true) : d = tx (txOf d) ∧ ∀ c ∈ txOf d, f.has c := by
  obtain ⟨l, rfl, hl⟩ := isTx_tx h
  exact ⟨rfl, hl⟩
theorem moved_lines_any {f : Face} {P Q : List Pair} {p : PyData} (hs : ∀ ds, p = .tuple ds → ∀ d ∈ ds, Short 10000 d) (S : Sto) :
    (areTx f p = false → F_moved_lines [.py f.py, .py (encP P), .py (encP Q), .py p] S = .ex "NoLine" S) ∧
    ∀ ds, p = .tuple ds → areTx f p = true → F_moved_lines [.py f.py, .py (encP P), .py (encP Q), .py p] S = .ok (.py (.tuple ((mvs P Q ds).map fun k : Nat => .int k))) S := by
  refine ⟨fun h => ?_, fun ds e h => ?_⟩
  · unfold F_moved_lines b_moved_lines
    refine wp_exq (wp_fn ?_)
    cases p with
    | none => simp [init, isB]; exact .self
    | bool b => simp [init, isB]; exact .self
    | int b => simp [init, isB]; exact .self
    | str b => simp [init, isB]; exact .self
    | list b => simp [init, isB]; exact .self
    | dict b => simp [init, isiD, tyN, isB]; exact .self
    | tuple ds =>
      have hs := hs ds rfl
      simp [init, isB, -wp_forL_cons]
      refine wp_forM D.py (fun pre σ T => wipeD σ [4] = [some (.py f.py), some (.py (encP P)), some (.py (encP Q)), some (.py (.tuple ds)), none, none] ∧ T = S ∧ pre.all (isTx f) = true) ⟨rfl, rfl, rfl⟩ ?_ ?_
      · rintro pre x post σ T e ⟨hσ, rfl, hp⟩
        obtain ⟨v4, rfl⟩ := slot_any hσ
        clear hσ
        have nt := fun T => need_text_any (f := f) (hs x (by rw [e]; simp)) T
        by_cases hx : isTx f x = true
        · simp only [hx, if_true] at nt
          simp [nt]
          exact ⟨by simpa using hp, hx⟩
        · have hx' : isTx f x = false := by simpa using hx
          simp only [hx'] at nt
          simp [nt]
          exact .self
      · rintro σ T ⟨hσ, rfl, hp⟩
        exact absurd hp (by rw [show areTx f (.tuple ds) = ds.all (isTx f) from rfl] at h; rw [h]; exact Bool.false_ne_true)
  · subst e
    have hs := hs ds rfl
    have hall : ∀ d ∈ ds, isTx f d = true := List.all_eq_true.mp h
    unfold F_moved_lines b_moved_lines
    refine fn_eq (wp_fn ?_)
    simp [init, isB, -wp_forL_cons]
    refine wp_forM D.py (fun pre σ T => wipeD σ [4] = [some (.py f.py), some (.py (encP P)), some (.py (encP Q)), some (.py (.tuple ds)), none, none] ∧ T = S) ⟨rfl, rfl⟩ ?_ ?_
    · rintro pre x post σ T e ⟨hσ, rfl⟩
      obtain ⟨v4, rfl⟩ := slot_any hσ
      clear hσ
      have hx : x ∈ ds := by rw [e]; simp
      have nt := fun T => need_text_any (f := f) (hs x hx) T
      simp only [hall x hx, if_true] at nt
      simp [nt]
    · rintro σ T ⟨hσ, rfl⟩
      obtain ⟨v4, rfl⟩ := slot_any hσ
      clear hσ
      have pw : pyWalk T (.py (.tuple ds)) = some (ds.map id) := by simp [pyWalk]
      simp
      refine wp_pureM (fun q : PyData × Nat => D.py (.tuple [.int (q.2 : Nat), q.1])) (fun q => mvd P Q (txOf q.1)) (fun q => D.py (.int (q.2 : Nat))) (fun q hq => ?_) ?_
      · have hd : q.1 ∈ ds := by
          obtain ⟨x, i⟩ := q
          exact List.fst_mem_of_mem_zipIdx hq
        obtain ⟨e1, e2⟩ := isTx_of (hall _ hd)
        have sh : (txOf q.1).length ≤ 10000 := by
          have := hs _ hd _ e1
          simpa [Str.length] using this
        have im := fun T => is_moved_eq P Q sh T
        rw [← e1] at im
        simp [im]
      · have e3 : ((ds.zipIdx.filter fun q => mvd P Q (txOf q.1)).map fun q => D.py (.int (q.2 : Nat))) = ((mvs P Q ds).map fun k : Nat => PyData.int k).map D.py := by simp [mvs, Function.comp_def]
        rw [e3, pysOf_map]
        simp
        exact ⟨.self, rfl⟩
/-! ### the law's own -/
/-! ### rows from the end -/
end DV

set_option maxHeartbeats 4000000
namespace DV
open PySem
/-! A letter made like another one; a gap turned and turned back. -/
theorem zipS {α : Type} (u : Nat → α) : ∀ L : List Nat, L.zip (L.map u) = L.map fun c => (c, u c)
  | [] => rfl
  | a :: L => by simp [zipS u L]
/-! ### classes by marks -/
theorem grp_filter (L : List Nat) (μ : Nat → List Int) (m : List Int) : ((L.zip (L.map μ)).filter fun p => p.2 = m).map (·.1) = L.filter fun l => decide (μ l = m) := by
  induction L with
  | nil => rfl
  | cons a L ih =>
    simp only [List.map_cons, List.zip_cons_cons, List.filter_cons]
    by_cases h : μ a = m
    · simp [h]
      simpa using ih
    · simp [h]
      simpa using ih
theorem firsts_reps {μ ν : Nat → List Int} {L : List Nat} (h : ∀ a ∈ L, ∀ b ∈ L, ν a = ν b ↔ μ a = μ b) : ∃ rs : List Nat, (∀ r ∈ rs, r ∈ L) ∧ firsts (L.map μ) = rs.map μ ∧ firsts (L.map ν) = rs.map ν := by
  have key : ∀ M : List Nat, (∀ a ∈ M.reverse, a ∈ L) → ∃ rs : List Nat, (∀ r ∈ rs, r ∈ M.reverse) ∧ firsts (M.reverse.map μ) = rs.map μ ∧ firsts (M.reverse.map ν) = rs.map ν := by
    intro M
    induction M with
    | nil => intro _; exact ⟨[], by simp, rfl, rfl⟩
    | cons a M ih =>
      intro hM
      simp only [List.reverse_cons] at hM ⊢
      obtain ⟨rs, h1, h2, h3⟩ := ih fun x hx => hM x (List.mem_append_left _ hx)
      have ha := hM a (by simp)
      rw [List.map_append, List.map_append, List.map_cons, List.map_cons, List.map_nil, List.map_nil, firsts_snoc, firsts_snoc]
      have e : μ a ∈ firsts (M.reverse.map μ) ↔ ν a ∈ firsts (M.reverse.map ν) := by
        rw [mem_firsts, mem_firsts, List.mem_map, List.mem_map]
        constructor
        · rintro ⟨b, hb, e⟩
          exact ⟨b, hb, (h b (hM b (List.mem_append_left _ hb)) a ha).mpr e⟩
        · rintro ⟨b, hb, e⟩
          exact ⟨b, hb, (h b (hM b (List.mem_append_left _ hb)) a ha).mp e⟩
      by_cases q : μ a ∈ firsts (M.reverse.map μ)
      · rw [if_pos q, if_pos (e.mp q)]
        exact ⟨rs, fun r hr => List.mem_append_left _ (h1 r hr), h2, h3⟩
      · rw [if_neg q, if_neg fun z => q (e.mpr z), h2, h3]
        refine ⟨rs ++ [a], fun r hr => ?_, by simp, by simp⟩
        rcases List.mem_append.mp hr with hr | hr
        · exact List.mem_append_left _ (h1 r hr)
        · exact List.mem_append_right _ hr
  have := key L.reverse (by simp)
  simpa using this
/-- a letter with the mark of another one joins its class -/
theorem groups_like {L : List Nat} {c o : Nat} {μ ν : Nat → List Int} (h : ∀ a ∈ L, ∀ b ∈ L, ν a = ν b ↔ μ a = μ b) (hc : ν c = ν o) (ho : o ∈ L) :
    groups (L ++ [c]) ((L ++ [c]).map ν) = (groups L (L.map μ)).map fun g => g ++ if o ∈ g then [c] else [] := by
  obtain ⟨rs, h1, h2, h3⟩ := firsts_reps h
  have ef : firsts ((L ++ [c]).map ν) = firsts (L.map ν) := by
    rw [List.map_append, List.map_cons, List.map_nil, firsts_snoc, if_pos]
    rw [hc, mem_firsts]
    exact List.mem_map.mpr ⟨o, ho, rfl⟩
  unfold groups
  rw [ef, h2, h3, List.map_map, List.map_map, List.map_map]
  refine List.map_congr_left fun r hr => ?_
  have hrL := h1 r hr
  simp only [Function.comp]
  simp only [grp_filter]
  rw [List.filter_append]
  have e1 : (L.filter fun l => decide (ν l = ν r)) = L.filter fun l => decide (μ l = μ r) := List.filter_congr fun l hl => by
    have := h l hl r hrL
    exact decide_eq_decide.mpr this
  rw [e1]
  congr 1
  have e2 : (o ∈ L.filter fun l => decide (μ l = μ r)) ↔ ν c = ν r := by
    rw [List.mem_filter, hc, decide_eq_true_iff, h o ho r hrL]
    exact ⟨fun z => z.2, fun z => ⟨ho, z⟩⟩
  by_cases q : ν c = ν r
  · rw [if_pos (e2.mpr q)]
    simp [q]
  · rw [if_neg fun z => q (e2.mp z)]
    simp [q]
/-! ### lists of gaps by what they say -/
def lstG2 (L : List Nat) (g : Nat → Nat → Int) : List Pair := L.flatMap fun l => (L.filter fun r => decide (g l r ≠ 0)).map fun r => (l, r, g l r)
theorem rowP_map (l : Nat) (L : List Nat) (g : Nat → Int) : rowP l L (L.map g) = (L.filter fun r => decide (g r ≠ 0)).map fun r => (l, r, g r) := by
  unfold rowP rowA
  rw [zipS, List.filter_map, List.map_map]
  rfl
theorem mlist_of (L : List Nat) (g : Nat → Nat → Int) : mlist L (L.map fun l => L.map fun r => g l r) = lstG2 L g := by
  unfold mlist lstG2
  rw [zipS, List.flatMap_map]
  congr 1
  funext l
  exact rowP_map l L _
theorem gap_lstG2 {L : List Nat} (nd : L.Nodup) {g : Nat → Nat → Int} {a b : Nat} (ha : a ∈ L) (hb : b ∈ L) : gapIn (lstG2 L g) a b = g a b := by
  rw [← mlist_of]
  obtain ⟨i, hi⟩ := List.mem_iff_getElem?.mp ha
  obtain ⟨j, hj⟩ := List.mem_iff_getElem?.mp hb
  exact gap_mlist nd hi (by rw [List.getElem?_map, hi]; rfl) hj (by rw [List.getElem?_map, hj]; rfl)
/-! ### a letter like another one -/
/-- the letter that stands for one -/
def stnd (c o x : Nat) : Nat := if x = c then o else x
theorem like_lst {f : Face} {P : List Pair} {c o : Nat} (hc : c ∉ f.lets) : mlist (f.lets ++ [c]) (likeR f P o) = lstG2 (f.lets ++ [c]) fun l r => gapIn P (stnd c o l) (stnd c o r) := by
  rw [← mlist_of]
  congr 1
  unfold likeR
  have e : f.lets ++ [o] = (f.lets ++ [c]).map (stnd c o) := by
    rw [List.map_append]
    have : f.lets.map (stnd c o) = f.lets := by
      conv => rhs; rw [← List.map_id f.lets]
      refine List.map_congr_left fun x hx => ?_
      have : x ≠ c := fun e => hc (e ▸ hx)
      unfold stnd
      rw [if_neg this]
      rfl
    rw [this]
    simp [stnd]
  rw [e, List.map_map]
  refine List.map_congr_left fun l _ => ?_
  rw [Function.comp, List.map_map]
  rfl
/-! ### what it says is a list of the face -/
end DV
namespace DV
open PySem
theorem groups_stnd {L : List Nat} {c o : Nat} (h : Nat → Nat → Int) (hc : c ∉ L) (ho : o ∈ L) :
    groups (L ++ [c]) ((L ++ [c]).map fun a => (L ++ [c]).map fun r => h (stnd c o a) (stnd c o r)) = (groups L (L.map fun a => L.map fun r => h a r)).map fun g => g ++ if o ∈ g then [c] else [] := by
  have hs : ∀ x ∈ L, stnd c o x = x := fun x hx => by
    have : x ≠ c := fun e => hc (e ▸ hx)
    unfold stnd
    rw [if_neg this]
  have hcs : stnd c o c = o := by simp [stnd]
  refine groups_like (μ := fun a => L.map fun r => h a r) (ν := fun a => (L ++ [c]).map fun r => h (stnd c o a) (stnd c o r)) (fun a ha b hb => ?_) ?_ ho
  · have e : ∀ x ∈ L, ((L ++ [c]).map fun r => h (stnd c o x) (stnd c o r)) = (L.map fun r => h x r) ++ [h x o] := fun x hx => by
      rw [List.map_append, hs x hx]
      congr 1
      · exact List.map_congr_left fun r hr => by rw [hs r hr]
      · simp [hcs]
    show ((L ++ [c]).map fun r => h (stnd c o a) (stnd c o r)) = ((L ++ [c]).map fun r => h (stnd c o b) (stnd c o r)) ↔ _
    rw [e a ha, e b hb]
    constructor
    · intro q
      exact (List.append_inj q (by simp)).1
    · intro q
      have q : (L.map fun r => h a r) = L.map fun r => h b r := q
      rw [q]
      congr 2
      obtain ⟨i, hi⟩ := List.mem_iff_getElem?.mp ho
      have := congrArg (fun l => l[i]?) q
      simp only [List.getElem?_map, hi, Option.map_some] at this
      exact Option.some.inj this
  · show ((L ++ [c]).map fun r => h (stnd c o c) (stnd c o r)) = (L ++ [c]).map fun r => h (stnd c o o) (stnd c o r)
    rw [hcs, hs o ho]
/-! ### one gap is given anew -/
theorem gapR_of {L : List Nat} {g : Nat → Nat → Int} (nd : L.Nodup) {i j a b : Nat} (hi : L[i]? = some a) (hj : L[j]? = some b) (x : Int) :
    gapR (L.map fun l => L.map fun r => g l r) i j x = L.map fun l => L.map fun r => if l = a ∧ r = b then x else g l r := by
  have hil := (List.getElem?_eq_some_iff.mp hi).1
  have hjl := (List.getElem?_eq_some_iff.mp hj).1
  have inj : ∀ {m k y : Nat}, L[m]? = some y → L[k]? = some y → m = k := fun {m k y} h1 h2 => by
    obtain ⟨q1, e1⟩ := List.getElem?_eq_some_iff.mp h1
    obtain ⟨q2, e2⟩ := List.getElem?_eq_some_iff.mp h2
    have pw := List.pairwise_iff_getElem.mp nd
    rcases Nat.lt_trichotomy m k with h | h | h
    · exact absurd (e1.trans e2.symm) (pw m k q1 q2 h)
    · exact h
    · exact absurd (e2.trans e1.symm) (pw k m q2 q1 h)
  unfold gapR
  apply List.ext_getElem?
  intro m
  rw [List.getElem?_set]
  have er : (L.map fun l => L.map fun r => g l r).getD i [] = L.map fun r => g a r := by
    rw [List.getD_eq_getElem?_getD, List.getElem?_map, hi]
    rfl
  by_cases hm : i = m
  · subst hm
    rw [if_pos rfl, if_pos (by simpa using hil), List.getElem?_map, hi, er]
    show some _ = some _
    congr 1
    apply List.ext_getElem?
    intro k
    rw [List.getElem?_set]
    by_cases hk : j = k
    · subst hk
      rw [if_pos rfl, if_pos (by simpa using hjl), List.getElem?_map, hj]
      simp
    · rw [if_neg hk, List.getElem?_map, List.getElem?_map]
      cases q : L[k]? with
      | none => rfl
      | some y =>
        have : y ≠ b := fun e => hk (inj hj (e ▸ q))
        simp [this]
  · rw [if_neg hm, List.getElem?_map, List.getElem?_map]
    cases q : L[m]? with
    | none => rfl
    | some y =>
      have : y ≠ a := fun e => hm (inj hi (e ▸ q))
      simp [this]
theorem with_gap_lst {f : Face} {P : List Pair} (nd : f.lets.Nodup) {i j a b : Nat} (hi : f.lets[i]? = some a) (hj : f.lets[j]? = some b) (x : Int) :
    mlist f.lets (gapR (leftM f P) i j x) = lstG2 f.lets fun l r => if l = a ∧ r = b then x else gapIn P l r := by
  have : leftM f P = f.lets.map fun l => f.lets.map fun r => gapIn P l r := rfl
  rw [this, gapR_of nd hi hj, mlist_of]
/-! ### signs that begin elsewhere -/
/-! ### a face is one -/
theorem law_fresh_new {S : Sto} {n : Nat} {f : Face} (hB : BoxAt S n) (b122 : ∀ c ∈ f.lets, c ≤ 122) (h10 : f.ls.length ≤ 10) :
    (F_law_fresh [.obj n, .py f.py] S).wp (fun d S' => ∃ c, d = .py (lt c) ∧ c ∉ f.lets ∧ (97 ≤ c ∧ c ≤ 122) ∧ Ch n S S') noE := by
  have hn := hB.lt
  have tk : ∀ {T : Sto} (m : Int), Ch n S T → 0 < m → m < 1073741824 → (F_law_take [.obj n, .py (.int m)] T).wp (fun d S2 => ∃ r, d = .py (PyData.int r) ∧ (0 ≤ r ∧ r < m) ∧ Ch n T S2) noE := fun m c a b =>
    (take_ok c.box a b).to fun d S2 ⟨r, e, r0, r1, c2, _⟩ => ⟨r, e, ⟨r0, r1⟩, c2⟩
  have c0 : Ch n S S := Ch.refl hB
  unfold F_law_fresh b_law_fresh
  refine wp_fn ?_
  have al : (Str.ofString "abcdefghijklmnopqrstuvwxyz").length ≤ 16777216 := by decide +kernel
  simp [init, law_letters_eq]
  refine ⟨al, ?_⟩
  rw [alphabet]
  refine wp_pureM (fun c : Nat => D.py (.str ⟨#[c]⟩)) (fun c => !decide (c ∈ f.lets)) (fun c => D.py (lt c)) (fun c hc => ?_) ?_
  · have hc' : c ≤ 300 := by
      simp at hc
      omega
    have ni := fun T => not_in_lts b122 (by simp; omega) c hc' T
    simp [ni]
    exact Decidable.em _
  have e2 : ((((List.range 26).map (97 + ·)).filter fun c => !decide (c ∈ f.lets)).map fun c => D.py (lt c)) = ((((List.range 26).map (97 + ·)).filter fun c => !decide (c ∈ f.lets)).map lt).map D.py := by simp
  rw [e2, pysOf_map]
  have hne : 0 < (((List.range 26).map (97 + ·)).filter fun c => !decide (c ∈ f.lets)).length := by
    refine Nat.pos_of_ne_zero fun e => ?_
    rw [List.length_eq_zero_iff, List.filter_eq_nil_iff] at e
    have := sub_len (l := (List.range 26).map (97 + ·)) (A := f.lets) (by decide +kernel) fun x hx => by simpa using e x hx
    simp at this
    omega
  have hm : ∀ c ∈ (((List.range 26).map (97 + ·)).filter fun c => !decide (c ∈ f.lets)), c ∉ f.lets ∧ (97 ≤ c ∧ c ≤ 122) := fun c hc => by
    have h2 := (List.mem_filter.mp hc).2
    have := (List.mem_filter.mp hc).1
    simp at this h2
    exact ⟨h2, by omega⟩
  have hlen : (((List.range 26).map (97 + ·)).filter fun c => !decide (c ∈ f.lets)).length ≤ 26 := by
    have := List.length_filter_le (fun c => !decide (c ∈ f.lets)) ((List.range 26).map (97 + ·))
    simpa using this
  generalize (((List.range 26).map (97 + ·)).filter fun c => !decide (c ∈ f.lets)) = G at *
  simp
  refine (tk G.length c0 (by omega) (by omega)).to ?_
  rintro _ T1 ⟨r, rfl, hr, c1⟩
  have hl : r.toNat < G.length := by omega
  have it : itemD (.py (.list (G.map lt))) (.py (.int r)) T1 = .ok (.py (lt G[r.toNat])) T1 := itemD_listI hr.1 (by simp [hl])
  rw [it]
  simp only [wp_ok]
  obtain ⟨U, k1, k2, _⟩ := c1.cut hn
  have := hm _ (List.getElem_mem hl)
  exact ⟨U, k1, rfl, _, rfl, this.1, this.2, k2⟩
end DV

set_option maxHeartbeats 4000000
namespace DV
open PySem
/-! Faces in which one sign stands for another: all widths are the same. -/
structure Hom (f f' : Face) (P P' : List Pair) (φ : Nat → Nat) : Prop where
  sw : ∀ c, f'.has c → sw f' c = sw f (φ c)
  bt : ∀ a b, f'.has a → f'.has b → bt P' a b = bt P (φ a) (φ b)
  b32 : φ 32 = 32
  lets : ∀ c ∈ f'.lets, φ c ∈ f.lets
  w : f'.w = f.w
section
variable {f f' : Face} {P P' : List Pair} {φ : Nat → Nat}
theorem Hom.has (h : Hom f f' P P' φ) {c : Nat} (hc : f'.has c) : f.has (φ c) := by
  rcases hc with rfl | hc
  · rw [h.b32]; exact .inl rfl
  · exact .inr (h.lets c hc)
theorem getD_map0 (φ : Nat → Nat) {l : List Nat} {i : Nat} (hi : i < l.length) : (l.map φ).getD i 0 = φ (l.getD i 0) := by
  rw [List.getD_eq_getElem?_getD, List.getD_eq_getElem?_getD, List.getElem?_map, List.getElem?_eq_getElem hi]
  rfl
theorem getD_mem {l : List Nat} {i : Nat} (hi : i < l.length) : l.getD i 0 ∈ l := by
  rw [List.getD_eq_getElem?_getD, List.getElem?_eq_getElem hi]
  exact List.getElem_mem hi
theorem Hom.bg (h : Hom f f' P P' φ) {l : List Nat} (hl : ∀ c ∈ l, f'.has c) : ∀ i, i < l.length → bg f' P' l i = bg f P (l.map φ) i
  | 0, _ => rfl
  | k + 1, hi => by
    have hk : k < l.length := by omega
    rw [DV.bg, DV.bg, h.bg hl k hk, getD_map0 φ hk, getD_map0 φ hi, h.sw _ (hl _ (getD_mem hk)), h.bt _ _ (hl _ (getD_mem hk)) (hl _ (getD_mem hi))]
theorem Hom.begs (h : Hom f f' P P' φ) {l : List Nat} (hl : ∀ c ∈ l, f'.has c) : begs f' P' l = begs f P (l.map φ) := by
  unfold DV.begs
  rw [List.length_map]
  exact List.map_congr_left fun i hi => h.bg hl i (List.mem_range.mp hi)
theorem Hom.wd (h : Hom f f' P P' φ) {l : List Nat} (hl : ∀ c ∈ l, f'.has c) : wd f' P' l = wd f P (l.map φ) := by
  unfold DV.wd
  have e1 : l.map (DV.sw f') = (l.map φ).map (DV.sw f) := by
    rw [List.map_map]
    exact List.map_congr_left fun c hc => h.sw c (hl c hc)
  have e2 : ((l.zip (l.drop 1)).map fun p => DV.bt P' p.1 p.2) = ((l.map φ).zip ((l.map φ).drop 1)).map fun p => DV.bt P p.1 p.2 := by
    rw [← List.map_drop, List.zip_map, List.map_map]
    refine List.map_congr_left fun p hp => ?_
    obtain ⟨h1, h2⟩ := List.of_mem_zip hp
    exact h.bt _ _ (hl _ h1) (hl _ (List.mem_of_mem_drop h2))
  rw [e1, e2]
theorem Hom.span (h : Hom f f' P P' φ) {l : List Nat} (hl : ∀ c ∈ l, f'.has c) (n : Int) : idx (spanAt f' P' l n) l.length = idx (spanAt f P (l.map φ) n) (l.map φ).length := by
  have e : ∀ i ∈ List.range l.length, spanAt f' P' l n i = spanAt f P (l.map φ) n i := fun i hi => by
    have hi := List.mem_range.mp hi
    unfold spanAt
    rw [h.bg hl i hi, getD_map0 φ hi, h.sw _ (hl _ (getD_mem hi))]
  unfold idx
  rw [List.length_map]
  have : ∀ (L : List Nat), (∀ i ∈ L, spanAt f' P' l n i = spanAt f P (l.map φ) n i) → L.find? (spanAt f' P' l n) = L.find? (spanAt f P (l.map φ) n) := by
    intro L
    induction L with
    | nil => intro _; rfl
    | cons a r ih =>
      intro q
      rw [List.find?_cons, List.find?_cons, q a (by simp), ih fun i hi => q i (List.mem_cons_of_mem _ hi)]
  rw [this _ e]
/-! ### words and lines -/
abbrev mm (φ : Nat → Nat) (ws : List (List Nat)) : List (List Nat) := ws.map (List.map φ)
theorem jn_mm (hb : φ 32 = 32) : ∀ ws : List (List Nat), (jn ws).map φ = jn (mm φ ws)
  | [] => rfl
  | [w] => rfl
  | w :: v :: r => by
    show (w ++ 32 :: jn (v :: r)).map φ = w.map φ ++ 32 :: jn (mm φ (v :: r))
    rw [← jn_mm hb (v :: r), List.map_append, List.map_cons, hb]
def AllH (f : Face) (ws : List (List Nat)) : Prop := ∀ w ∈ ws, ∀ c ∈ w, f.has c
theorem AllH.of (h : ∀ w ∈ ws, ∀ c ∈ w, c ∈ f.lets) : AllH f ws := fun w hw c hc => .inr (h w hw c hc)
theorem jn_hasH : ∀ {ws : List (List Nat)}, AllH f ws → ∀ c ∈ jn ws, f.has c
  | [], _, c, hc => by cases hc
  | [w], h, c, hc => h w (by simp) c hc
  | w :: v :: r, h, c, hc => by
    have hc : c ∈ w ++ 32 :: jn (v :: r) := hc
    rw [List.mem_append, List.mem_cons] at hc
    rcases hc with hc | rfl | hc
    · exact h w (by simp) c hc
    · exact .inl rfl
    · exact jn_hasH (fun w hw => h w (List.mem_cons_of_mem _ hw)) c hc
theorem Hom.fillS (h : Hom f f' P P' φ) (n : Int) {ls : List (List Nat)} {w : List Nat} (hl : AllH f' ls) (hw : ∀ c ∈ w, f'.has c) : mm φ (fillS f' P' n ls w) = fillS f P n (mm φ ls) (w.map φ) ∧ AllH f' (fillS f' P' n ls w) := by
  by_cases e : ls = []
  · subst e
    exact ⟨rfl, fun v hv => by
      have : v = w := by simpa [DV.fillS] using hv
      subst this
      exact hw⟩
  · obtain ⟨r, x, rfl⟩ := snoc_of e
    have hx : ∀ c ∈ x ++ 32 :: w, f'.has c := fun c hc => by
      rw [List.mem_append, List.mem_cons] at hc
      rcases hc with hc | rfl | hc
      · exact hl x (by simp) c hc
      · exact .inl rfl
      · exact hw c hc
    have em : mm φ (r ++ [x]) = mm φ r ++ [x.map φ] := by simp [mm]
    have ew : (x ++ 32 :: w).map φ = x.map φ ++ 32 :: w.map φ := by simp [h.b32]
    rw [em, fillS_cons, fillS_cons, h.wd hx, ew]
    split
    · refine ⟨by simp [mm, h.b32], fun v hv => ?_⟩
      rw [List.mem_append, List.mem_singleton] at hv
      rcases hv with hv | rfl
      · exact hl v (by simp [hv])
      · exact hx
    · refine ⟨by simp [mm], fun v hv => ?_⟩
      rw [List.mem_append, List.mem_singleton] at hv
      rcases hv with hv | rfl
      · exact hl v hv
      · exact hw
theorem Hom.fillG (h : Hom f f' P P' φ) (n : Int) : ∀ (ws : List (List Nat)), AllH f' ws → ∀ ls, AllH f' ls → mm φ (ws.foldl (DV.fillS f' P' n) ls) = (mm φ ws).foldl (DV.fillS f P n) (mm φ ls) ∧ AllH f' (ws.foldl (DV.fillS f' P' n) ls)
  | [], _, ls, hl => ⟨rfl, hl⟩
  | w :: r, hw, ls, hl => by
    obtain ⟨e, a⟩ := h.fillS n hl (hw w (by simp))
    have := h.fillG n r (fun v hv => hw v (List.mem_cons_of_mem _ hv)) _ a
    rw [e] at this
    exact this
theorem Hom.fill (h : Hom f f' P P' φ) (n : Int) {ws : List (List Nat)} (hw : AllH f' ws) : mm φ (fill f' P' n ws) = fill f P n (mm φ ws) :=
  (h.fillG n ws hw [] (fun _ q => nomatch q)).1
theorem lnW_mm (ws : List (List Nat)) (a b : Nat) : mm φ (lnW ws a b) = lnW (mm φ ws) a b := by
  unfold lnW mm
  rw [List.map_take, List.map_drop]
theorem lnW_all {ws : List (List Nat)} (h : AllH f ws) (a b : Nat) : AllH f (lnW ws a b) := fun w hw => h w (List.mem_of_mem_drop (List.mem_of_mem_take hw))
theorem Hom.cost (h : Hom f f' P P' φ) (n : Int) {ws : List (List Nat)} (hw : AllH f' ws) : cost f' P' n ws = cost f P n (mm φ ws) := by
  funext a b
  unfold DV.cost
  rw [h.wd (jn_hasH (lnW_all hw a b)), jn_mm h.b32, lnW_mm, List.length_map]
theorem Hom.prices (h : Hom f f' P P' φ) (n : Int) {ws : List (List Nat)} (hw : AllH f' ws) : ∀ k, prices f' P' n ws k = prices f P n (mm φ ws) k
  | 0 => rfl
  | k + 1 => by
    rw [DV.prices, DV.prices, h.prices n hw k, h.cost n hw, List.length_map]
theorem Hom.gRow (h : Hom f f' P P' φ) (n : Int) {ws : List (List Nat)} (hw : AllH f' ws) (k : Nat) : gRow f' P' n ws k = gRow f P n (mm φ ws) k := by
  have e : price f' P' n ws = price f P n (mm φ ws) := by
    funext j
    unfold price
    rw [h.prices n hw]
  unfold DV.gRow
  rw [h.cost n hw, e, List.length_map]
theorem linesAt_mm (ws : List (List Nat)) : ∀ (row : List Nat) (a : Nat), (linesAt ws a row).map (mm φ) = linesAt (mm φ ws) a row
  | [], _ => rfl
  | m :: r, a => by
    rw [linesAt, linesAt, List.map_cons, lnW_mm, linesAt_mm ws r]
end
/-- a letter that stands for another one -/
theorem hom_like {f : Face} {P : List Pair} {c o : Nat} {w : Int} (nd : f.lets.Nodup) (b97 : ∀ x ∈ f.lets, 97 ≤ x) (hc : c ∉ f.lets) (h97 : 97 ≤ c) (ho : o ∈ f.lets) (hw : w = wdL f o) :
    Hom f (addF f c w) P (mlist (f.lets ++ [c]) (likeR f P o)) (stnd c o) := by
  have nd' : (f.lets ++ [c]).Nodup := by
    rw [List.nodup_append]
    refine ⟨nd, by simp, fun x hx y hy => ?_⟩
    simp at hy
    rintro rfl
    exact hc (hy ▸ hx)
  have s32 : stnd c o 32 = 32 := by
    unfold stnd
    rw [if_neg (by omega)]
  have ne : ∀ x, x ∈ f.lets ++ [c] → x ≠ 32 ∧ stnd c o x ≠ 32 := fun x hx => by
    rw [List.mem_append, List.mem_singleton] at hx
    have h1 : 97 ≤ x := by
      rcases hx with hx | rfl
      · exact b97 x hx
      · exact h97
    refine ⟨by omega, ?_⟩
    unfold stnd
    split
    · have := b97 o ho; omega
    · omega
  refine ⟨fun x hx => ?_, fun a b ha hb => ?_, s32, fun x hx => ?_, rfl⟩
  · rcases hx with rfl | hx
    · rw [s32]; simp [sw, addF]
    · rw [addF_lets] at hx
      have hn := ne x hx
      unfold sw
      rw [if_neg hn.1, if_neg hn.2]
      show ((List.find? (fun p => decide (p.1 = x)) (f.ls ++ [(c, w)])).map (·.2)).getD 0 = _
      rw [List.find?_append]
      by_cases e : x = c
      · subst e
        have : f.ls.find? (fun p => decide (p.1 = x)) = none := by
          rw [List.find?_eq_none]
          intro p hp q
          exact hc (List.mem_map.mpr ⟨p, hp, by simpa using q⟩)
        rw [this]
        simp [stnd, hw, wdL]
      · have hx' : x ∈ f.lets := by
          rw [List.mem_append, List.mem_singleton] at hx
          exact hx.resolve_right e
        obtain ⟨p, hp, ep⟩ := List.mem_map.mp hx'
        have : stnd c o x = x := by unfold stnd; rw [if_neg e]
        rw [this]
        cases q : f.ls.find? (fun p => decide (p.1 = x)) with
        | none => exact absurd (List.find?_eq_none.mp q p hp) (by simp [ep])
        | some z => simp
  · unfold bt
    rcases ha with rfl | ha
    · rw [s32]; simp
    · rcases hb with rfl | hb
      · rw [s32]; simp
      · rw [addF_lets] at ha hb
        have na := ne a ha
        have nb := ne b hb
        rw [if_neg (by simp [na.1, nb.1]), if_neg (by simp [na.2, nb.2]), like_lst hc, gap_lstG2 nd' ha hb]
  · rw [addF_lets, List.mem_append, List.mem_singleton] at hx
    unfold stnd
    split
    · exact ho
    · rename_i e
      exact hx.resolve_right e
end DV

set_option maxHeartbeats 4000000
namespace DV
open PySem
/-! The gaps of two classes. -/
structure Sml (G : List (List Nat)) : Prop where
  few : G.length ≤ 10
  row : ∀ g ∈ G, g.length ≤ 10
  ne : ∀ g ∈ G, g ≠ []
  lts : ∀ g ∈ G, ∀ c ∈ g, c ≤ 122
end DV

set_option maxHeartbeats 4000000
namespace DV
open PySem
/-! All partings, as rows of class numbers. -/
abbrev e1 (r : List Int) : PyData := .int (r.headD 0)
end DV

set_option maxHeartbeats 4000000
namespace DV
open PySem
/-- one more than the greatest -/
def top : List Nat → Nat
  | [] => 0
  | x :: r => max (x + 1) (top r)
def longer (most : Nat) (r : List Nat) : List (List Nat) := (List.range (min (top r + 1) most)).map fun i => r ++ [i]
def parts (most : Nat) : Nat → List (List Nat)
  | 0 => [[]]
  | n + 1 => (parts most n).flatMap (longer most)
def iN (r : List Nat) : List Int := r.map fun (i : Nat) => (i : Int)
theorem iN_len (r : List Nat) : (iN r).length = r.length := by simp [iN]
theorem iN_snoc (r : List Nat) (i : Nat) : iN (r ++ [i]) = iN r ++ [(i : Int)] := by simp [iN]
abbrev rowN (r : List Nat) : PyData := .tuple ((iN r).map .int)
theorem add_tp {a b : List PyData} (h : a.length + b.length ≤ 100000) (S : Sto) : addD (.py (.tuple a)) (.py (.tuple b)) S = .ok (.py (.tuple (a ++ b))) S := by
  unfold addD
  simp only
  rw [if_pos (by rw [show sizeLine = 16777216 from rfl]; omega)]
theorem rngV_map (n : Nat) : rngV 0 n = (List.range n).map fun (i : Nat) => D.py (.int i) := by simp [rngV]
end DV

set_option maxHeartbeats 4000000
namespace DV
open PySem
/-! The fewest letters that part all left classes. -/
def lastOk (r : List Nat) (i : Nat) : Bool := decide (r = []) || decide (r.getLastD 0 < i)
def ext1 (n : Nat) (r : List Nat) : List (List Nat) := ((List.range n).filter (lastOk r)).map fun i => r ++ [i]
def chs (n : Nat) : Nat → List (List Nat)
  | 0 => [[]]
  | c + 1 => (chs n c).flatMap (ext1 n)
theorem lastOk_pw : ∀ {r : List Nat} {i : Nat}, r.Pairwise (· < ·) → (lastOk r i = true ↔ ∀ x ∈ r, x < i)
  | [], i, _ => by simp [lastOk]
  | [y], i, _ => by simp [lastOk]
  | x :: y :: r, i, h => by
    have h' := List.pairwise_cons.mp h
    have ih := lastOk_pw (i := i) h'.2
    have e : lastOk (x :: y :: r) i = lastOk (y :: r) i := by simp [lastOk]
    rw [e, ih]
    constructor
    · intro q z hz
      rcases List.mem_cons.mp hz with rfl | hz
      · have := h'.1 y (by simp)
        have := q y (by simp)
        omega
      · exact q z hz
    · exact fun q z hz => q z (List.mem_cons_of_mem _ hz)
theorem mem_chs {n : Nat} : ∀ {c : Nat} {r : List Nat}, r ∈ chs n c ↔ r.length = c ∧ r.Pairwise (· < ·) ∧ ∀ x ∈ r, x < n
  | 0, r => by
    unfold chs
    rw [List.mem_singleton]
    constructor
    · rintro rfl
      simp
    · exact fun h => List.eq_nil_of_length_eq_zero h.1
  | c + 1, r => by
    unfold chs
    rw [List.mem_flatMap]
    constructor
    · rintro ⟨q, hq, h⟩
      obtain ⟨i, hi, rfl⟩ := List.mem_map.mp h
      obtain ⟨h1, h2⟩ := List.mem_filter.mp hi
      have h1 := List.mem_range.mp h1
      obtain ⟨a1, a2, a3⟩ := mem_chs.mp hq
      have h2 := (lastOk_pw a2).mp h2
      refine ⟨by simp [a1], List.pairwise_append.mpr ⟨a2, by simp, fun x hx y hy => ?_⟩, fun x hx => ?_⟩
      · rw [List.mem_singleton.mp hy]
        exact h2 x hx
      · rcases List.mem_append.mp hx with hx | hx
        · exact a3 x hx
        · rw [List.mem_singleton.mp hx]
          exact h1
    · rintro ⟨a1, a2, a3⟩
      have hne : r ≠ [] := by
        rintro rfl
        simp at a1
      have e := List.dropLast_concat_getLast hne
      rw [← e] at a2
      obtain ⟨b1, _, b3⟩ := List.pairwise_append.mp a2
      refine ⟨r.dropLast, mem_chs.mpr ⟨by simp [a1], b1, fun x hx => a3 x (List.dropLast_subset _ hx)⟩, ?_⟩
      refine List.mem_map.mpr ⟨r.getLast hne, List.mem_filter.mpr ⟨List.mem_range.mpr (a3 _ (List.getLast_mem hne)), (lastOk_pw b1).mpr fun x hx => b3 x hx _ (by simp)⟩, e⟩
theorem chs_len : ∀ n c : Nat, n ≤ 10 → c ≤ 10 → (chs n c).length ≤ 252 := by
  have : ∀ n < 11, ∀ c < 11, (chs n c).length ≤ 252 := by decide +kernel
  exact fun n c h1 h2 => this n (by omega) c (by omega)
theorem ext1_len (n : Nat) (r : List Nat) : (ext1 n r).length ≤ n := by
  unfold ext1
  rw [List.length_map]
  refine Nat.le_trans (List.length_filter_le _ _) ?_
  simp
theorem item_lastN {r : List Nat} (h : r ≠ []) (S : Sto) : itemD (.py (rowN r)) (.py (.int (-1))) S = .ok (.py (.int (r.getLastD 0 : Nat))) S := by
  have e0 : r.getLastD 0 = r.getLast h := by
    cases r with
    | nil => exact absurd rfl h
    | cons a r => simp [List.getLastD]
  have e : ((iN r).map PyData.int).map D.py = ((iN r.dropLast).map PyData.int).map D.py ++ [D.py (.int (r.getLast h : Nat))] := by
    conv => lhs; rw [← List.dropLast_concat_getLast h]
    simp [iN]
  rw [e0]
  simp only [itemD, seqOf, e, L2.atI_last]
theorem eq_rowN_nil {r : List Nat} (h : ∀ x ∈ r, x < 1000) (hl : r.length ≤ 2000) (S : Sto) : eqD (.py (rowN r)) (.py (.tuple [])) S = .ok (.py (.bool (decide (r = [])))) S := by
  have := enc_tup.eq (a := iN r) (b := []) ⟨fun x hx => by
    unfold iN at hx
    obtain ⟨i, hi, rfl⟩ := List.mem_map.mp hx
    have := h i hi
    omega, by rw [iN_len]; omega⟩ ⟨by simp, by simp⟩ S
  have e : decide (iN r = []) = decide (r = []) := by
    unfold iN
    simp
  rw [e] at this
  exact this
theorem choices_eq {n c : Nat} (hn : n ≤ 10) (hc : c ≤ 10) (S : Sto) : F_choices [.py (.int (n : Nat)), .py (.int (c : Nat))] S = .ok (.py (.list ((chs n c).map rowN))) S := by
  unfold F_choices b_choices
  refine fn_eq (wp_fn ?_)
  simp [init, pysOf, -wp_forL_cons]
  refine ⟨by omega, ?_⟩
  rw [rngV_map]
  refine wp_forM (fun (i : Nat) => D.py (.int i)) (fun pre σ T => wipeD σ [3, 4, 5, 6] = [some (.py (.int (n : Nat))), some (.py (.int (c : Nat))), some (.py (.list ((chs n pre.length).map rowN))), none, none, none, none] ∧ ∃ Z, T = S ++ Z) ⟨rfl, [], by simp⟩ ?_ ?_
  · rintro pre i post σ T e ⟨hσ, hT⟩
    obtain ⟨v3, v4, v5, v6, rfl⟩ := slot4 hσ
    clear hσ
    have hp : pre.length + 1 ≤ c := by
      have := congrArg List.length e
      simp at this
      omega
    have hl : (chs n pre.length).length ≤ 252 := chs_len _ _ hn (by omega)
    have ok : ∀ r ∈ chs n pre.length, r.length ≤ 10 ∧ r.Pairwise (· < ·) ∧ ∀ x ∈ r, x < n := fun r hr => by
      obtain ⟨a1, a2, a3⟩ := mem_chs.mp hr
      exact ⟨by omega, a2, a3⟩
    have eN : chs n (pre ++ [i]).length = (chs n pre.length).flatMap (ext1 n) := by
      rw [List.length_append]
      rfl
    rw [eN]
    generalize chs n pre.length = Rs at *
    simp [-wp_forL_cons]
    rw [stL_nil]
    refine wp_forM (D.py ∘ rowN) (fun pre2 σ T' => wipeD σ [5, 6] = [some (.py (.int (n : Nat))), some (.py (.int (c : Nat))), some (.py (.list (Rs.map rowN))), some (.py (.int (i : Nat))), some (.obj T.length), none, none] ∧ T' = stL T ((pre2.flatMap (ext1 n)).map rowN)) ⟨rfl, rfl⟩ ?_ ?_
    · rintro pre2 r post2 σ T' e2 ⟨hσ, rfl⟩
      obtain ⟨v5, v6, rfl⟩ := slot2 hσ
      clear hσ
      obtain ⟨o1, o2, o3⟩ := ok r (by rw [e2]; simp)
      have hp2 : (pre2.flatMap (ext1 n)).length ≤ 2520 := by
        have := flat_len (ext1 n) 10 pre2 fun r _ => Nat.le_trans (ext1_len n r) hn
        have := congrArg List.length e2
        simp at this
        omega
      have q0 := fun T => eq_rowN_nil (r := r) (fun x hx => by have := o3 x hx; omega) (by omega) T
      have cmp : ∀ (x y : Int) S', cmpI (fun i j => decide (j < i)) (.py (.int x)) (.py (.int y)) S' = .ok (.py (.bool (decide (y < x)))) S' := fun x y S' => rfl
      have n1 : ∀ T, negD (.py (.int 1)) T = .ok (.py (.int (-1))) T := fun T => rfl
      simp [-List.map_append]
      refine ⟨by omega, ?_⟩
      rw [rngV_map]
      refine wp_pureM (fun (j : Nat) => D.py (.int j)) (lastOk r) (fun j => D.py (rowN (r ++ [j]))) (fun j hj => ?_) ?_
      · have at_ := fun T' => add_tp (a := (iN r).map .int) (b := [.int (j : Nat)]) (by rw [List.length_map, iN_len]; simp; omega) T'
        have e3 : (iN r).map PyData.int ++ [.int (j : Nat)] = (iN (r ++ [j])).map .int := by rw [iN_snoc, List.map_append]; rfl
        by_cases h0 : r = []
        · subst h0
          simp [q0, pysOf, at_, lastOk, iN]
        · have il := fun T => item_lastN h0 T
          have ek : lastOk r j = decide (r.getLastD 0 < j) := by simp [lastOk, h0]
          generalize r.getLastD 0 = gl at *
          by_cases h1 : gl < j
          · have h2 : ((gl : Nat) : Int) < (j : Nat) := by omega
            simp [q0, h0, n1, il, cmp, ek, h1, h2, pysOf, at_, e3]
          · have h2 : ¬ ((gl : Nat) : Int) < (j : Nat) := by omega
            simp [q0, h0, n1, il, cmp, ek, h1, h2]
      · refine ⟨_, stL_lstAt, ?_, ?_⟩
        · rw [show sizeLine = 16777216 from rfl]
          have := ext1_len n r
          unfold ext1 at this
          rw [List.length_map] at this
          simp only [List.length_map]
          omega
        · have e3 : ((pre2.flatMap (ext1 n)).map rowN).map D.py ++ ((List.range n).filter (lastOk r)).map (fun j => D.py (rowN (r ++ [j]))) = ((pre2.flatMap (ext1 n) ++ ext1 n r).map rowN).map D.py := by
            rw [List.map_append, List.map_append]
            unfold ext1
            simp
          rw [e3, stL_set]
    · rintro σ T' ⟨hσ, rfl⟩
      obtain ⟨v5, v6, rfl⟩ := slot2 hσ
      clear hσ
      refine stL_fix rfl ?_
      simp
      obtain ⟨Z, rfl⟩ := hT
      exact ⟨Z ++ [.gone], by simp⟩
  · rintro σ T ⟨hσ, Z, rfl⟩
    obtain ⟨v3, v4, v5, v6, rfl⟩ := slot4 hσ
    clear hσ
    simp
    exact ⟨.app, rfl⟩

def mkR (L : List Nat) (P : List Pair) (r : List Nat) (l : Nat) : List Int := r.map fun i => gapIn P l (L.getD i 0)
def sepB (f : Face) (P : List Pair) (r : List Nat) : Bool := decide ((dedT (f.lets.map (mkR f.lets P r))).length = (firsts (leftM f P)).length)
def allS (n : Nat) : List (List Nat) := (List.range (n + 1)).flatMap (chs n)
def prtS (f : Face) (P : List Pair) : Option (List Nat) := (allS f.ls.length).find? (sepB f P)
def ptL (L r : List Nat) : List Nat := r.map fun i => L.getD i 0
theorem tupsOf_map : ∀ ms : List (List Int), tupsOf (ms.map tupI) = some ms
  | [] => rfl
  | m :: ms => by
    rw [List.map_cons]
    show ((intsOf (m.map .int)).bind fun x => (tupsOf (ms.map tupI)).map (x :: ·)) = _
    rw [intsOf_map, tupsOf_map ms]
    rfl
theorem lenSetX_tups {ms : List (List Int)} (h0 : ms ≠ []) (h : ms.length < 64) (S : Sto) : lenSetX (.py (.list (ms.map tupI))) S = .ok (.py (.int ((dedT ms).length : Nat))) S := by
  have d1 : deep S 8 (.py (.list (ms.map tupI))) = some (.list (ms.map tupI)) := rfl
  have d2 : textsOf (ms.map tupI) = none := by
    cases ms with
    | nil => exact absurd rfl h0
    | cons m ms => rfl
  unfold lenSetX
  simp only [d1, d2, tupsOf_map]
  rw [if_pos h]
theorem letD {L : List Nat} {x : Int} {r : List Nat} (hr : ∀ i ∈ r, i < L.length) (hx : x ∈ iN r) (S : Sto) : itemD (.py (.tuple (L.map lt))) (.py (.int x)) S = .ok (.py (lt (L.getD x.toNat 0))) S := by
  unfold iN at hx
  obtain ⟨i, hi, rfl⟩ := List.mem_map.mp hx
  have := hr i hi
  exact itemD_tuple i (by simp [this])
theorem iN_map {α : Type} (u : Nat → α) (r : List Nat) : ((iN r).map fun x => u x.toNat) = r.map u := by simp [iN]
theorem parters_eq {f : Face} {P : List Pair} (hP : PG P) (h10 : f.ls.length ≤ 10) (h1 : 0 < f.ls.length) (S : Sto) :
    F_parters [.py f.py, .py (encP P)] S = .ok (.py (.tuple ((match prtS f P with | some r => ptL f.lets r | none => f.lets).map lt))) S := by
  have llen : f.lets.length = f.ls.length := by simp
  have lp := left_parting_eq f P
  have hM : Mk (f.lets.map fun l => f.lets.map fun r => gapIn P l r) := hP.left (by omega)
  have lp := fun S => left_parting_eq f P S hM
  have due : (groups f.lets (f.lets.map fun l => f.lets.map fun r => gapIn P l r)).length = (firsts (leftM f P)).length := by simp [groups, leftM]
  have lg : ∀ (G : List (List Nat)) S', lenD [.py (encG G)] S' = .ok (.py (.int (G.length : Nat))) S' := fun G S' => by simp [lenD, seqOf]
  have lL : ∀ S', lenD [.py (.tuple (f.lets.map lt))] S' = .ok (.py (.int (f.lets.length : Nat))) S' := fun S' => by simp [lenD, seqOf]
  have ad : ∀ (a b : Int) T, addD (.py (.int a)) (.py (.int b)) T = .ok (.py (.int (a + b))) T := fun a b T => rfl
  have nf : ∀ (A B : List (List Nat)) (r : List Nat), (∀ q ∈ A, sepB f P q = false) → sepB f P r = true → (A ++ r :: B).find? (sepB f P) = some r := fun A B r hA hr => by
    rw [List.find?_append, List.find?_eq_none.mpr (fun q hq => by simp [hA q hq])]
    simp [hr]
  have hne : f.lets ≠ [] := fun q => by rw [q] at llen; simp at llen; omega
  unfold F_parters b_parters
  refine fn_eq (wp_fn ?_)
  simp [init, letters_of_eq, lp, lg, due, lL, ad, -wp_forL_cons]
  have e0 : ((f.ls.length : Int) + 1).toNat = f.lets.length + 1 := by rw [llen]; omega
  refine ⟨by omega, ?_⟩
  generalize hk : (firsts (leftM f P)).length = k at *
  rw [rngV_map]
  refine wp_forM (fun (i : Nat) => D.py (.int i)) (fun pre σ T => wipeD σ [4, 5, 6] = [some (.py f.py), some (.py (encP P)), some (.py (.tuple (f.lets.map lt))), some (.py (.int (k : Nat))), none, none, none, none, none] ∧ (∀ q ∈ pre.flatMap (chs f.ls.length), sepB f P q = false) ∧ T = S) ⟨rfl, by simp, rfl⟩ ?_ ?_
  · rintro pre c post σ T e ⟨hσ, hno, rfl⟩
    obtain ⟨v4, v5, v6, rfl⟩ := slot3 hσ
    clear hσ
    have hc : c ≤ f.ls.length := by
      have : c ∈ List.range (f.ls.length + 1) := by rw [e]; simp
      have := List.mem_range.mp this
      omega
    have ch := fun T => choices_eq (n := f.ls.length) (c := c) (by omega) (by omega) T
    have eA : allS f.ls.length = pre.flatMap (chs f.ls.length) ++ (chs f.ls.length c ++ post.flatMap (chs f.ls.length)) := by
      unfold allS
      rw [e]
      simp
    have ok : ∀ r ∈ chs f.ls.length c, ∀ i ∈ r, i < f.lets.length := fun r hr => by rw [llen]; exact (mem_chs.mp hr).2.2
    have eP : ∀ pre2 r post2, chs f.ls.length c = pre2 ++ r :: post2 → (∀ q ∈ pre2, sepB f P q = false) → sepB f P r = true → prtS f P = some r := fun pre2 r post2 e2 h2 h3 => by
      unfold prtS
      rw [eA, e2, show pre.flatMap (chs f.ls.length) ++ (pre2 ++ r :: post2 ++ post.flatMap (chs f.ls.length)) = (pre.flatMap (chs f.ls.length) ++ pre2) ++ r :: (post2 ++ post.flatMap (chs f.ls.length)) by simp]
      refine nf _ _ _ (fun q hq => ?_) h3
      rcases List.mem_append.mp hq with hq | hq
      · exact hno q hq
      · exact h2 q hq
    have eN : ∀ q, q ∈ (pre ++ [c]).flatMap (chs f.ls.length) ↔ q ∈ pre.flatMap (chs f.ls.length) ∨ q ∈ chs f.ls.length c := fun q => by simp
    clear eA
    generalize hRs : chs f.ls.length c = Rs at *
    simp [lL, ch, -wp_forL_cons]
    refine wp_forM (D.py ∘ rowN) (fun pre2 σ T' => wipeD σ [5, 6] = [some (.py f.py), some (.py (encP P)), some (.py (.tuple (f.lets.map lt))), some (.py (.int (k : Nat))), some (.py (.int (c : Nat))), none, none, none, none] ∧ (∀ q ∈ pre2, sepB f P q = false) ∧ T' = T) ?_ ?_ ?_
    · exact ⟨rfl, by simp, rfl⟩
    · rintro pre2 r post2 σ T' e2 ⟨hσ, hno2, rfl⟩
      obtain ⟨v5, v6, rfl⟩ := slot2 hσ
      clear hσ
      have hr := ok r (by rw [e2]; simp)
      simp
      refine wp_pureM1 (D.py ∘ lt) (fun l => D.py (tupI (mkR f.lets P r l))) (fun l hl => wp_eq ?_) ?_
      · simp
        refine wp_pureM1 (D.py ∘ PyData.int) (fun x => D.py (.int (gapIn P l (f.lets.getD x.toNat 0)))) (fun x hx => wp_eq ?_) ?_
        · have i1 := fun S => letD (L := f.lets) hr hx S
          have g := fun (c : Nat) S => gap_in_eq P l c S
          simp [i1, g]
        · have e3 : ((iN r).map fun x => D.py (.int (gapIn P l (f.lets.getD x.toNat 0)))) = ((mkR f.lets P r l).map PyData.int).map D.py := by
            rw [iN_map (fun i => D.py (.int (gapIn P l (f.lets.getD i 0))))]
            simp [mkR]
          rw [e3, pysOf_map]
          simp
      · have e3 : (f.lets.map fun l => D.py (tupI (mkR f.lets P r l))) = ((f.lets.map (mkR f.lets P r)).map tupI).map D.py := by simp
        have ls := fun S => lenSetX_tups (ms := f.lets.map (mkR f.lets P r)) (by simpa using hne) (by simp; omega) S
        have eqi : ∀ (x y : Int) S', eqD (.py (.int x)) (.py (.int y)) S' = .ok (.py (.bool (decide (x = y)))) S' := fun x y S' => rfl
        rw [e3, pysOf_map]
        cases hs : sepB f P r with
        | true =>
          have hs' := of_decide_eq_true hs
          have pr := eP pre2 r post2 e2 hno2 hs
          simp [ls, eqi, hs', hk, -List.map_map]
          refine wp_pureM1 (D.py ∘ PyData.int) (fun x => D.py (lt (f.lets.getD x.toNat 0))) (fun x hx => ?_) ?_
          · have i1 := fun S => letD (L := f.lets) hr hx S
            exact wp_eq (by simp [i1])
          · have e4 : ((iN r).map fun x => D.py (lt (f.lets.getD x.toNat 0))) = ((ptL f.lets r).map lt).map D.py := by
              rw [iN_map (fun i => D.py (lt (f.lets.getD i 0)))]
              simp [ptL]
            rw [e4, pysOf_map]
            simp [pr]
            exact ⟨.self, rfl⟩
        | false =>
          have hs' := of_decide_eq_false hs
          rw [hk] at hs'
          have hs2 : ¬ (((dedT (f.lets.map (mkR f.lets P r))).length : Nat) : Int) = (k : Nat) := by omega
          simp [ls, eqi, hs2, -List.map_map]
          intro q hq
          rcases hq with hq | rfl
          · exact hno2 q hq
          · exact hs
    · rintro σ T' ⟨hσ, hno2, rfl⟩
      obtain ⟨v5, v6, rfl⟩ := slot2 hσ
      clear hσ
      refine ⟨rfl, fun q hq => ?_, rfl⟩
      rcases hq with ⟨a, ha, hq⟩ | hq
      · exact hno q (List.mem_flatMap.mpr ⟨a, ha, hq⟩)
      · exact hno2 q (hRs ▸ hq)
  · rintro σ T ⟨hσ, hno, rfl⟩
    obtain ⟨v4, v5, v6, rfl⟩ := slot3 hσ
    clear hσ
    have pr : prtS f P = none := List.find?_eq_none.mpr fun q hq => by simp [hno q hq]
    simp [pr]
    exact ⟨.self, rfl⟩
end DV

set_option maxHeartbeats 4000000
namespace DV
open PySem
/-! Which letters part all; the fewest. -/
theorem len_sub {α : Type} [DecidableEq α] {A B : List α} (h : A.Nodup) (hs : ∀ a ∈ A, a ∈ B) : A.length ≤ B.length := h.length_le_of_subset hs
theorem getD_at {L : List Nat} {i : Nat} (hi : i < L.length) : L.getD i 0 = L[i] := by
  rw [List.getD_eq_getElem?_getD, List.getElem?_eq_getElem hi]
  rfl
theorem sep_iff {M0 : List (List Int)} {proj : List Int → List Int} : (dedT (M0.map proj)).length = (firsts M0).length ↔ ∀ a ∈ M0, ∀ b ∈ M0, proj a = proj b → a = b := by
  have nd := firsts_nodup M0
  constructor
  · intro h a ha b hb hab
    by_cases e : a = b
    · exact e
    · exfalso
      have hb' : b ∈ firsts M0 := mem_firsts.mpr hb
      have h1 : (dedT (M0.map proj)).length ≤ (((firsts M0).erase b).map proj).length := by
        refine (nodup_dedT _).length_le_of_subset fun v hv => ?_
        obtain ⟨x, hx, rfl⟩ := List.mem_map.mp ((mem_dedT _ _).mp hv)
        by_cases q : x = b
        · rw [q, ← hab]
          exact List.mem_map.mpr ⟨a, (List.mem_erase_of_ne e).mpr (mem_firsts.mpr ha), rfl⟩
        · exact List.mem_map.mpr ⟨x, (List.mem_erase_of_ne q).mpr (mem_firsts.mpr hx), rfl⟩
      rw [List.length_map, List.length_erase_of_mem hb'] at h1
      have := List.length_pos_of_mem hb'
      omega
  · intro h
    have h2 : ((firsts M0).map proj).length = (dedT (M0.map proj)).length := len_dedT
      (List.pairwise_map.mpr (List.Pairwise.imp_of_mem (fun {a b} ha hb hab q => hab (h a (mem_firsts.mp ha) b (mem_firsts.mp hb) q)) nd))
      (fun v hv => by
        obtain ⟨x, hx, rfl⟩ := List.mem_map.mp hv
        exact List.mem_map.mpr ⟨x, mem_firsts.mp hx, rfl⟩)
      (fun v hv => by
        obtain ⟨x, hx, rfl⟩ := List.mem_map.mp hv
        exact List.mem_map.mpr ⟨x, mem_firsts.mpr hx, rfl⟩)
    rw [← h2, List.length_map]
def fullR (L : List Nat) (P : List Pair) (l : Nat) : List Int := L.map fun c => gapIn P l c
theorem full_getD {L : List Nat} {P : List Pair} {l i : Nat} (hi : i < L.length) : (fullR L P l).getD i 0 = gapIn P l (L.getD i 0) := by
  simp [fullR, List.getD_eq_getElem?_getD, hi]
theorem full_eq {L : List Nat} {P : List Pair} {a b : Nat} : fullR L P a = fullR L P b ↔ ∀ c ∈ L, gapIn P a c = gapIn P b c := List.map_inj_left
theorem sepB_iff {f : Face} {P : List Pair} {r : List Nat} (hr : ∀ i ∈ r, i < f.lets.length) : sepB f P r = true ↔ ∀ a ∈ f.lets, ∀ b ∈ f.lets, (∀ i ∈ r, gapIn P a (f.lets.getD i 0) = gapIn P b (f.lets.getD i 0)) → ∀ c ∈ f.lets, gapIn P a c = gapIn P b c := by
  have e1 : f.lets.map (mkR f.lets P r) = (f.lets.map (fullR f.lets P)).map fun row => r.map fun i => row.getD i 0 := by
    rw [List.map_map]
    refine List.map_congr_left fun l _ => List.map_congr_left fun i hi => (full_getD (hr i hi)).symm
  have e2 : leftM f P = f.lets.map (fullR f.lets P) := rfl
  have pj : ∀ a b, (r.map fun i => (fullR f.lets P a).getD i 0) = (r.map fun i => (fullR f.lets P b).getD i 0) ↔ ∀ i ∈ r, gapIn P a (f.lets.getD i 0) = gapIn P b (f.lets.getD i 0) := fun a b => by
    rw [List.map_inj_left]
    constructor
    · intro h i hi
      have := h i hi
      rwa [full_getD (hr i hi), full_getD (hr i hi)] at this
    · intro h i hi
      rw [full_getD (hr i hi), full_getD (hr i hi)]
      exact h i hi
  unfold sepB
  rw [decide_eq_true_iff, e1, e2, sep_iff]
  constructor
  · intro h a ha b hb hab
    exact full_eq.mp (h _ (List.mem_map.mpr ⟨a, ha, rfl⟩) _ (List.mem_map.mpr ⟨b, hb, rfl⟩) ((pj a b).mpr hab))
  · intro h x hx y hy hxy
    obtain ⟨a, ha, rfl⟩ := List.mem_map.mp hx
    obtain ⟨b, hb, rfl⟩ := List.mem_map.mp hy
    exact full_eq.mpr (h a ha b hb ((pj a b).mp hxy))
theorem mem_allS {n : Nat} {r : List Nat} : r ∈ allS n ↔ r.length ≤ n ∧ r.Pairwise (· < ·) ∧ ∀ x ∈ r, x < n := by
  unfold allS
  rw [List.mem_flatMap]
  constructor
  · rintro ⟨c, hc, h⟩
    have hc := List.mem_range.mp hc
    obtain ⟨a1, a2, a3⟩ := mem_chs.mp h
    exact ⟨by omega, a2, a3⟩
  · rintro ⟨a1, a2, a3⟩
    exact ⟨r.length, List.mem_range.mpr (by omega), mem_chs.mpr ⟨rfl, a2, a3⟩⟩
theorem allS_pw (n : Nat) : (allS n).Pairwise fun a b => a.length ≤ b.length := by
  unfold allS
  rw [List.pairwise_flatMap]
  refine ⟨fun c _ => ?_, ?_⟩
  · refine List.Pairwise.imp_of_mem (R := fun _ _ => True) (fun {a b} ha hb _ => ?_) (List.pairwise_of_forall fun _ _ => trivial)
    have h1 := (mem_chs.mp ha).1
    have h2 := (mem_chs.mp hb).1
    omega
  · refine List.pairwise_lt_range.imp fun {c d} hcd a ha b hb => ?_
    have h1 := (mem_chs.mp ha).1
    have h2 := (mem_chs.mp hb).1
    omega
/-- the letters that part all -/
structure Prt (f : Face) (P : List Pair) (r : List Nat) : Prop where
  rise : r.Pairwise (· < ·)
  lt : ∀ x ∈ r, x < f.lets.length
  sep : sepB f P r = true
  min : ∀ q, q.Pairwise (· < ·) → (∀ x ∈ q, x < f.lets.length) → sepB f P q = true → r.length ≤ q.length
theorem rise_len {n : Nat} {q : List Nat} (h : q.Pairwise (· < ·)) (hq : ∀ x ∈ q, x < n) : q.length ≤ n := by
  have := len_sub (B := List.range n) (h.imp fun h => Nat.ne_of_lt h) fun x hx => List.mem_range.mpr (hq x hx)
  simpa using this
theorem prtS_eq (f : Face) (P : List Pair) : prtS f P = (allS f.lets.length).find? (sepB f P) := by
  have llen : f.lets.length = f.ls.length := by simp
  rw [llen]
  rfl
theorem prt_some (f : Face) (P : List Pair) : ∃ r, prtS f P = some r ∧ Prt f P r := by
  rw [prtS_eq]
  have full : sepB f P (List.range f.lets.length) = true := (sepB_iff fun i hi => List.mem_range.mp hi).mpr fun a _ b _ h c hc => by
    obtain ⟨i, hi, rfl⟩ := List.getElem_of_mem hc
    have := h i (List.mem_range.mpr hi)
    rwa [getD_at hi] at this
  have hin : List.range f.lets.length ∈ allS f.lets.length := mem_allS.mpr ⟨by simp, List.pairwise_lt_range, fun x hx => List.mem_range.mp hx⟩
  cases h : (allS f.lets.length).find? (sepB f P) with
  | none =>
    have := List.find?_eq_none.mp h _ hin
    exact absurd full this
  | some r =>
    have hm := List.mem_of_find?_eq_some h
    have hs := List.find?_some h
    obtain ⟨a1, a2, a3⟩ := mem_allS.mp hm
    refine ⟨r, rfl, a2, a3, hs, fun q q1 q2 q3 => ?_⟩
    obtain ⟨_, as, bs, e, hno⟩ := List.find?_eq_some_iff_append.mp h
    have hq : q ∈ allS f.lets.length := mem_allS.mpr ⟨rise_len q1 q2, q1, q2⟩
    have pw := allS_pw f.lets.length
    rw [e] at hq pw
    obtain ⟨_, p2, _⟩ := List.pairwise_append.mp pw
    rcases List.mem_append.mp hq with hq | hq
    · have := hno q hq
      simp [q3] at this
    · rcases List.mem_cons.mp hq with rfl | hq
      · exact Nat.le_refl _
      · exact (List.pairwise_cons.mp p2).1 q hq
/-- so many columns part so many rows -/
theorem exists_sep (n : Nat) : ∀ D : List (List Int), D.Nodup → (∀ d ∈ D, d.length = n) → ∃ R : List Nat, R.length + 1 ≤ max 1 D.length ∧ (∀ i ∈ R, i < n) ∧ ∀ a ∈ D, ∀ b ∈ D, (∀ i ∈ R, a.getD i 0 = b.getD i 0) → a = b
  | [], _, _ => ⟨[], by simp, by simp, by simp⟩
  | d :: D, hn, hl => by
    obtain ⟨n1, n2⟩ := List.nodup_cons.mp hn
    obtain ⟨R, r1, r2, r3⟩ := exists_sep n D n2 fun x hx => hl x (List.mem_cons_of_mem _ hx)
    by_cases h : ∃ e ∈ D, ∀ i ∈ R, d.getD i 0 = e.getD i 0
    · obtain ⟨e, he, hR⟩ := h
      have hde : d ≠ e := fun q => n1 (q ▸ he)
      have l1 := hl d (by simp)
      have l2 := hl e (by simp [he])
      obtain ⟨i, hi, hne⟩ : ∃ i, i < n ∧ d.getD i 0 ≠ e.getD i 0 := by
        refine Classical.byContradiction fun hc => hde (List.ext_getElem (by omega) fun i h1 h2 => ?_)
        have : d.getD i 0 = e.getD i 0 := Classical.byContradiction fun q => hc ⟨i, by omega, q⟩
        simpa [List.getD_eq_getElem?_getD, h1, h2] using this
      have hp := List.length_pos_of_mem he
      refine ⟨i :: R, ?_, fun x hx => ?_, fun a ha b hb hab => ?_⟩
      · simp only [List.length_cons]
        omega
      · rcases List.mem_cons.mp hx with rfl | hx
        · exact hi
        · exact r2 x hx
      · have hi' := hab i (by simp)
        have hR' : ∀ x ∈ R, a.getD x 0 = b.getD x 0 := fun x hx => hab x (by simp [hx])
        rcases List.mem_cons.mp ha with rfl | ha' <;> rcases List.mem_cons.mp hb with rfl | hb'
        · rfl
        · have : e = b := r3 e he b hb' fun x hx => by rw [← hR x hx, hR' x hx]
          rw [← this] at hi'
          exact absurd hi' hne
        · have : e = a := r3 e he a ha' fun x hx => by rw [← hR x hx, hR' x hx]
          rw [← this] at hi'
          exact absurd hi'.symm hne
        · exact r3 a ha' b hb' hR'
    · refine ⟨R, ?_, r2, fun a ha b hb hab => ?_⟩
      · simp only [List.length_cons]
        omega
      · rcases List.mem_cons.mp ha with rfl | ha' <;> rcases List.mem_cons.mp hb with rfl | hb'
        · rfl
        · exact absurd ⟨b, hb', hab⟩ h
        · exact absurd ⟨a, ha', fun i hi => (hab i hi).symm⟩ h
        · exact r3 a ha' b hb' hab
def riseOf (n : Nat) (R : List Nat) : List Nat := (List.range n).filter fun i => decide (i ∈ R)
theorem mem_rise {n : Nat} {R : List Nat} {i : Nat} : i ∈ riseOf n R ↔ i < n ∧ i ∈ R := by
  unfold riseOf
  rw [List.mem_filter, List.mem_range, decide_eq_true_iff]
theorem rise_pw (n : Nat) (R : List Nat) : (riseOf n R).Pairwise (· < ·) := List.Pairwise.sublist List.filter_sublist List.pairwise_lt_range
theorem rise_le (n : Nat) (R : List Nat) : (riseOf n R).length ≤ R.length := len_sub ((rise_pw n R).imp fun h => Nat.ne_of_lt h) fun i hi => (mem_rise.mp hi).2
/-- fewer than the left classes -/
theorem Prt.left {f : Face} {P : List Pair} {r : List Nat} (h : Prt f P r) : r.length + 1 ≤ max 1 (firsts (leftM f P)).length := by
  obtain ⟨R, r1, r2, r3⟩ := exists_sep f.lets.length (firsts (leftM f P)) (firsts_nodup _) fun d hd => by
    obtain ⟨a, ha, rfl⟩ := List.mem_map.mp (mem_firsts.mp hd)
    simp
  have s : sepB f P (riseOf f.lets.length R) = true := (sepB_iff fun i hi => (mem_rise.mp hi).1).mpr fun a ha b hb hab => by
    have q : ∀ c ∈ f.lets, fullR f.lets P c ∈ firsts (leftM f P) := fun c hc => mem_firsts.mpr (List.mem_map.mpr ⟨c, hc, rfl⟩)
    refine full_eq.mp (r3 _ (q a ha) _ (q b hb) fun i hi => ?_)
    rw [full_getD (r2 i hi), full_getD (r2 i hi)]
    exact hab i (mem_rise.mpr ⟨r2 i hi, hi⟩)
  have := h.min _ (rise_pw _ _) (fun x hx => (mem_rise.mp hx).1) s
  have := rise_le f.lets.length R
  omega
/-- no more than the right classes -/
theorem Prt.right {f : Face} {P : List Pair} {r : List Nat} (h : Prt f P r) : r.length ≤ (firsts (rightM f P)).length := by
  have ex : ∀ d : List Int, ∃ i : Nat, d ∈ firsts (rightM f P) → i < f.lets.length ∧ (f.lets.map fun l => gapIn P l (f.lets.getD i 0)) = d := fun d => by
    by_cases hd : d ∈ firsts (rightM f P)
    · obtain ⟨c, hc, rfl⟩ := List.mem_map.mp (mem_firsts.mp hd)
      obtain ⟨i, hi, rfl⟩ := List.getElem_of_mem hc
      exact ⟨i, fun _ => ⟨hi, by rw [getD_at hi]⟩⟩
    · exact ⟨0, fun q => absurd q hd⟩
  obtain ⟨u, hu⟩ := Classical.axiomOfChoice ex
  have s : sepB f P (riseOf f.lets.length ((firsts (rightM f P)).map u)) = true := (sepB_iff fun i hi => (mem_rise.mp hi).1).mpr fun a ha b hb hab c hc => by
    have hd : (f.lets.map fun l => gapIn P l c) ∈ firsts (rightM f P) := mem_firsts.mpr (List.mem_map.mpr ⟨c, hc, rfl⟩)
    obtain ⟨h1, h2⟩ := hu _ hd
    have h3 := hab _ (mem_rise.mpr ⟨h1, List.mem_map.mpr ⟨_, hd, rfl⟩⟩)
    have h4 := List.map_inj_left.mp h2
    rw [← h4 a ha, ← h4 b hb]
    exact h3
  have := h.min _ (rise_pw _ _) (fun x hx => (mem_rise.mp hx).1) s
  have h5 := rise_le f.lets.length ((firsts (rightM f P)).map u)
  rw [List.length_map] at h5
  omega
end DV

set_option maxHeartbeats 4000000
namespace DV
open PySem
/-! The value that most have, of several the least. -/
abbrev cntZ (vs : List Int) (v : Int) : Int := ((vs.count v : Nat) : Int)
structure IsMost (vs : List Int) (m : Int) : Prop where
  mem : m ∈ vs
  best : ∀ v ∈ vs, cntZ vs v < cntZ vs m ∨ (cntZ vs v = cntZ vs m ∧ m ≤ v)
end DV

set_option maxHeartbeats 4000000
namespace DV
open PySem
/-! Tables with single exceptions. -/
end DV

set_option maxHeartbeats 4000000
namespace DV
open PySem
/-! with_singles: the exceptions in order. -/
def leP (L : List Nat) (p q : Pair) : Prop := (plc L p.1 : Int) < plc L q.1 ∨ ((plc L p.1 : Int) = plc L q.1 ∧ (plc L p.2.1 : Int) ≤ plc L q.2.1)
instance (L : List Nat) (p q : Pair) : Decidable (leP L p q) := by unfold leP; infer_instance
end DV

set_option maxHeartbeats 4000000
namespace DV
open PySem
/-! All sets of places, the fewest ahead, in order. -/
theorem lt_app : ∀ {a b : List Int} (x y : List Int), a < b → a.length = b.length → a ++ x < b ++ y
  | [], [], x, y, h, _ => absurd h (List.lt_irrefl _)
  | a :: as, b :: bs, x, y, h, hl => by
    rw [List.cons_append, List.cons_append, List.cons_lt_cons_iff]
    rcases List.cons_lt_cons_iff.mp h with h | ⟨h1, h2⟩
    · exact .inl h
    · exact .inr ⟨h1, lt_app x y h2 (by simpa using hl)⟩
theorem lt_last : ∀ (a : List Int) {x y : Int}, x < y → a ++ [x] < a ++ [y]
  | [], x, y, h => by simp [List.cons_lt_cons_iff, h]
  | c :: a, x, y, h => by
    rw [List.cons_append, List.cons_append, List.cons_lt_cons_iff]
    exact .inr ⟨rfl, lt_last a h⟩
theorem chs_pw (n : Nat) : ∀ c, (chs n c).Pairwise fun p q => iN p < iN q
  | 0 => List.pairwise_singleton _ _
  | c + 1 => by
    unfold chs
    rw [List.pairwise_flatMap]
    refine ⟨fun q _ => ?_, List.Pairwise.imp_of_mem (fun {p q} hp hq hpq x hx y hy => ?_) (chs_pw n c)⟩
    · unfold ext1
      rw [List.pairwise_map]
      refine (List.Pairwise.sublist List.filter_sublist List.pairwise_lt_range).imp fun {i j} hij => ?_
      rw [iN_snoc, iN_snoc]
      exact lt_last _ (by omega)
    · obtain ⟨i, _, rfl⟩ := List.mem_map.mp hx
      obtain ⟨j, _, rfl⟩ := List.mem_map.mp hy
      rw [iN_snoc, iN_snoc]
      exact lt_app _ _ hpq (by rw [iN_len, iN_len, (mem_chs.mp hp).1, (mem_chs.mp hq).1])
def ltR (p q : List Nat) : Prop := p.length < q.length ∨ (p.length = q.length ∧ iN p < iN q)
instance (p q : List Nat) : Decidable (ltR p q) := by unfold ltR; infer_instance
theorem allS_lt (n : Nat) : (allS n).Pairwise ltR := by
  unfold allS
  rw [List.pairwise_flatMap]
  refine ⟨fun c _ => ?_, ?_⟩
  · refine List.Pairwise.imp_of_mem (fun {a b} ha hb h => ?_) (chs_pw n c)
    exact .inr ⟨by rw [(mem_chs.mp ha).1, (mem_chs.mp hb).1], h⟩
  · refine List.pairwise_lt_range.imp fun {c d} hcd a ha b hb => ?_
    have h1 := (mem_chs.mp ha).1
    have h2 := (mem_chs.mp hb).1
    exact .inl (by omega)
theorem ltR_irr (p : List Nat) : ¬ ltR p p := by
  rintro (h | ⟨_, h⟩)
  · omega
  · exact List.lt_irrefl _ h
def leR (p q : List Nat) : Prop := p.length < q.length ∨ (p.length = q.length ∧ iN p ≤ iN q)
instance (p q : List Nat) : Decidable (leR p q) := by unfold leR; infer_instance
end DV

set_option maxHeartbeats 4000000
namespace DV
open PySem
/-! The parters and the paper of a face in which one letter is like another one. -/
theorem ltR_trans {p q r : List Nat} (h1 : ltR p q) (h2 : ltR q r) : ltR p r := by
  rcases h1 with h1 | ⟨e1, h1⟩
  · rcases h2 with h2 | ⟨e2, h2⟩
    · exact .inl (by omega)
    · exact .inl (by omega)
  · rcases h2 with h2 | ⟨e2, h2⟩
    · exact .inl (by omega)
    · exact .inr ⟨by omega, List.lt_trans h1 h2⟩
theorem find_least {p : List Nat → Bool} {r : List Nat} : ∀ {l : List (List Nat)}, l.Pairwise ltR → r ∈ l → p r = true → (∀ q ∈ l, p q = true → ¬ ltR q r) → l.find? p = some r
  | [], _, h, _, _ => nomatch h
  | a :: l, pw, hr, pr, h => by
    rw [List.pairwise_cons] at pw
    rw [List.find?_cons]
    by_cases ha : p a = true
    · rw [ha]
      rcases List.mem_cons.mp hr with rfl | hr
      · rfl
      · exact absurd (pw.1 r hr) (h a (by simp) ha)
    · have hf : p a = false := by simpa using ha
      rw [hf]
      rcases List.mem_cons.mp hr with rfl | hr
      · exact absurd pr ha
      · exact find_least pw.2 hr pr fun q hq => h q (List.mem_cons_of_mem _ hq)
theorem least_find {p : List Nat → Bool} {r : List Nat} : ∀ {l : List (List Nat)}, l.Pairwise ltR → l.find? p = some r → r ∈ l ∧ p r = true ∧ ∀ q ∈ l, p q = true → ¬ ltR q r
  | [], _, h => nomatch h
  | a :: l, pw, h => by
    rw [List.pairwise_cons] at pw
    rw [List.find?_cons] at h
    split at h
    · rename_i ha
      cases h
      refine ⟨by simp, ha, fun q hq _ z => ?_⟩
      rcases List.mem_cons.mp hq with rfl | hq
      · exact ltR_irr _ z
      · exact ltR_irr _ (ltR_trans z (pw.1 q hq))
    · rename_i ha
      obtain ⟨h1, h2, h3⟩ := least_find pw.2 h
      refine ⟨by simp [h1], h2, fun q hq pq => ?_⟩
      rcases List.mem_cons.mp hq with rfl | hq
      · rw [pq] at ha; cases ha
      · exact h3 q hq pq
theorem lex_mid : ∀ (A : List Int) {x y : Int} (B C : List Int), x < y → A ++ x :: B < A ++ y :: C
  | [], x, y, B, C, h => by simp [List.cons_lt_cons_iff, h]
  | c :: A, x, y, B, C, h => by
    rw [List.cons_append, List.cons_append, List.cons_lt_cons_iff]
    exact .inr ⟨rfl, lex_mid A B C h⟩
/-- a set with the last place in it: another one ahead of it, with the place i in it in its stead -/
theorem swap_last {n i : Nat} {q : List Nat} (hi : i < n) (pw : q.Pairwise (· < ·)) (hq : ∀ x ∈ q, x < n + 1) (hn : n ∈ q) :
    ∃ p : List Nat, p.Pairwise (· < ·) ∧ (∀ x ∈ p, x < n) ∧ ltR p q ∧ i ∈ p ∧ ∀ x ∈ q, x ≠ n → x ∈ p := by
  obtain ⟨r, x, rfl⟩ := snoc_of (l := q) (fun e => by subst e; cases hn)
  rw [List.pairwise_append] at pw
  have hx : x = n := by
    rw [List.mem_append, List.mem_singleton] at hn
    rcases hn with h | h
    · have := pw.2.2 n h x (by simp)
      have := hq x (by simp)
      omega
    · exact h.symm
  subst hx
  have rlt : ∀ y ∈ r, y < x := fun y hy => pw.2.2 y hy x (by simp)
  by_cases him : i ∈ r
  · exact ⟨r, pw.1, rlt, .inl (by simp), him, fun y hy ne => by
      rw [List.mem_append, List.mem_singleton] at hy
      exact hy.resolve_right ne⟩
  · -- where i belongs
    have key : ∀ r : List Nat, r.Pairwise (· < ·) → (∀ y ∈ r, y < x) → i ∉ r → ∃ A B, r = A ++ B ∧ (∀ a ∈ A, a < i) ∧ ∀ b ∈ B, i < b := by
      intro r
      induction r with
      | nil => intro _ _ _; exact ⟨[], [], rfl, by simp, by simp⟩
      | cons a r ih =>
        intro pw rl ni
        rw [List.pairwise_cons] at pw
        by_cases ha : a < i
        · obtain ⟨A, B, rfl, h1, h2⟩ := ih pw.2 (fun y hy => rl y (List.mem_cons_of_mem _ hy)) (fun q => ni (List.mem_cons_of_mem _ q))
          refine ⟨a :: A, B, rfl, fun b hb => ?_, h2⟩
          rcases List.mem_cons.mp hb with rfl | hb
          · exact ha
          · exact h1 b hb
        · have : a ≠ i := fun e => ni (by simp [e])
          refine ⟨[], a :: r, rfl, by simp, fun b hb => ?_⟩
          rcases List.mem_cons.mp hb with rfl | hb
          · omega
          · have := pw.1 b hb
            omega
    obtain ⟨A, B, rfl, hA, hB⟩ := key r pw.1 rlt him
    have pAB := List.pairwise_append.mp pw.1
    refine ⟨A ++ i :: B, ?_, ?_, .inr ⟨by simp, ?_⟩, by simp, ?_⟩
    · rw [List.pairwise_append, List.pairwise_cons]
      refine ⟨pAB.1, ⟨hB, pAB.2.1⟩, fun a ha b hb => ?_⟩
      rcases List.mem_cons.mp hb with rfl | hb
      · exact hA a ha
      · exact pAB.2.2 a ha b hb
    · intro y hy
      rw [List.mem_append, List.mem_cons] at hy
      rcases hy with hy | rfl | hy
      · exact rlt y (by simp [hy])
      · exact hi
      · exact rlt y (by simp [hy])
    · have e1 : iN (A ++ i :: B) = iN A ++ (i : Int) :: iN B := by simp [iN]
      rw [e1]
      cases B with
      | nil =>
        have e2 : iN (A ++ [] ++ [x]) = iN A ++ (x : Int) :: [] := by simp [iN]
        rw [e2]
        exact lex_mid _ _ _ (by omega)
      | cons b B =>
        have e2 : iN (A ++ b :: B ++ [x]) = iN A ++ (b : Int) :: iN (B ++ [x]) := by simp [iN]
        rw [e2]
        have := hB b (by simp)
        exact lex_mid _ _ _ (by omega)
    · intro y hy ne
      simp at hy ⊢
      rcases hy with h | h | h
      · exact .inl h
      · exact .inr (.inr h)
      · exact absurd h ne
section
variable {f : Face} {P : List Pair} {c o : Nat} {w : Int}
abbrev likeP (f : Face) (P : List Pair) (c o : Nat) : List Pair := mlist (f.lets ++ [c]) (likeR f P o)
theorem like_gap (nd : f.lets.Nodup) (hc : c ∉ f.lets) {a b : Nat} (ha : a ∈ f.lets ++ [c]) (hb : b ∈ f.lets ++ [c]) : gapIn (likeP f P c o) a b = gapIn P (stnd c o a) (stnd c o b) := by
  have nd' : (f.lets ++ [c]).Nodup := by
    rw [List.nodup_append]
    refine ⟨nd, by simp, fun x hx y hy => ?_⟩
    simp at hy
    rintro rfl
    exact hc (hy ▸ hx)
  unfold likeP
  rw [like_lst hc, gap_lstG2 nd' ha hb]
theorem stnd_id (hc : c ∉ f.lets) {x : Nat} (hx : x ∈ f.lets) : stnd c o x = x := by
  have ne : x ≠ c := fun e => hc (e ▸ hx)
  unfold stnd
  rw [if_neg ne]
theorem stnd_c : stnd c o c = o := by simp [stnd]
theorem stnd_in (ho : o ∈ f.lets) {x : Nat} (hx : x ∈ f.lets ++ [c]) : stnd c o x ∈ f.lets := by
  rw [List.mem_append, List.mem_singleton] at hx
  unfold stnd
  split
  · exact ho
  · rename_i e
    exact hx.resolve_right e
theorem getD_app1 {L : List Nat} {i : Nat} (hi : i < L.length) : (L ++ [c]).getD i 0 = L.getD i 0 := by
  rw [List.getD_eq_getElem?_getD, List.getD_eq_getElem?_getD, List.getElem?_append_left hi]
theorem getD_app2 (L : List Nat) : (L ++ [c]).getD L.length 0 = c := by
  rw [List.getD_eq_getElem?_getD]
  simp
theorem mem_getD {L : List Nat} {i : Nat} (hi : i < L.length) : L.getD i 0 ∈ L := by
  rw [List.getD_eq_getElem?_getD, List.getElem?_eq_getElem hi]
  exact List.getElem_mem hi
/-- a set of places of the elder face parts all there just where it parts all in the later one -/
theorem sep_like (nd : f.lets.Nodup) (hc : c ∉ f.lets) (ho : o ∈ f.lets) {q : List Nat} (hq : ∀ i ∈ q, i < f.lets.length) : sepB (addF f c w) (likeP f P c o) q = sepB f P q := by
  have hq' : ∀ i ∈ q, i < (addF f c w).lets.length := fun i hi => by
    rw [addF_lets, List.length_append]
    have := hq i hi
    omega
  rw [Bool.eq_iff_iff, sepB_iff hq', sepB_iff hq, addF_lets]
  have L : ∀ {x : Nat}, x ∈ f.lets → x ∈ f.lets ++ [c] := fun h => List.mem_append_left _ h
  constructor
  · intro h a ha b hb z x hx
    have := h a (L ha) b (L hb) (fun i hi => ?_) x (L hx)
    · rwa [like_gap nd hc (L ha) (L hx), like_gap nd hc (L hb) (L hx), stnd_id hc ha, stnd_id hc hb, stnd_id hc hx] at this
    · have hm := mem_getD (hq i hi)
      rw [getD_app1 (hq i hi), like_gap nd hc (L ha) (L hm), like_gap nd hc (L hb) (L hm), stnd_id hc ha, stnd_id hc hb, stnd_id hc hm]
      exact z i hi
  · intro h a ha b hb z x hx
    rw [like_gap nd hc ha hx, like_gap nd hc hb hx]
    refine h _ (stnd_in ho ha) _ (stnd_in ho hb) (fun i hi => ?_) _ (stnd_in ho hx)
    have hm := mem_getD (hq i hi)
    have := z i hi
    rwa [getD_app1 (hq i hi), like_gap nd hc ha (L hm), like_gap nd hc hb (L hm), stnd_id hc hm] at this
theorem prt_like (nd : f.lets.Nodup) (hc : c ∉ f.lets) (ho : o ∈ f.lets) : ∃ r, prtS f P = some r ∧ prtS (addF f c w) (likeP f P c o) = some r ∧ ∀ i ∈ r, i < f.lets.length := by
  obtain ⟨r, e, pr⟩ := prt_some f P
  refine ⟨r, e, ?_, pr.lt⟩
  rw [prtS_eq] at e
  obtain ⟨h1, h2, h3⟩ := least_find (allS_lt _) e
  have len : (addF f c w).lets.length = f.lets.length + 1 := by rw [addF_lets]; simp
  rw [prtS_eq, len]
  refine find_least (allS_lt _) ?_ (by rw [sep_like nd hc ho pr.lt]; exact h2) fun q hq sq z => ?_
  · rw [mem_allS]
    exact ⟨by have := (mem_allS.mp h1).1; omega, pr.rise, fun x hx => by have := pr.lt x hx; omega⟩
  obtain ⟨ql, qp, qb⟩ := mem_allS.mp hq
  by_cases hn : f.lets.length ∈ q
  · obtain ⟨i, hi, ei⟩ := List.getElem_of_mem ho
    obtain ⟨p, pp, pl, plt, ip, pq⟩ := swap_last hi qp qb hn
    refine h3 p (mem_allS.mpr ⟨rise_len pp pl, pp, pl⟩) ?_ (ltR_trans plt z)
    have hqb : ∀ x ∈ q, x < (addF f c w).lets.length := fun x hx => by rw [len]; exact qb x hx
    rw [sepB_iff hqb, addF_lets] at sq
    rw [sepB_iff pl]
    have L : ∀ {x : Nat}, x ∈ f.lets → x ∈ f.lets ++ [c] := fun h => List.mem_append_left _ h
    intro a ha b hb zz x hx
    have := sq a (L ha) b (L hb) (fun j hj => ?_) x (L hx)
    · rwa [like_gap nd hc (L ha) (L hx), like_gap nd hc (L hb) (L hx), stnd_id hc ha, stnd_id hc hb, stnd_id hc hx] at this
    · by_cases e : j = f.lets.length
      · subst e
        have cm : c ∈ f.lets ++ [c] := by simp
        rw [getD_app2, like_gap nd hc (L ha) cm, like_gap nd hc (L hb) cm, stnd_id hc ha, stnd_id hc hb, stnd_c]
        have := zz i ip
        rwa [getD_at hi, ei] at this
      · have hj' : j < f.lets.length := by have := qb j hj; omega
        have hm := mem_getD hj'
        rw [getD_app1 hj', like_gap nd hc (L ha) (L hm), like_gap nd hc (L hb) (L hm), stnd_id hc ha, stnd_id hc hb, stnd_id hc hm]
        exact zz j (pq j hj e)
  · have ql : ∀ x ∈ q, x < f.lets.length := fun x hx => by
      have := qb x hx
      have : x ≠ f.lets.length := fun e => hn (e ▸ hx)
      omega
    rw [sep_like nd hc ho ql] at sq
    exact h3 q (mem_allS.mpr ⟨rise_len qp ql, qp, ql⟩) sq z
theorem ptL_like {r : List Nat} (h : ∀ i ∈ r, i < f.lets.length) : ptL (addF f c w).lets r = ptL f.lets r := by
  unfold ptL
  rw [addF_lets]
  exact List.map_congr_left fun i hi => getD_app1 (h i hi)
/-! ### the paper of left classes -/
theorem leftM_like (nd : f.lets.Nodup) (hc : c ∉ f.lets) : leftM (addF f c w) (likeP f P c o) = (f.lets ++ [c]).map fun a => (f.lets ++ [c]).map fun r => gapIn P (stnd c o a) (stnd c o r) := by
  unfold leftM
  rw [addF_lets]
  exact List.map_congr_left fun a ha => List.map_congr_left fun b hb => like_gap nd hc ha hb
theorem groups_likeL (nd : f.lets.Nodup) (hc : c ∉ f.lets) (ho : o ∈ f.lets) : groups (addF f c w).lets (leftM (addF f c w) (likeP f P c o)) = (groups f.lets (leftM f P)).map fun g => g ++ if o ∈ g then [c] else [] := by
  rw [leftM_like nd hc, addF_lets]
  exact groups_stnd (fun a r => gapIn P a r) hc ho
theorem prtL_like (nd : f.lets.Nodup) (hc : c ∉ f.lets) (ho : o ∈ f.lets) {a b : Nat} (ha : a ∈ f.lets) (hb : b ∈ f.lets) : prtL (addF f c w).lets (likeP f P c o) a b = prtL f.lets P a b := by
  have L : ∀ {x : Nat}, x ∈ f.lets → x ∈ f.lets ++ [c] := fun h => List.mem_append_left _ h
  have cm : c ∈ f.lets ++ [c] := by simp
  have e : ∀ r ∈ f.lets, (!decide (gapIn (likeP f P c o) a r = gapIn (likeP f P c o) b r)) = !decide (gapIn P a r = gapIn P b r) := fun r hr => by
    rw [like_gap nd hc (L ha) (L hr), like_gap nd hc (L hb) (L hr), stnd_id hc ha, stnd_id hc hb, stnd_id hc hr]
  have cong : ∀ M : List Nat, (∀ r ∈ M, r ∈ f.lets) → M.find? (fun r => !decide (gapIn (likeP f P c o) a r = gapIn (likeP f P c o) b r)) = M.find? fun r => !decide (gapIn P a r = gapIn P b r) := by
    intro M
    induction M with
    | nil => intro _; rfl
    | cons x M ih =>
      intro h
      rw [List.find?_cons, List.find?_cons, e x (h x (by simp)), ih fun y hy => h y (List.mem_cons_of_mem _ hy)]
  unfold prtL
  rw [addF_lets, List.find?_append, cong _ fun _ h => h]
  cases q : f.lets.find? fun r => !decide (gapIn P a r = gapIn P b r) with
  | some r => rfl
  | none =>
    have := List.find?_eq_none.mp q o ho
    have z : gapIn P a o = gapIn P b o := by simpa using this
    have : [c].find? (fun r => !decide (gapIn (likeP f P c o) a r = gapIn (likeP f P c o) b r)) = none := by
      rw [List.find?_eq_none]
      intro x hx
      have : x = c := by simpa using hx
      subst this
      rw [like_gap nd hc (L ha) cm, like_gap nd hc (L hb) cm, stnd_id hc ha, stnd_id hc hb, stnd_c, z]
      simp
    rw [this]
    rfl
theorem heads_like {G : List (List Nat)} (hG : ∀ g ∈ G, g ≠ []) : heads (G.map fun g => g ++ if o ∈ g then [c] else []) = heads G := by
  unfold heads
  rw [List.map_map]
  refine List.map_congr_left fun g hg => ?_
  cases g with
  | nil => exact absurd rfl (hG _ hg)
  | cons a r => rfl
theorem prts_like (nd : f.lets.Nodup) (hc : c ∉ f.lets) (ho : o ∈ f.lets) {L : List Nat} (hL : ∀ x ∈ L, x ∈ f.lets) : prts (addF f c w) (likeP f P c o) L = prts f P L := by
  unfold prts
  refine List.map_congr_left fun p hp => ?_
  have : p.1 ∈ L ∧ p.2 ∈ L := by
    unfold twosUpTo at hp
    obtain ⟨i, hi, hp⟩ := List.mem_flatMap.mp hp
    obtain ⟨y, hy, rfl⟩ := List.mem_map.mp hp
    exact ⟨mem_getD (List.mem_range.mp hi), List.mem_of_mem_drop hy⟩
  exact prtL_like nd hc ho (hL _ this.1) (hL _ this.2)
/-! ### a gap of the new letter turned -/
theorem turned_gap {L : List Nat} {Q : List Pair} (nd : L.Nodup) {a b : Nat} {x : Int} {l r : Nat} (hl : l ∈ L) (hr : r ∈ L) :
    gapIn (lstG2 L fun l r => if l = a ∧ r = b then x else gapIn Q l r) l r = if l = a ∧ r = b then x else gapIn Q l r := gap_lstG2 nd hl hr
theorem mvd_turned {g : Face} {Q : List Pair} (nd : g.lets.Nodup) (b97 : ∀ x ∈ g.lets, 97 ≤ x) {a b : Nat} (ha : a ∈ g.lets) (hb : b ∈ g.lets) (x : Int) {l : List Nat} (hl : ∀ z ∈ l, g.has z) :
    mvd Q (lstG2 g.lets fun l r => if l = a ∧ r = b then x else gapIn Q l r) l = (decide ((a, b) ∈ l.zip (l.drop 1)) && decide (x ≠ gapIn Q a b)) := by
  have e : ∀ p ∈ l.zip (l.drop 1), decide (bt Q p.1 p.2 ≠ bt (lstG2 g.lets fun l r => if l = a ∧ r = b then x else gapIn Q l r) p.1 p.2) = (decide (p = (a, b)) && decide (x ≠ gapIn Q a b)) := fun p hp => by
    obtain ⟨y, z⟩ := p
    obtain ⟨h1, h2⟩ := List.of_mem_zip hp
    have hy := hl _ h1
    have hz := hl _ (List.mem_of_mem_drop h2)
    unfold bt
    have a32 : a ≠ 32 := by have := b97 a ha; omega
    have b32 : b ≠ 32 := by have := b97 b hb; omega
    by_cases h32 : y = 32 ∨ z = 32
    · have : ¬ ((y, z) = (a, b)) := fun e => by
        cases e
        rcases h32 with h | h
        · exact a32 h
        · exact b32 h
      rw [if_pos h32, if_pos h32]
      simp [this]
    · have hy' : y ∈ g.lets := hy.resolve_left fun e => h32 (.inl e)
      have hz' : z ∈ g.lets := hz.resolve_left fun e => h32 (.inr e)
      rw [if_neg h32, if_neg h32]
      show decide (gapIn Q y z ≠ gapIn _ y z) = _
      rw [turned_gap nd hy' hz']
      by_cases e : y = a ∧ z = b
      · obtain ⟨rfl, rfl⟩ := e
        simp [eq_comm]
      · rw [if_neg e]
        have : ¬ ((y, z) = (a, b)) := fun q => e (by simpa using q)
        simp [this]
  unfold mvd
  have : ∀ M : List (Nat × Nat), (∀ p ∈ M, p ∈ l.zip (l.drop 1)) → M.any (fun p => decide (bt Q p.1 p.2 ≠ bt (lstG2 g.lets fun l r => if l = a ∧ r = b then x else gapIn Q l r) p.1 p.2)) = (decide ((a, b) ∈ M) && decide (x ≠ gapIn Q a b)) := by
    intro M
    induction M with
    | nil => intro _; simp
    | cons p M ih =>
      intro h
      rw [List.any_cons, e p (h p (by simp)), ih fun q hq => h q (List.mem_cons_of_mem _ hq)]
      by_cases h1 : p = (a, b)
      · subst h1
        simp
      · have : ¬ (a, b) = p := fun q => h1 q.symm
        simp [h1, this]
  exact this _ fun _ h => h
end
end DV

set_option maxHeartbeats 4000000
namespace DV
open PySem
/-! The law's things, where the face stands in another slot; parts of what fits. -/
theorem FitXL.app {a b : List PyData} {k v w : Nat} (ha : FitXL a k v) (hb : FitXL b k w) : FitXL (a ++ b) k (v + w) := by
  have p : Part (a ++ b) k := Part.app.mpr ⟨⟨ha.sh, ha.dp, ha.ls⟩, ⟨hb.sh, hb.dp, hb.ls⟩⟩
  have h1 := ha.bk
  have h2 := hb.bk
  exact ⟨p.sh, p.dp, p.ls, by rw [bulk_app]; omega⟩
theorem FitXL.mono {d : List PyData} {k k' w w' : Nat} (h : FitXL d k w) (hk : k ≤ k') (hw : w ≤ w') : FitXL d k' w' := ⟨h.sh, Nat.le_trans h.dp hk, h.ls, Nat.le_trans h.bk hw⟩
end DV

set_option maxHeartbeats 4000000
namespace DV
open PySem
/-! Whole numbers of odd and of spoilt things are not too great. -/
end DV

set_option maxHeartbeats 4000000
namespace DV
open PySem
/-! Prices that show: any thing asked. -/
end DV

set_option maxHeartbeats 4000000
namespace DV
open PySem
/-! Breakings as wholes: the even lines, the filled ones, prices that show. -/
theorem jn_map : ∀ {gs : List (List (List Nat))}, (∀ g ∈ gs, g ≠ []) → (∀ g ∈ gs, ∀ w ∈ g, w ≠ []) → jn (gs.map jn) = jn gs.flatten
  | [], _, _ => rfl
  | [g], _, _ => by simp [jn]
  | g :: g2 :: r, h, h2 => by
    have ih := jn_map (gs := g2 :: r) (fun x hx => h x (List.mem_cons_of_mem _ hx)) fun x hx => h2 x (List.mem_cons_of_mem _ hx)
    have hf : (g2 :: r).flatten ≠ [] := by
      cases g2 with
      | nil => exact absurd rfl (h [] (by simp))
      | cons a b => simp
    rw [List.flatten_cons, jn_app (h g (by simp)) hf, ← ih]
    rfl
theorem linesAt_flat {ws : List (List Nat)} : ∀ {row : List Nat} {a : Nat}, (linesAt ws a row).flatten = (ws.drop a).take row.sum
  | [], a => by simp [linesAt]
  | m :: r, a => by
    rw [linesAt, List.flatten_cons, linesAt_flat, List.sum_cons]
    unfold lnW
    have : a + m - a = m := by omega
    rw [this, ← List.drop_drop, List.take_add]
theorem linesAt_groups {ws : List (List Nat)} : ∀ {gs : List (List (List Nat))} {a : Nat}, ws.drop a = gs.flatten → linesAt ws a (gs.map List.length) = gs
  | [], a, _ => rfl
  | g :: gs, a, h => by
    rw [List.map_cons, linesAt]
    have e : a + g.length - a = g.length := by omega
    have h1 : lnW ws a (a + g.length) = g := by
      unfold lnW
      rw [e, h, List.flatten_cons, List.take_left']
      rfl
    rw [h1, linesAt_groups (gs := gs)]
    rw [← List.drop_drop, h, List.flatten_cons, List.drop_left']
    rfl
section
variable {f : Face} {P : List Pair} {ws : List (List Nat)} {n : Int}
theorem row_fit (h : rowOk ws.length row) {v : Int} (hv : rowC (cost f P n ws) ws.length ws.length row = some v) :
    (∀ l ∈ linesAt ws 0 row, wd f P (jn l) ≤ n) ∧ v = (((linesAt ws 0 row).map fun l => n - wd f P (jn l)).dropLast.map fun r => r * r).sum := by
  have e := rowC_rooms (f := f) (P := P) (n := n) (ws := ws) (Nat.le_refl _) h
  rw [hv, Nat.sub_self] at e
  split at e
  · rename_i hR
    refine ⟨fun l hl => ?_, Option.some.inj e⟩
    have := hR (n - wd f P (jn l)) (List.mem_map.mpr ⟨l, hl, rfl⟩)
    omega
  · cases e
/-- the even lines and the filled ones -/
theorem even_full (h : Wds f ws) (hW : Wid f P) (hu : ∀ w ∈ ws, wd f P w ≤ n) :
    (∃ E : List (List (List Nat)), E = linesAt ws 0 (gRow f P n ws ws.length) ∧ E.flatten = ws ∧ (∀ g ∈ E, g ≠ []) ∧ (∀ l ∈ E, wd f P (jn l) ≤ n) ∧ price f P n ws ws.length = ((E.map fun l => n - wd f P (jn l)).dropLast.map fun r => r * r).sum ∧ (fill f P n ws).length ≤ E.length) ∧
    (jn (fill f P n ws) = jn ws ∧ (∀ l ∈ fill f P n ws, wd f P l ≤ n) ∧ price f P n ws ws.length ≤ (((fill f P n ws).map fun l => n - wd f P l).dropLast.map fun r => r * r).sum) := by
  have gw : GW f ws := fun w hw => ⟨h.ne w hw, h.mem w hw⟩
  have pr := prs (P := P) hu
  have rv : rowC (cost f P n ws) ws.length ws.length (gRow f P n ws ws.length) = some (price f P n ws ws.length) := greedy_cost pr _ (Nat.le_refl _)
  have ok := rowC_ok rv
  have hfit := row_fit ok rv
  have eE : (linesAt ws 0 (gRow f P n ws ws.length)).flatten = ws := by rw [linesAt_flat, ok.2]; simp
  have lnlen : ∀ {row : List Nat} {a : Nat}, (∀ m ∈ row, 1 ≤ m) → a + row.sum ≤ ws.length → ∀ l ∈ linesAt ws a row, l ≠ [] := by
    intro row
    induction row with
    | nil => intro a _ _ l hl; simp [linesAt] at hl
    | cons m r ih =>
      intro a h1 h2 l hl
      rw [List.sum_cons] at h2
      rw [linesAt] at hl
      rcases List.mem_cons.mp hl with rfl | hl
      · have := h1 m (by simp)
        intro e
        have := congrArg List.length e
        unfold lnW at this
        rw [List.length_take, List.length_drop, List.length_nil] at this
        omega
      · exact ih (fun x hx => h1 x (List.mem_cons_of_mem _ hx)) (by omega) l hl
  have neE := lnlen (row := gRow f P n ws ws.length) (a := 0) ok.1 (by rw [ok.2]; omega)
  obtain ⟨f1, f2, f3⟩ := fillG_is (f := f) (P := P) (n := n) ws
  have fu := fill_under (P := P) ws hu
  have neG : ∀ g ∈ fillG f P n ws, ∀ w ∈ g, w ≠ [] := fun g hg w hw => h.ne w (by rw [← f2]; exact List.mem_flatten.mpr ⟨g, hg, hw⟩)
  have gE := few_lines (n := n) hW ws gw _ ⟨eE, neE, hfit.1⟩
  have lf : (fill f P n ws).length = (fillG f P n ws).length := by rw [← f1, List.length_map]
  refine ⟨⟨_, rfl, eE, neE, hfit.1, hfit.2, by omega⟩, ?_, fu, ?_⟩
  · rw [← f1, jn_map f3 neG, f2]
  · have lg : linesAt ws 0 ((fillG f P n ws).map List.length) = fillG f P n ws := linesAt_groups (by rw [f2]; rfl)
    have okG : rowOk ws.length ((fillG f P n ws).map List.length) := by
      refine ⟨fun m hm => ?_, ?_⟩
      · obtain ⟨g, hg, rfl⟩ := List.mem_map.mp hm
        exact List.length_pos_iff.mpr (f3 g hg)
      · rw [← List.length_flatten, f2]
    have e := rowC_rooms (f := f) (P := P) (n := n) (ws := ws) (Nat.le_refl _) okG
    rw [Nat.sub_self, lg, if_pos] at e
    · have := (greedy_least pr ws.length (Nat.le_refl _) _ _ e).1
      refine Int.le_trans this (Int.le_of_eq ?_)
      unfold roomsOf
      rw [← f1, List.map_map]
      rfl
    · intro r hr
      obtain ⟨g, hg, rfl⟩ := List.mem_map.mp hr
      have := fu (jn g) (by rw [← f1]; exact List.mem_map.mpr ⟨g, hg, rfl⟩)
      omega
end
/-! the blanks -/
end DV

set_option maxHeartbeats 4000000
namespace DV
open PySem
/-! Lines of many words, spread: the law's own asking. -/
end DV

set_option maxHeartbeats 4000000
namespace DV
open PySem
/-! Tables, asked of any thing. -/
def lt3 (a b : Int × Int × Int) : Prop := a.1 < b.1 ∨ (a.1 = b.1 ∧ (a.2.1 < b.2.1 ∨ (a.2.1 = b.2.1 ∧ a.2.2 < b.2.2)))
instance (a b : Int × Int × Int) : Decidable (lt3 a b) := by unfold lt3; infer_instance
end DV

set_option maxHeartbeats 4000000
namespace DV
/-! Neighbours tell of all where the order is transitive. -/
end DV

set_option maxHeartbeats 4000000
namespace DV
open PySem
/-! Exceptions and tables, asked of any thing. -/
theorem four {gs : List PyData} (h : gs.length = 4) : ∃ a b c d, gs = [a, b, c, d] := by
  match gs, h with
  | [a, b, c, d], _ => exact ⟨a, b, c, d, rfl⟩
/-! ### as the law asks it -/
/-! a row of a law's table -/
end DV

set_option maxHeartbeats 4000000
namespace DV
open PySem
/-! What is a table, is one of ours. -/
end DV

set_option maxHeartbeats 4000000
namespace DV
open PySem
/-! How much a table weighs. -/
end DV

set_option maxHeartbeats 4000000
namespace DV
open PySem
/-! Tables asked in six ways, of any thing. -/
/-- shown, and not as a word of a refusal -/
structure Plain (p : PyData) : Prop where
  len : p.shown.length ≤ sizeLine
  rep : ∀ S, reprD [.py p] S = .ok (.py (.str p.shown)) S
  head : p.shown.cps.toList.head? ≠ some 33
section
variable {f : Face} {P : List Pair} {x l r : PyData} {k w : Nat}
end
end DV

set_option maxHeartbeats 4000000
namespace DV
open PySem
/-! The law's table of least costs, from the last word on. -/
section
variable (t : Nat → Int) (R : Nat → List Int)
end
section
variable (C : Nat → Nat → Option Int) (L : Nat) (pr : Nat → Int)
variable {C L pr}
end
@[simp ↓] theorem wp_dwn (e : Ex) {σ : En} {S : Sto} {P : List D → Sto → Prop} {E : Str → Sto → Prop} : (dwnI e σ S).wp P E = (e σ S).wp (fun d S1 => ∃ j, d = .py (.int j) ∧ (-1 ≤ j ∧ j < 16777216) ∧ P (rngV 0 (j + 1).toNat).reverse S1) E := by
  unfold dwnI
  rw [wp_bind]
  congr 1
  funext d S1
  split
  · rename_i j
    rw [wp_iteR]
    split
    · rename_i h
      exact propext ⟨fun q => ⟨j, rfl, h, q⟩, fun ⟨i, e, _, q⟩ => by cases e; exact q⟩
    · rename_i h
      exact propext ⟨fun q => q.elim, fun ⟨i, e, z, q⟩ => by cases e; exact (h z).elim⟩
  · rename_i hn
    exact propext ⟨fun h => h.elim, fun ⟨z, e, _⟩ => (hn z e).elim⟩
section
variable (f : Face) (P : List Pair) (n : Int) (ws : List (List Nat))
end

end DV

set_option maxHeartbeats 4000000
namespace DV
open PySem
/-! Prices of the last words. -/
end DV

set_option maxHeartbeats 4000000
namespace DV
open PySem
/-! ### the law's own loop, where two defs make lambdas -/
end DV

set_option maxHeartbeats 4000000
namespace DV
open PySem
/-! Breaking, asked in five ways, of any text and any number. -/
structure Cutb (l : List Nat) : Prop where
  len : l.length ≤ 119
  short : ∀ w ∈ spl l, w.length ≤ 100
theorem Cutb.of {l : List Nat} (h : l.length ≤ 100) : Cutb l := ⟨by omega, fun w hw => Nat.le_trans ((spl_few l).2 w hw) h⟩
section
variable {f : Face} {P : List Pair} {l : List Nat} {x y : PyData}
theorem Cutb.small (c : Cutb l) (b : ∀ c ∈ f.lets, 97 ≤ c ∧ c ≤ 122) (h : ∀ c ∈ l, f.has c) : (∀ w ∈ spl l, (∀ c ∈ w, c ≤ 122) ∧ w.length ≤ 2000) ∧ (spl l).length ≤ 200 :=
  ⟨fun w hw => ⟨fun x hx => has122 b (h x ((spl_mem w hw).2 x hx)), by have := c.short w hw; omega⟩, by have := (spl_few l).1; have := c.len; omega⟩
/-! ### in five ways -/
end
end DV
namespace DV
open PySem
/-! ### blanks made double -/
theorem spl_blank {w : List Nat} (l : List Nat) : 32 ∉ w → spl (w ++ 32 :: l) = w :: spl l := by
  induction w with
  | nil => intro _; simp [spl]
  | cons a w ih =>
    intro h
    have h1 : a ≠ 32 := fun e => h (by simp [e])
    have h2 := ih fun z => h (List.mem_cons_of_mem _ z)
    show spl (a :: (w ++ 32 :: l)) = _
    rw [spl.eq_2, if_neg h1, h2]
theorem spl_one {w : List Nat} : 32 ∉ w → spl w = [w] := by
  induction w with
  | nil => intro _; simp [spl]
  | cons a w ih =>
    intro h
    have h1 : a ≠ 32 := fun e => h (by simp [e])
    have h2 := ih fun z => h (List.mem_cons_of_mem _ z)
    rw [spl.eq_2, if_neg h1, h2]
end DV

set_option maxHeartbeats 4000000
namespace DV
open PySem
/-! A text with one letter in another one's stead; its lines. -/
theorem eq_self {d : PyData} (hf : flatD d d = none) (hs : SeqAt.shaped d = true) (hl : d.canLay0 = true) (S : Sto) : eqD (.py d) (.py d) S = .ok (.py (.bool true)) S := by
  rw [eqD_deep hf hs hs, SeqAt.eqv_refl d hl]
theorem ne_self {d : PyData} (hf : flatD d d = none) (hs : SeqAt.shaped d = true) (hl : d.canLay0 = true) (S : Sto) : neD (.py d) (.py d) S = .ok (.py (.bool false)) S := neD_of (eq_self hf hs hl S)
theorem ints_shapedT (R : List Int) : SeqAt.shaped (.tuple (R.map PyData.int)) = true := by
  unfold SeqAt.shaped
  rw [PyData.canLay0.eq_6, ints_lay, PyData.depth.eq_2, ints_depth]
  rfl
theorem ints_layT (R : List Int) : (PyData.tuple (R.map PyData.int)).canLay0 = true := by rw [PyData.canLay0.eq_6, ints_lay]
theorem ints_eqT (R : List Int) (S : Sto) : eqD (.py (.tuple (R.map PyData.int))) (.py (.tuple (R.map PyData.int))) S = .ok (.py (.bool true)) S := eq_self rfl (ints_shapedT R) (ints_layT R) S
theorem ints_neT (R : List Int) (S : Sto) : neD (.py (.tuple (R.map PyData.int))) (.py (.tuple (R.map PyData.int))) S = .ok (.py (.bool false)) S := ne_self rfl (ints_shapedT R) (ints_layT R) S
theorem ints_eqL (R : List Int) (S : Sto) : eqD (.py (.list (R.map PyData.int))) (.py (.list (R.map PyData.int))) S = .ok (.py (.bool true)) S := eq_self rfl (ints_shaped R) (by rw [PyData.canLay0.eq_5, ints_lay]) S
/-! ### words drawn -/
theorem law_word1_ok {S : Sto} {n : Nat} {f : Face} (hB : BoxAt S n) (h1 : 0 < f.ls.length) (h200 : f.ls.length ≤ 200) :
    (F_law_word_v1 [.obj n, .py (.list (f.lets.map lt))] S).wp (fun d S' => ∃ w, d = .py (tx w) ∧ w ≠ [] ∧ (∀ c ∈ w, c ∈ f.lets) ∧ w.length ≤ 3 ∧ Ch n S S') noE := by
  have hn := hB.lt
  have tk : ∀ {T : Sto} (m : Int), Ch n S T → 0 < m → m < 1073741824 → (F_law_take [.obj n, .py (.int m)] T).wp (fun d S2 => ∃ r, d = .py (PyData.int r) ∧ (0 ≤ r ∧ r < m) ∧ Ch n T S2) noE := fun m c a b =>
    (take_ok c.box a b).to fun d S2 ⟨r, e, r0, r1, c2, _⟩ => ⟨r, e, ⟨r0, r1⟩, c2⟩
  unfold F_law_word_v1 b_law_word_v1
  refine wp_fn ?_
  simp [init]
  refine (tk 3 (.refl hB) (by decide) (by decide)).to ?_
  rintro _ T2 ⟨q, rfl, hq, c2⟩
  simp
  refine ⟨by omega, ?_⟩
  refine (draws (n := n) lt (fun c => c ∈ f.lets) c2.box fun y S' _ c' => ?_).to ?_
  · simp
    refine (tk f.ls.length (c2.trans c') (by omega) (by omega)).to ?_
    rintro _ T3 ⟨j, rfl, hj, c3⟩
    have hl : j.toNat < f.lets.length := by simp; omega
    have it : itemD (.py (.list (f.lets.map lt))) (.py (.int j)) T3 = .ok (.py (lt f.lets[j.toNat])) T3 := itemD_listI hj.1 (by simp [hl])
    simp [it]
    exact c3
  · rintro _ T3 ⟨rs, rfl, lr, hrs, c3⟩
    have lr : rs.length = (1 + q).toNat := by simpa [rngV] using lr
    have jd := joinD_lts (rs := rs) (by omega)
    have ee : (rs.map fun r => D.py (lt r)) = (rs.map lt).map D.py := by simp
    rw [ee, pysOf_map]
    simp only
    rw [jd]
    simp only [wp_ok]
    obtain ⟨U, k1, k2, _⟩ := (c2.trans c3).cut hn
    exact ⟨U, k1, rfl, rs, rfl, fun e => by rw [e] at lr; simp at lr; omega, hrs, by omega, k2⟩
/-! ### the text with the new letter -/
structure Swp (c o : Nat) (l m : List Nat) : Prop where
  map : m.map (stnd c o) = l
  mem : ∀ x ∈ m, x = c ∨ x ∈ l
theorem law_swapped_ok {S : Sto} {n : Nat} {c o : Nat} {l : List Nat} (hB : BoxAt S n) (hc : c ∉ l) (hl : l.length ≤ 1000) :
    (F_law_swapped [.obj n, .py (tx l), .py (lt c), .py (lt o)] S).wp (fun d S' => ∃ m, d = .py (tx m) ∧ Swp c o l m ∧ Ch n S S') noE := by
  have hn := hB.lt
  have tk : ∀ {T : Sto} (m : Int), Ch n S T → 0 < m → m < 1073741824 → (F_law_take [.obj n, .py (.int m)] T).wp (fun d S2 => ∃ r, d = .py (PyData.int r) ∧ (0 ≤ r ∧ r < m) ∧ Ch n T S2) noE := fun m c a b =>
    (take_ok c.box a b).to fun d S2 ⟨r, e, r0, r1, c2, _⟩ => ⟨r, e, ⟨r0, r1⟩, c2⟩
  unfold F_law_swapped b_law_swapped
  refine wp_fn ?_
  simp [init, -wp_forL_cons]
  refine ⟨by simp [Str.length]; omega, ?_⟩
  have c0 : Ch n S (S ++ [.lst []]) := Ch.app hB
  have hm0 : (S ++ [O.lst []])[S.length]? = some (.lst (([] : List PyData).map D.py)) := by simp
  generalize S ++ [O.lst []] = T0 at c0 hm0 ⊢
  refine wp_forM (D.py ∘ lt) (fun (pre : List Nat) σ T => wipeD σ [5] = _ ∧ Ch n S T ∧ ∃ a : List Nat, T[S.length]? = some (.lst ((a.map lt).map D.py)) ∧ a.map (stnd c o) = pre ∧ ∀ x ∈ a, x = c ∨ x ∈ pre) ⟨rfl, c0, [], hm0, rfl, by simp⟩ ?_ ?_
  · rintro pre x post σ T e ⟨hσ, cT, a, tT, am, ax⟩
    obtain ⟨_, rfl⟩ := slot_any hσ
    clear hσ
    have hx : x ≠ c := fun q => hc (by rw [e, q]; simp)
    have al : a.length ≤ 1000 := by
      have h1 := congrArg List.length am
      have h2 := congrArg List.length e
      simp at h1 h2
      omega
    have eqx := fun T => lt_eqq x o T
    have sx : stnd c o x = x := by unfold stnd; rw [if_neg hx]
    have app : ∀ (y : Nat) {T' : Sto}, T'[S.length]? = some (.lst ((a.map lt).map D.py)) → appendD (.obj S.length) [.py (lt y)] T' = .ok (.py .none) (T'.set S.length (.lst ((((a ++ [y]).map lt)).map D.py))) := fun y T' h => by
      have := appendD_obj (d := .py (lt y)) h (by rw [List.length_map, List.length_map, sl_big']; omega)
      rw [this]
      simp
    simp [eqx]
    by_cases hxo : x = o
    · simp [hxo]
      refine (tk 2 cT (by decide) (by decide)).to ?_
      rintro _ T2 ⟨q, rfl, hq, c2⟩
      have t2 := c2.at_ tT (by omega)
      have l2 := (List.getElem?_eq_some_iff.mp t2).1
      by_cases q0 : q = 0
      · simp [q0, lsOk_obj t2, app c t2]
        refine ⟨(cT.trans c2).own (Nat.le_refl _) hn, a ++ [c], by rw [List.getElem?_set_self l2]; simp, by simp [am, stnd], fun y hy => ?_⟩
        rw [List.mem_append, List.mem_singleton] at hy
        rcases hy with hy | rfl
        · rcases ax y hy with h | h
          · exact .inl h
          · exact .inr (.inl h)
        · exact .inl rfl
      · simp [q0, lsOk_obj t2, app o t2]
        refine ⟨(cT.trans c2).own (Nat.le_refl _) hn, a ++ [o], by rw [List.getElem?_set_self l2]; simp, by simp [am, hxo, stnd], fun y hy => ?_⟩
        rw [List.mem_append, List.mem_singleton] at hy
        rcases hy with hy | rfl
        · rcases ax y hy with h | h
          · exact .inl h
          · exact .inr (.inl h)
        · exact .inr (.inr rfl)
    · have l2 := (List.getElem?_eq_some_iff.mp tT).1
      simp [hxo, lsOk_obj tT, app x tT]
      refine ⟨cT.own (Nat.le_refl _) hn, a ++ [x], by rw [List.getElem?_set_self l2]; simp, by simp [am, sx], fun y hy => ?_⟩
      rw [List.mem_append, List.mem_singleton] at hy
      rcases hy with hy | rfl
      · rcases ax y hy with h | h
        · exact .inl h
        · exact .inr (.inl h)
      · exact .inr (.inr rfl)
  · rintro σ T ⟨hσ, cT, a, tT, am, ax⟩
    obtain ⟨_, rfl⟩ := slot_any hσ
    clear hσ
    simp
    refine fix_at tT rfl ?_
    have al : a.length ≤ 1000 := by
      have h1 := congrArg List.length am
      simp at h1
      omega
    have jd := joinD_lts (rs := a) al
    simp [jd]
    obtain ⟨U, k1, k2, _⟩ := (cT.own (m := S.length) (o := .gone) (Nat.le_refl _) hn).cut hn
    exact ⟨U, k1, rfl, ⟨am, ax⟩, k2⟩
theorem spl_hom (φ : Nat → Nat) : ∀ {l : List Nat}, (∀ x ∈ l, φ x = 32 ↔ x = 32) → spl (l.map φ) = mm φ (spl l)
  | [], _ => by simp [spl, mm]
  | c :: l, h => by
    have ih := spl_hom φ (l := l) fun x hx => h x (List.mem_cons_of_mem _ hx)
    have hc := h c (by simp)
    rw [List.map_cons, spl, spl]
    by_cases e : c = 32
    · rw [if_pos e, if_pos (hc.mpr e), ih]
      rfl
    · rw [if_neg e, if_neg fun q => e (hc.mp q), ih]
      cases q : spl l with
      | nil => exact absurd q (spl_ne l)
      | cons w r => rfl
theorem spl_jn : ∀ {ws : List (List Nat)}, ws ≠ [] → (∀ w ∈ ws, 32 ∉ w) → spl (jn ws) = ws
  | [], h, _ => absurd rfl h
  | [w], _, h => spl_one (h w (by simp))
  | w :: v :: r, _, h => by
    show spl (w ++ 32 :: jn (v :: r)) = _
    rw [spl_blank _ (h w (by simp)), spl_jn (by simp) fun x hx => h x (List.mem_cons_of_mem _ hx)]
/-- the words of the text with the new letter -/
theorem swp_words {f : Face} {c o : Nat} {w : Int} {ws : List (List Nat)} {m : List Nat} (b97 : ∀ x ∈ f.lets, 97 ≤ x) (h97 : 97 ≤ c) (ho : o ∈ f.lets) (h : Wds f ws) (h0 : ws ≠ []) (sw : Swp c o (jn ws) m) :
    ∃ vs, m = jn vs ∧ mm (stnd c o) vs = ws ∧ Wds (addF f c w) vs := by
  have o97 := b97 o ho
  have h32 : ∀ v ∈ ws, 32 ∉ v := fun v hv q => by
    have := b97 32 (h.mem v hv 32 q)
    omega
  have b : ∀ x ∈ m, stnd c o x = 32 ↔ x = 32 := fun x _ => by
    unfold stnd
    split
    · omega
    · rfl
  have e : mm (stnd c o) (spl m) = ws := by rw [← spl_hom _ b, sw.map, spl_jn h0 h32]
  refine ⟨spl m, (jn_spl m).symm, e, ?_, ?_, ?_, ?_⟩
  · intro v hv q
    subst q
    exact h.ne [] (by rw [← e]; exact List.mem_map.mpr ⟨[], hv, rfl⟩) rfl
  · intro v hv x hx
    obtain ⟨n32, mx⟩ := spl_mem v hv
    rw [addF_lets, List.mem_append, List.mem_singleton]
    rcases sw.mem x (mx x hx) with h1 | h1
    · exact .inr h1
    · rcases jn_has h.mem x h1 with h2 | h2
      · subst h2
        exact absurd hx n32
      · exact .inl h2
  · intro v hv
    have := h.short (v.map (stnd c o)) (by rw [← e]; exact List.mem_map.mpr ⟨v, hv, rfl⟩)
    simpa using this
  · have := congrArg List.length e
    simp at this
    have := h.few
    omega
/-! ### lines alike -/
theorem joinT {LS : List (List Nat)} (h : ∀ l ∈ LS, l.length ≤ 10000) (hl : LS.length ≤ 100) (S : Sto) : joinD (.py (.str (Str.ofString " "))) [.py (.tuple (sts LS))] S = .ok (.py (tx (jn LS))) S := by
  have hs := strsOf_w LS
  have sm : ∀ vs : List (List Nat), (∀ w ∈ vs, w.length ≤ 10000) → ((vs.map st).map fun x => x.length).sum ≤ vs.length * 10000 := by
    intro vs
    induction vs with
    | nil => simp
    | cons c r ih =>
      intro hv
      have a := ih fun w hw => hv w (List.mem_cons_of_mem _ hw)
      have b := hv c (List.mem_cons_self ..)
      simp only [List.map_cons, List.sum_cons, List.length_cons]
      have : (st c).length = c.length := by simp [Str.length]
      omega
  have b := sm LS h
  unfold joinD
  simp only [hs]
  rw [if_pos]
  · rw [blank_str]
    exact congrArg (fun z => DV.R.ok (D.py (.str z)) S) ((StrLaws.glued_eq_join _ _).trans (join_jn LS))
  · rw [List.length_map, blank_str]
    have : (⟨#[32]⟩ : Str).length = 1 := rfl
    rw [this]
    omega
theorem mem32 {f : Face} (b : ∀ c ∈ f.lets, 97 ≤ c) {l : List (List Nat)} (h : GW f l) (h0 : l ≠ []) : (32 ∈ jn l) ↔ 2 ≤ l.length := by
  match l, h0 with
  | [w], _ =>
    simp only [jn]
    constructor
    · intro hm
      have := b 32 ((h w (by simp)).2 32 hm)
      omega
    · intro q
      simp at q
  | w :: v :: r, _ => simp [jn]
theorem same_lines_eq {A B : List (List Nat)} {l : List Nat} (hAB : A.map List.length = B.map List.length) (hj : jn B = l) (hA : ∀ a ∈ A, a.length ≤ 10000) (hB : ∀ b ∈ B, b.length ≤ 10000) (hl : B.length ≤ 100) (S : Sto) :
    F_law_same_lines [.py (.tuple (sts A)), .py (.tuple (sts B)), .py (tx l)] S = .ok (.py (.bool true)) S := by
  unfold F_law_same_lines b_law_same_lines
  refine fn_eq (wp_fn ?_)
  have sd : ∀ A, seqD (.py (.tuple (sts A))) = some (A.map fun l => PyData.str (st l)) := fun A => rfl
  simp [init, sd]
  refine wp_pureM (fun l => D.py (.str (st l))) (fun _ => true) (fun l => D.py (.int (l.length : Nat))) (fun l hl => by
    have := hA l hl
    have : l.length ≤ sizeLine := by rw [sl_big']; omega
    simp [lenD, Str.length, this]) ?_
  rw [List.filter_eq_self.mpr fun _ _ => rfl]
  have e2 : ∀ A : List (List Nat), (A.map fun l => D.py (.int (l.length : Nat))) = (((A.map List.length).map fun (k : Nat) => (k : Int)).map PyData.int).map D.py := fun A => by simp
  rw [e2, pysOf_map]
  simp only
  refine wp_pureM (fun l => D.py (.str (st l))) (fun _ => true) (fun l => D.py (.int (l.length : Nat))) (fun l hl => by
    have := hB l hl
    have : l.length ≤ sizeLine := by rw [sl_big']; omega
    simp [lenD, Str.length, this]) ?_
  rw [List.filter_eq_self.mpr fun _ _ => rfl, e2, pysOf_map, hAB]
  have eq1 := ints_eqL ((B.map List.length).map fun (k : Nat) => (k : Int))
  have jd := joinT hB hl
  rw [hj] at jd
  simp only [eq1, wp_ok]
  simp [jd]
  first | exact .self | exact ⟨.self, rfl⟩
end DV

set_option maxHeartbeats 4000000
namespace DV
open PySem
theorem in_text (l : List Nat) (T : Sto) : inD (.py (.str (Str.ofString " "))) (.py (.str (st l))) T = .ok (.py (.bool (decide (32 ∈ l)))) T := by
  have h1 : deep T 8 (.py (.str (Str.ofString " "))) = some (.str (Str.ofString " ")) := rfl
  have h2 : deep T 8 (.py (.str (st l))) = some (.str (st l)) := rfl
  simp only [inD, inS, h1, h2, inB]
  rw [blank_str]
/-- the lines of a text, even ones and filled ones -/
structure Lks (f : Face) (P : List Pair) (n : Int) (ws : List (List Nat)) (E F : List (List Nat)) : Prop where
  ev : ∀ S, F_evened [.py f.py, .py (encP P), .py (tx (jn ws)), .py (.int n)] S = .ok (.py (.tuple (sts E))) S
  fi : ∀ S, F_filled [.py f.py, .py (encP P), .py (tx (jn ws)), .py (.int n)] S = .ok (.py (.tuple (sts F))) S
  je : jn E = jn ws
  jf : jn F = jn ws
  le : (∀ l ∈ E, l.length ≤ 10000) ∧ E.length ≤ 100
  lf : (∀ l ∈ F, l.length ≤ 10000) ∧ F.length ≤ 100
theorem lks_of {f : Face} {P : List Pair} {ws : List (List Nat)} {n : Int} (h : Wds f ws) (nd : f.lets.Nodup) (b : ∀ c ∈ f.lets, 97 ≤ c ∧ c ≤ 122) (hn : 1 ≤ n ∧ n ≤ 999) (hW : Wid f P) (hu : ∀ w ∈ ws, wd f P w ≤ n) :
    Lks f P n ws ((linesAt ws 0 (gRow f P n ws ws.length)).map jn) (fill f P n ws) := by
  obtain ⟨⟨E, hE, eF, eN, eW, eC, eL⟩, fJ, fW, fC⟩ := even_full h hW hu
  have gw : GW f ws := fun w hw => ⟨h.ne w hw, h.mem w hw⟩
  have gE : ∀ l ∈ E, GW f l := fun l hl w hw => gw w (by rw [← eF]; exact List.mem_flatten.mpr ⟨l, hl, hw⟩)
  have wE : ∀ l ∈ E, Wds f l := fun l hl => by
    obtain ⟨a, b, e⟩ := linesAt_ln (by rw [← hE]; exact hl)
    rw [e]
    exact h.ln a b
  have jE : jn (E.map jn) = jn ws := by rw [jn_map eN fun g hg w hw => (gE g hg w hw).1, eF]
  have lE : E.length ≤ 60 := by
    rw [hE, linesAt_len]
    have rv : rowC (cost f P n ws) ws.length ws.length (gRow f P n ws ws.length) = some (price f P n ws ws.length) := greedy_cost (prs (P := P) hu) _ (Nat.le_refl _)
    have := (rowC_ok rv).le
    have := h.few
    omega
  have lnF : Lns f (fill f P n ws) ws.length := h.lns
  have fF := lnF.few
  have w60 := h.few
  rw [← hE]
  refine ⟨fun S => ?_, fun S => filled_eq h nd b hn hu S, jE, fJ, ⟨fun l hl => ?_, by simp; omega⟩, ⟨fun l hl => ?_, by omega⟩⟩
  · have := evened_eq (P := P) h nd b hn hW hu S
    rw [this, ← hE]
    simp [sts]
  · obtain ⟨g, hg, rfl⟩ := List.mem_map.mp hl
    exact (wE g hg).len
  · have := lnF.len l hl
    have := Nat.mul_le_mul_right 101 w60
    omega
theorem lines_right_eq {f g : Face} {P Q : List Pair} {φ : Nat → Nat} {ws vs : List (List Nat)} {n : Int} (H : Hom f g P Q φ) (h : Wds f ws) (h' : Wds g vs) (hm : mm φ vs = ws) (h0 : ws ≠ [])
    (nd : f.lets.Nodup) (b : ∀ c ∈ f.lets, 97 ≤ c ∧ c ≤ 122) (nd' : g.lets.Nodup) (b' : ∀ c ∈ g.lets, 97 ≤ c ∧ c ≤ 122) (hn : 1 ≤ n ∧ n ≤ 999) (hW : Wid f P) (hW' : Wid g Q) (hu : ∀ w ∈ ws, wd f P w ≤ n) (S : Sto) :
    F_law_lines_right [.py (.tuple [f.py, encP P]), .py (.tuple [g.py, encP Q]), .py (.tuple [tx (jn ws), tx (jn vs)]), .py (.int n)] S = .ok (.py (.bool true)) S := by
  have ah : AllH g vs := AllH.of h'.mem
  have len : vs.length = ws.length := by rw [← hm]; simp
  have hu' : ∀ v ∈ vs, wd g Q v ≤ n := fun v hv => by
    rw [H.wd (ah v hv)]
    exact hu _ (by rw [← hm]; exact List.mem_map.mpr ⟨v, hv, rfl⟩)
  have k1 := lks_of h nd b hn hW hu
  have k2 := lks_of h' nd' b' hn hW' hu'
  have s1 := shows_even_eq h nd b hn hW hu
  have s2 := shows_even_eq h' nd' b' hn hW' hu'
  have er : gRow g Q n vs vs.length = gRow f P n ws ws.length := by rw [H.gRow n ah, hm, len]
  have ep : prices g Q n vs vs.length = prices f P n ws ws.length := by rw [H.prices n ah, hm, len]
  have eE : (linesAt vs 0 (gRow g Q n vs vs.length)).map (mm φ) = linesAt ws 0 (gRow f P n ws ws.length) := by rw [linesAt_mm, hm, er]
  have eF : mm φ (fill g Q n vs) = fill f P n ws := by rw [H.fill n ah, hm]
  rw [ep] at s2
  obtain ⟨⟨E, hE, eFl, eN, eW, eC, eL⟩, _, _, _⟩ := even_full h hW hu
  obtain ⟨⟨E', hE', eFl', eN', eW', eC', eL'⟩, _, _, _⟩ := even_full h' hW' hu'
  rw [← hE] at k1
  rw [← hE'] at k2
  rw [← hE, ← hE'] at eE
  obtain ⟨F, hF⟩ : ∃ F, F = fill f P n ws := ⟨_, rfl⟩
  obtain ⟨F', hF'⟩ : ∃ F', F' = fill g Q n vs := ⟨_, rfl⟩
  rw [← hF] at k1
  rw [← hF'] at k2
  rw [← hF, ← hF'] at eF
  have lE : (E.map jn).map List.length = (E'.map jn).map List.length := by
    rw [← eE, List.map_map, List.map_map, List.map_map]
    refine List.map_congr_left fun l _ => ?_
    show (jn (mm φ l)).length = (jn l).length
    rw [← jn_mm H.b32, List.length_map]
  have lF : F.map List.length = F'.map List.length := by
    rw [← eF, mm, List.map_map]
    exact List.map_congr_left fun l _ => by simp
  have sl1 := same_lines_eq lE k2.je k1.le.1 k2.le.1 k2.le.2
  have sl2 := same_lines_eq lF k2.jf k1.lf.1 k2.lf.1 k2.lf.2
  have np := ints_neT (prices f P n ws ws.length)
  have wE : ∀ l ∈ E, Wds f l := fun l hl => by
    obtain ⟨a, b, e⟩ := linesAt_ln (by rw [← hE]; exact hl)
    rw [e]
    exact h.ln a b
  have wE' : ∀ l ∈ E', Wds g l := fun l hl => by
    obtain ⟨a, b, e⟩ := linesAt_ln (by rw [← hE']; exact hl)
    rw [e]
    exact h'.ln a b
  obtain ⟨e0, Et, rfl⟩ : ∃ e0 Et, E = e0 :: Et := by
    cases E with
    | nil => exact absurd eFl.symm h0
    | cons a r => exact ⟨a, r, rfl⟩
  obtain ⟨e0', Et', rfl⟩ : ∃ e0 Et, E' = e0 :: Et := by
    cases E' with
    | nil => cases eE
    | cons a r => exact ⟨a, r, rfl⟩
  have e00 : mm φ e0' = e0 := by
    have := congrArg List.head? eE
    simpa using this
  have i1 : ∀ T, itemD (.py (.tuple (sts ((e0 :: Et).map jn)))) (.py (.int 0)) T = .ok (.py (.str (st (jn e0)))) T := fun T => itemD_tupleI (by decide) rfl
  have i2 : ∀ T, itemD (.py (.tuple (sts ((e0' :: Et').map jn)))) (.py (.int 0)) T = .ok (.py (.str (st (jn e0')))) T := fun T => itemD_tupleI (by decide) rfl
  have it := in_text (jn e0)
  unfold F_law_lines_right b_law_lines_right
  refine fn_eq (wp_fn ?_)
  simp [init, k1.ev, k2.ev]
  have sl1' := sl1
  have i1' := i1
  have i2' := i2
  simp only [List.map_cons] at sl1' i1' i2'
  simp [sl1', k1.fi, k2.fi, sl2, s1, s2, np, i1', it]
  by_cases h32 : 32 ∈ jn e0
  · have gE : GW f e0 := fun w hw => ⟨(wE e0 (by simp)).ne w hw, (wE e0 (by simp)).mem w hw⟩
    have gE' : GW g e0' := fun w hw => ⟨(wE' e0' (by simp)).ne w hw, (wE' e0' (by simp)).mem w hw⟩
    have h2 := (mem32 (fun c hc => (b c hc).1) gE (eN e0 (by simp))).mp h32
    have l0 : e0'.length = e0.length := by rw [← e00]; simp
    obtain ⟨q, hq⟩ : ∃ q, e0.length = q + 1 := ⟨e0.length - 1, by omega⟩
    have q1 : 1 ≤ q := by omega
    have sp := spread_eq (P := P) (wE e0 (by simp)) nd b hn hq q1 (eW e0 (by simp))
    have sp' := spread_eq (P := Q) (wE' e0' (by simp)) nd' b' hn (l0.trans hq) q1 (eW' e0' (by simp))
    have we : wd g Q (jn e0') = wd f P (jn e0) := by rw [H.wd (jn_hasH (AllH.of (wE' e0' (by simp)).mem)), jn_mm H.b32, e00]
    rw [we, H.w] at sp'
    have ie := ints_eqT (blanks f.w (n - wd f P (jn e0)) q)
    simp [h32, sp, sp', i2', ie]
    first | exact .self | exact ⟨.self, rfl⟩ | exact ⟨_, .self, rfl, rfl⟩
  · simp [h32]
    first | exact .self | exact ⟨.self, rfl⟩ | exact ⟨_, .self, rfl, rfl⟩
end DV

set_option maxHeartbeats 4000000
namespace DV
open PySem
theorem take2_zip {m : List Nat} {i a b : Nat} : (m.drop i).take 2 = [a, b] ↔ (m.zip (m.drop 1))[i]? = some (a, b) := by
  rw [List.getElem?_zip_eq_some, List.getElem?_drop]
  constructor
  · intro h
    have h0 := congrArg (fun l => l[0]?) h
    have h1 := congrArg (fun l => l[1]?) h
    simp [List.getElem?_take, List.getElem?_drop] at h0 h1
    exact ⟨h0, by rw [Nat.add_comm]; exact h1⟩
  · rintro ⟨h0, h1⟩
    obtain ⟨l0, e0⟩ := List.getElem?_eq_some_iff.mp h0
    obtain ⟨l1, e1⟩ := List.getElem?_eq_some_iff.mp h1
    rw [List.drop_eq_getElem_cons l0, List.drop_eq_getElem_cons (by omega : i + 1 < m.length)]
    simp only [List.take_succ_cons, List.take_zero]
    have e2 : m[i + 1] = b := by
      have : m[1 + i]'l1 = m[i + 1]'(by omega) := by congr 1; omega
      rw [← this, e1]
    rw [e0, e2]
theorem two_in (m : List Nat) (a b : Nat) : (!(Builtin.Str.occurrences (st m) (st [a, b]) 0 (st m).length 1).isEmpty) = decide ((a, b) ∈ m.zip (m.drop 1)) := by
  rw [Bool.eq_iff_iff, StrLaws.found_iff, decide_eq_true_iff, List.mem_iff_getElem?]
  have sub : ∀ i, Builtin.Str.subAt (st m) (st [a, b]) i = true ↔ (m.drop i).take 2 = [a, b] := fun i => by
    unfold Builtin.Str.subAt
    rw [beq_iff_eq]
    have e : (st m).cps.extract i (i + (st [a, b]).length) = ((m.drop i).take 2).toArray := by
      show m.toArray.extract i (i + 2) = _
      rw [List.extract_toArray]
      congr 1
      rw [List.extract_eq_take_drop]
      congr 1
      omega
    rw [e]
    constructor
    · intro h
      simpa using h
    · intro h
      rw [h]
  constructor
  · rintro ⟨i, _, h⟩
    exact ⟨i, take2_zip.mp ((sub i).mp h)⟩
  · rintro ⟨i, h⟩
    refine ⟨i, ?_, (sub i).mpr (take2_zip.mpr h)⟩
    rw [List.getElem?_zip_eq_some, List.getElem?_drop] at h
    have := (List.getElem?_eq_some_iff.mp h.2).1
    show i + 2 ≤ m.length
    omega
theorem in_two (a b : Nat) (m : List Nat) (S : Sto) : inStrD (.py (.str (st [a, b]))) (.py (tx m)) S = .ok (.py (.bool (decide ((a, b) ∈ m.zip (m.drop 1))))) S := by
  show R.ok (D.py (.bool (!(Builtin.Str.occurrences (st m) (st [a, b]) 0 (st m).length 1).isEmpty))) S = _
  rw [two_in]
end DV

set_option maxHeartbeats 4000000
namespace DV.k69
open PySem DV
-- slots: 0 _law_script, 1 _law_k, 2 _law_box_here, 3 _law_face_here, 4 _law_letters_here, 5 _law_pairs_here, 6 _law_letter, 7 _law_other, 8 _law_later, 9 _law_more, 10 _law_words, 11 _law_text, 12 _law_swapped_here, 13 _law_at, 14 _law_number, 15 _law_one, 16 _law_gap, 17 _law_due, 18 _law_turned, 19 _law_turn, 20 _law_word_here
theorem prt_rise {f : Face} {P : List Pair} {r : List Nat} (h : prtS f P = some r) : r.Pairwise (· < ·) := by
  obtain ⟨q, e, pq⟩ := prt_some f P
  rw [h] at e
  cases e
  exact pq.rise
theorem true_law (ns : List Int) (h : ns.length ≤ 63) : ∃ S', F_law [.py (.list (ns.map .int))] [] = .ok (.py (.bool true)) S' := by
  refine law_all (n := 18) (c := 2) (by decide) (by decide) ?_
  intro k ys S n hB hy hk
  obtain ⟨y3, r3, rfl, h3⟩ := explode hy
  obtain ⟨y4, r4, rfl, h4⟩ := explode h3
  obtain ⟨y5, r5, rfl, h5⟩ := explode h4
  obtain ⟨y6, r6, rfl, h6⟩ := explode h5
  obtain ⟨y7, r7, rfl, h7⟩ := explode h6
  obtain ⟨y8, r8, rfl, h8⟩ := explode h7
  obtain ⟨y9, r9, rfl, h9⟩ := explode h8
  obtain ⟨y10, r10, rfl, h10⟩ := explode h9
  obtain ⟨y11, r11, rfl, h11⟩ := explode h10
  obtain ⟨y12, r12, rfl, h12⟩ := explode h11
  obtain ⟨y13, r13, rfl, h13⟩ := explode h12
  obtain ⟨y14, r14, rfl, h14⟩ := explode h13
  obtain ⟨y15, r15, rfl, h15⟩ := explode h14
  obtain ⟨y16, r16, rfl, h16⟩ := explode h15
  obtain ⟨y17, r17, rfl, h17⟩ := explode h16
  obtain ⟨y18, r18, rfl, h18⟩ := explode h17
  obtain ⟨y19, r19, rfl, h19⟩ := explode h18
  obtain ⟨y20, r20, rfl, h20⟩ := explode h19
  obtain rfl := nil_of h20
  have hn := hB.lt
  clear h3 h4 h5 h6 h7 h8 h9 h10 h11 h12 h13 h14 h15 h16 h17 h18 h19 h20 hy
  have tk : ∀ {T : Sto} (m : Int), Ch n S T → 0 < m → m < 1073741824 → (F_law_take [.obj n, .py (.int m)] T).wp (fun d S2 => ∃ r, d = .py (PyData.int r) ∧ (0 ≤ r ∧ r < m) ∧ Ch n T S2) noE := fun m c a b =>
    (take_ok c.box a b).to fun d S2 ⟨r, e, r0, r1, c2, _⟩ => ⟨r, e, ⟨r0, r1⟩, c2⟩
  simp

  refine (face_ok (n := n) (lo := 1) (hi := 4) hB (by decide) (by decide) (by decide)).to ?_
  rintro _ S2 ⟨f, rfl, gf, c2, _⟩
  have lo := gf.lo
  have hi := gf.hi
  have b122 : ∀ c ∈ f.lets, 97 ≤ c ∧ c ≤ 122 := fun c hc => gf.mem hc
  have b97 : ∀ c ∈ f.lets, 97 ≤ c := fun c hc => (b122 c hc).1
  have b2 : ∀ c ∈ f.lets, c ≤ 122 := fun c hc => (b122 c hc).2
  have nd : f.lets.Nodup := gf.nd
  have h200 : f.ls.length ≤ 200 := by omega
  have lL : ∀ T, lenD [.py (.list (f.lets.map lt))] T = .ok (.py (.int (f.ls.length : Nat))) T := fun T => by simp [lenD, seqOf]
  simp [law_letters_eq]
  refine (law_pairs_ok (n := n) c2.box (by omega) (by omega)).to ?_
  rintro _ S3 ⟨R, rfl, rR, c3, _⟩
  have c23 := c2.trans c3
  have hW := wid_of gf rR
  have pR := PG.mlist (L := f.lets) (R := R) (fun c hc => (b122 c hc).2) rR.bnd9 (by simp; omega)
  have h9 : ∀ a b, -9 ≤ gapIn (mlist f.lets R) a b ∧ gapIn (mlist f.lets R) a b ≤ 9 := fun a b => gapIn_all (Q := fun g => -9 ≤ g ∧ g ≤ 9) (by omega) (fun q hq => by
    obtain ⟨i, j, row, _, h2, _, h4, _⟩ := mem_mlist hq
    exact rR.bnd row (List.mem_of_getElem? h2) _ (List.mem_of_getElem? h4)) a b
  generalize mlist f.lets R = P at *
  simp [pysOf]
  refine (law_fresh_new (n := n) c23.box b2 (by omega)).to ?_
  rintro _ S4 ⟨c, rfl, hc, hc2, c4⟩
  have c24 := c23.trans c4
  try simp [lL]
  refine (tk f.ls.length c24 (by omega) (by omega)).to ?_
  rintro _ S5 ⟨r5, rfl, hr5, c5⟩
  have c25 := c24.trans c5
  have hl5 : r5.toNat < f.lets.length := by simp; omega
  obtain ⟨o, ho, io⟩ : ∃ o, o ∈ f.lets ∧ ∀ T, itemD (.py (.list (f.lets.map lt))) (.py (.int r5)) T = .ok (.py (lt o)) T := ⟨f.lets[r5.toNat], List.getElem_mem hl5, fun T => itemD_listI hr5.1 (by simp [hl5])⟩
  have wl := fun T => with_like_eq (P := P) nd (by omega) hc hc2 ho T
  simp [io, wl]
  have gw : 10 ≤ wdL f o ∧ wdL f o ≤ 99 := by
    obtain ⟨i, hi'⟩ := List.mem_iff_getElem?.mp ho
    obtain ⟨p, hp, _, e2⟩ := wdL_at nd hi'
    have := gf.ok p (List.mem_of_getElem? hp)
    omega
  have gg := addF_good gf hc hc2 gw
  have H := hom_like (P := P) nd b97 hc hc2.1 ho rfl
  have gl : (addF f c (wdL f o)).lets = f.lets ++ [c] := addF_lets _ _ _
  have gls : (addF f c (wdL f o)).ls.length = f.ls.length + 1 := by simp [addF]
  obtain ⟨g, hgd⟩ : ∃ g, g = addF f c (wdL f o) := ⟨_, rfl⟩
  obtain ⟨Q, hQ⟩ : ∃ Q, Q = mlist (f.lets ++ [c]) (likeR f P o) := ⟨_, rfl⟩
  rw [← hgd, ← hQ] at H
  rw [← hgd] at gg gl gls
  simp only [← hgd, ← hQ]
  refine (tk 4 c25 (by decide) (by decide)).to ?_
  rintro _ S6 ⟨r6, rfl, hr6, c6⟩
  have c26 := c25.trans c6
  simp
  refine ⟨by omega, ?_⟩
  refine (draws (n := n) tx (fun w => w ≠ [] ∧ (∀ c ∈ w, c ∈ f.lets) ∧ w.length ≤ 3) c26.box fun y S' _ c' => ?_).to ?_
  · simp
    exact (law_word1_ok (n := n) (c26.trans c').box (by omega) h200).to fun d T ⟨w, e, h1, h2, h3, h4⟩ => ⟨w, e, ⟨h1, h2, h3⟩, h4⟩
  rintro _ S7 ⟨ws, rfl, lw, hws, c7⟩
  have c27 := c26.trans c7
  have lw : ws.length = (1 + r6).toNat := by simpa [rngV] using lw
  have Hw : Wds f ws := ⟨fun w hw => (hws w hw).1, fun w hw => (hws w hw).2.1, fun w hw => by have := (hws w hw).2.2; omega, by omega⟩
  have ws0 : ws ≠ [] := fun e => by rw [e] at lw; simp at lw; omega
  have e2 : (ws.map fun r => D.py (tx r)) = (ws.map fun w => PyData.str (st w)).map D.py := by simp
  rw [e2, pysOf_map]
  have jd := joinD_w Hw
  have l7 : (jn ws).length ≤ 1000 := by
    have := jn_len (ws := ws) (n := 3) fun w hw => (hws w hw).2.2
    omega
  have cj : c ∉ jn ws := fun q => by
    rcases jn_has Hw.mem c q with h | h
    · omega
    · exact hc h
  simp [jd]
  refine (law_swapped_ok (n := n) (o := o) c27.box cj l7).to ?_
  rintro _ S8 ⟨m, rfl, sw, c8⟩
  have c28 := c27.trans c8
  obtain ⟨vs, rfl, hvs, Hv⟩ := swp_words (w := wdL f o) b97 hc2.1 ho Hw ws0 sw
  rw [← hgd] at Hv
  simp [q_law_0]
  have b122g : ∀ x ∈ g.lets, 97 ≤ x ∧ x ≤ 122 := fun x hx => gg.mem hx
  have b97g : ∀ x ∈ g.lets, 97 ≤ x := fun x hx => (b122g x hx).1
  have ndg : g.lets.Nodup := gg.nd
  have sm := sw.map
  have hv : ∀ x ∈ jn vs, g.has x := jn_has Hv.mem
  have hw : ∀ x ∈ jn ws, f.has x := jn_has Hw.mem
  have lv : (jn vs).length ≤ 1000 := by
    have := congrArg List.length sm
    simp at this
    omega
  have shT : ∀ l : List Nat, l.length ≤ 1000 → Short 10000 (tx l) := fun l h x e => by
    cases e
    simp [Str.length]
    omega
  have bf := fun T => (begins_any (P := P) nd b97 (shT _ l7) T).2 _ rfl hw
  have bgn := fun T => (begins_any (P := Q) ndg b97g (shT _ lv) T).2 _ rfl hv
  rw [H.begs hv, sm] at bgn
  have nB : ∀ T, neD (.py (tupI (begs f P (jn ws)))) (.py (tupI (begs f P (jn ws)))) T = .ok (.py (.bool false)) T := ints_neT _
  have wf := fun T => (wide_any (P := P) nd b97 (shT _ l7) T).2 _ rfl hw
  have wgn := fun T => (wide_any (P := Q) ndg b97g (shT _ lv) T).2 _ rfl hv
  rw [H.wd hv, sm] at wgn
  simp [bgn, bf, nB, q_law_1, wgn, wf]
  refine (tk 400 c28 (by decide) (by decide)).to ?_
  rintro _ S9 ⟨r9, rfl, hr9, c9⟩
  have c29 := c28.trans c9
  have sf := fun T => sign_at_eq (P := P) (n := r9) nd b97 hw (by omega) T
  have sg := fun T => sign_at_eq (P := Q) (n := r9) ndg b97g hv (by omega) T
  rw [H.span hv, sm] at sg
  have nI : ∀ (p : Nat → Bool) (k : Nat) T, neD (.py (idx p k)) (.py (idx p k)) T = .ok (.py (.bool false)) T := fun p k T => by
    unfold idx
    split <;> simp [neD, eqB, flatD]
  simp [q_law_2, sg, sf, nI]
  refine wp_pureM (fun w : List Nat => D.py (.str (st w))) (fun _ => true) (fun w => D.py (.int (wd f P w))) (fun w hw => ?_) ?_
  · have lw := fun T => (wide_any (P := P) nd b97 (shT w (by have := (hws w hw).2.2; omega)) T).2 _ rfl (fun x hx => .inr (Hw.mem w hw x hx))
    simp [lw]
  rw [List.filter_eq_self.mpr fun _ _ => rfl]
  have e3 : (ws.map fun w => D.py (.int (wd f P w))) = ((ws.map (wd f P)).map PyData.int).map D.py := by simp
  rw [e3, pysOf_map]
  have mx : ∀ T, maxD [.py (.list ((ws.map (wd f P)).map PyData.int))] T = .ok (.py (.int (maxI (ws.map (wd f P))))) T := fun T => by
    simp only [maxD, intsOf_map]
    rw [if_pos (by simpa [List.length_pos_iff] using ws0)]
  simp only [mx, wp_ok]
  refine (tk 200 c29 (by decide) (by decide)).to ?_
  rintro _ S10 ⟨r10, rfl, hr10, c10⟩
  have c210 := c29.trans c10
  obtain ⟨M, hM⟩ : ∃ M, M = maxI (ws.map (wd f P)) + r10 := ⟨_, rfl⟩
  have hMb : (1 ≤ M ∧ M ≤ 999) ∧ ∀ w ∈ ws, wd f P w ≤ M := by
    obtain ⟨w0, wr, rfl⟩ : ∃ w0 wr, ws = w0 :: wr := by
      cases ws with
      | nil => exact absurd rfl ws0
      | cons a r => exact ⟨a, r, rfl⟩
    have fm := fold_max (wr.map (wd f P)) (wd f P w0)
    have em : maxI ((w0 :: wr).map (wd f P)) = (wr.map (wd f P)).foldl max (wd f P w0) := rfl
    rw [em] at hM
    generalize (wr.map (wd f P)).foldl max (wd f P w0) = Z at *
    have bd : ∀ w ∈ w0 :: wr, 10 ≤ wd f P w ∧ wd f P w ≤ 324 := fun w hw => by
      have := wd_bnd hW (hws w hw).1 (hws w hw).2.1
      have := (hws w hw).2.2
      omega
    have hZ : 10 ≤ Z ∧ Z ≤ 324 := by
      rcases fm.1 with e | e
      · rw [e]; exact bd w0 (by simp)
      · obtain ⟨w, hw, e⟩ := List.mem_map.mp e
        rw [← e]
        exact bd w (List.mem_cons_of_mem _ hw)
    refine ⟨by omega, fun w hw => ?_⟩
    have : wd f P w ≤ Z := by
      rcases List.mem_cons.mp hw with rfl | hw
      · exact fm.2.1
      · exact fm.2.2 _ (List.mem_map.mpr ⟨w, hw, rfl⟩)
    omega
  have hWg : Wid g Q := by
    refine ⟨⟨gg.w0, gg.w1⟩, fun x hx => ?_, fun a b => ?_⟩
    · rw [H.sw x (.inr hx)]
      exact hW.s _ (H.lets x hx)
    · unfold bt
      split
      · omega
      · refine gapIn_all (Q := fun y => -9 ≤ y ∧ y ≤ 9) (by omega) (fun p hp => ?_) a b
        rw [hQ, like_lst hc] at hp
        unfold lstG2 at hp
        obtain ⟨l, _, hp⟩ := List.mem_flatMap.mp hp
        obtain ⟨r, _, rfl⟩ := List.mem_map.mp hp
        exact h9 _ _
  have lr := lines_right_eq H Hw Hv hvs ws0 nd b122 ndg b122g hMb.1 hW hWg hMb.2
  have pQ : PG Q := by
    rw [hQ]
    refine PG.mlist (fun x hx => ?_) (fun r hr x hx => ?_) (by simp; omega)
    · rw [← gl] at hx
      exact (b122g x hx).2
    · unfold likeR at hr
      obtain ⟨l, _, rfl⟩ := List.mem_map.mp hr
      obtain ⟨y, _, rfl⟩ := List.mem_map.mp hx
      have := h9 l y
      omega
  obtain ⟨r, pe1, pe2, prl⟩ := prt_like (P := P) (w := wdL f o) nd hc ho
  have pe2 : prtS g Q = some r := by rw [hgd, hQ]; exact pe2
  have ptf := fun T => parters_eq (f := f) pR (by omega) (by omega) T
  have ptg := fun T => parters_eq (f := g) pQ (by omega) (by omega) T
  rw [pe1] at ptf
  rw [pe2] at ptg
  have ptl : ptL g.lets r = ptL f.lets r := by rw [hgd]; exact ptL_like prl
  simp only [ptl] at ptg ptf
  have fp : Fit (.tuple ((ptL f.lets r).map lt)) 1 400 := fit_lts (fun x hx => by
    unfold ptL at hx
    obtain ⟨i, hi', rfl⟩ := List.mem_map.mp hx
    exact b2 _ (mem_getD (prl i hi'))) (by
      have := rise_len (n := f.lets.length) (q := r) (prt_rise pe1) prl
      simp [ptL]
      simp at this
      omega)
  have nP := ne_self (d := .tuple ((ptL f.lets r).map lt)) rfl (fp.shaped (by decide)) fp.ly
  have gmem := groups_mem (f := f) (P := P)
  have llen : f.lets.length = f.ls.length := by simp
  have glen := groups_len (f := f) (P := P)
  have slf := fun T => shows_lefts_eq (f := f) (P := P) (pR.left h200) (by omega) (fun g hg => (gmem g hg).1) T
  have eG : groups g.lets (leftM g Q) = (groups f.lets (leftM f P)).map fun q => q ++ if o ∈ q then [c] else [] := by rw [hgd, hQ]; exact groups_likeL nd hc ho
  have slg := fun T => shows_lefts_eq (f := g) (P := Q) (pQ.left (by omega)) (by rw [eG, List.length_map]; omega) (fun q hq => by
    rw [eG] at hq
    obtain ⟨z, hz, rfl⟩ := List.mem_map.mp hq
    intro e
    exact (gmem z hz).1 (List.append_eq_nil_iff.mp e).1) T
  rw [eG, heads_like fun q hq => (gmem q hq).1] at slg
  have hh : ∀ x ∈ heads (groups f.lets (leftM f P)), x ∈ f.lets := fun x hx => by
    unfold heads at hx
    obtain ⟨q, hq, rfl⟩ := List.mem_map.mp hx
    obtain ⟨q1, q2⟩ := gmem q hq
    cases q with
    | nil => exact absurd rfl q1
    | cons a t => exact q2 a (by simp)
  have epr : prts g Q (heads (groups f.lets (leftM f P))) = prts f P (heads (groups f.lets (leftM f P))) := by rw [hgd, hQ]; exact prts_like nd hc ho hh
  rw [epr] at slg
  obtain ⟨pap, hpap⟩ : ∃ pap, pap = PyData.tuple [.tuple ((heads (groups f.lets (leftM f P))).map lt), .tuple (prts f P (heads (groups f.lets (leftM f P))))] := ⟨_, rfl⟩
  have nQ : ∀ T, neD (.py pap) (.py pap) T = .ok (.py (.bool false)) T := by
    have hlen : (heads (groups f.lets (leftM f P))).length ≤ 200 := by simp [heads]; omega
    have F1 := fit_lts (g := heads (groups f.lets (leftM f P))) (fun x hx => b2 x (hh x hx)) hlen
    have F2 : Fit (.tuple (prts f P (heads (groups f.lets (leftM f P))))) 1 ((prts f P (heads (groups f.lets (leftM f P)))).length * 2) := Fit.tupleN (k := 0) (w := 1) (fun d hd => by
      unfold prts at hd
      obtain ⟨q, _, rfl⟩ := List.mem_map.mp hd
      exact prt_fit b2 _ _) (Nat.le_refl _)
    have F3 := Fit.tuple (.cons F1 (.cons F2 (FitL.nil (k := 1) (w := 0))))
    rw [hpap]
    exact ne_self rfl (F3.shaped (by decide)) F3.ly
  rw [← hpap] at slf slg
  simp [← hM, q_law_3, lr, q_law_4, ptf, ptg, nP, slf, slg, nQ]
  have hl0 : 0 < f.ls.length := by omega
  refine (tk f.ls.length c210 (by omega) (by omega)).to ?_
  rintro _ S11 ⟨r11, rfl, hr11, c11⟩
  have c211 := c210.trans c11
  have hl11 : r11.toNat < f.lets.length := by simp; omega
  obtain ⟨z, hz, iz⟩ : ∃ z, z ∈ f.lets ∧ ∀ T, itemD (.py (.list (f.lets.map lt))) (.py (.int r11)) T = .ok (.py (lt z)) T := ⟨f.lets[r11.toNat], List.getElem_mem hl11, fun T => itemD_listI hr11.1 (by simp [hl11])⟩
  simp [iz]
  refine (tk 19 c211 (by decide) (by decide)).to ?_
  rintro _ S12 ⟨r12, rfl, hr12, c12⟩
  have c212 := c211.trans c12
  obtain ⟨x, hx⟩ : ∃ x, x = r12 - 9 := ⟨_, rfl⟩
  have hx9 : -9 ≤ x ∧ x ≤ 9 := by omega
  obtain ⟨tw, htw⟩ : ∃ tw : Str, tw = st [c, z] := ⟨_, rfl⟩
  have ad : ∀ T, addD (.py (lt c)) (.py (lt z)) T = .ok (.py (.str tw)) T := fun T => by
    rw [htw]
    exact add_st (a := [c]) (b := [z]) (by simp) T
  have it := fun T => in_two c z (jn vs) T
  rw [← htw] at it
  have gof := fun T => gap_of_eq ho hz P T
  have hcg : c ∈ g.lets := by rw [gl]; simp
  have hzg : z ∈ g.lets := by rw [gl]; exact List.mem_append_left _ hz
  obtain ⟨ic, hic⟩ := List.mem_iff_getElem?.mp hcg
  obtain ⟨iz', hiz⟩ := List.mem_iff_getElem?.mp hzg
  have wg := fun T => with_gap_eq (P := Q) (x := x) ndg (by omega) hic hiz hx9 T
  rw [with_gap_lst ndg hic hiz] at wg
  obtain ⟨Q2, hQ2⟩ : ∃ Q2, Q2 = lstG2 g.lets fun l r => if l = c ∧ r = z then x else gapIn Q l r := ⟨_, rfl⟩
  rw [← hQ2] at wg
  have gcz : gapIn Q c z = gapIn P o z := by
    have := like_gap (P := P) (o := o) nd hc (show c ∈ f.lets ++ [c] by simp) (List.mem_append_left [c] hz)
    rw [stnd_c, stnd_id hc hz] at this
    rw [hQ]
    exact this
  have sub : ∀ {y}, f.has y → g.has y := fun {y} h => by
    rcases h with h | h
    · exact .inl h
    · exact .inr (by rw [gl]; exact List.mem_append_left _ h)
  have mv := fun (l : List Nat) (hl : ∀ y ∈ l, g.has y) => mvd_turned (Q := Q) ndg b97g hcg hzg x hl
  have mv1 := mv (jn ws) fun y hy => sub (hw y hy)
  have mv2 := mv (jn vs) hv
  have mv3 := mv [] (fun y hy => nomatch hy)
  rw [← hQ2] at mv1 mv2 mv3
  have n1 : (c, z) ∉ (jn ws).zip ((jn ws).drop 1) := fun h => cj (List.of_mem_zip h).1
  have mv1' : mvd Q Q2 (jn ws) = false := by rw [mv1, decide_eq_false n1, Bool.false_and]
  have mv3' : mvd Q Q2 [] = false := rfl
  obtain ⟨bb, hbb⟩ : ∃ bb, bb = (decide ((c, z) ∈ (jn vs).zip ((jn vs).drop 1)) && decide (x ≠ gapIn P o z)) := ⟨_, rfl⟩
  rw [gcz, ← hbb] at mv2
  have mvE : mvs Q Q2 [tx (jn ws), tx (jn vs), tx []] = if bb = true then [1] else [] := by
    have t1 : ∀ l, txOf (tx l) = l := fun l => by simp [txOf]
    simp [mvs, List.zipIdx_cons, List.filter_cons, t1, mv1', mv2, mv3']
    cases bb <;> simp
  have emp : Str.ofString "" = st [] := by decide +kernel
  have ml := fun T => (moved_lines_any (f := g) (P := Q) (Q := Q2) (p := .tuple [tx (jn ws), tx (jn vs), tx []]) (fun ds e d hd => by
    cases e
    simp only [List.mem_cons, List.not_mem_nil, or_false] at hd
    rcases hd with rfl | rfl | rfl
    · exact shT _ l7
    · exact shT _ lv
    · exact shT _ (by simp)) T).2 _ rfl (by
      simp [areTx, isTx]
      exact ⟨fun y hy => sub (hw y hy), hv⟩)
  rw [mvE, show tx [] = PyData.str (Str.ofString "") from by rw [emp]] at ml
  have nn1 := fun T => ints_neT [1] T
  have nn0 := fun T => ints_neT [] T
  simp only [List.map_cons, List.map_nil] at nn1 nn0
  simp [← hx, q_law_5, ad, it, gof]
  have ebb : bb = (decide ((c, z) ∈ (jn vs).zip (jn vs).tail) && decide (x ≠ gapIn P o z)) := by rw [hbb, List.drop_one]
  by_cases h1 : (c, z) ∈ (jn vs).zip (jn vs).tail
  · refine .inr ⟨h1, ?_⟩
    by_cases h2 : x = gapIn P o z
    · have b0 : bb = false := by rw [ebb]; simp [h2]
      rw [b0] at ml
      refine .inl ⟨h2, ?_⟩
      simp [wg, q_law_6, ml, nn0]
      first | done | exact Keep0.mk rfl
    · have b0 : bb = true := by rw [ebb]; simp [h1, h2]
      rw [b0] at ml
      refine .inr ⟨h2, ?_⟩
      simp [wg, q_law_6, ml, nn1]
      first | done | exact Keep0.mk rfl
  · have b0 : bb = false := by rw [ebb]; simp [h1]
    rw [b0] at ml
    refine .inl ⟨h1, ?_⟩
    simp [wg, q_law_6, ml, nn0]
    first | done | exact Keep0.mk rfl
end DV.k69

open PySem PySem.W PyProof.Rows
set_option maxHeartbeats 0 in
theorem PySem.Challenge.cw_stampgaps_k69_whole_likes_in_lines_holds : PySem.Challenge.rw_stampgaps_k69_whole_likes_in_lines.Holds := by
  w_on; o_law; k_head; (case hw => w_witness2)
  k_fill
  refine DV.walk_ofD (l := PySem.Challenge.rw_stampgaps_k69_whole_likes_in_lines) (n := 63) (k := 10) (x := "_law_script") (F := DV.k69.F_law) rfl (by decide) rfl ⟨rfl, by decide, by decide⟩ (fun w h Y => PySem.W.kIn_of Y) ?F DV.k69.true_law
  case F =>
    intro w mg fa h KX G hmg
    refine' DV.k69.all_mk KX G hmg ?a0 ?l0 ?c0 ?k0 ?a1 ?l1 ?c1 ?k1 ?a2 ?l2 ?c2 ?k2 ?a3 ?l3 ?c3 ?k3 ?a4 ?l4 ?c4 ?k4 ?a5 ?l5 ?c5 ?k5 ?a6 ?l6 ?c6 ?k6 ?a7 ?l7 ?c7 ?k7 ?a8 ?l8 ?c8 ?k8 ?a9 ?l9 ?c9 ?k9 ?a10 ?l10 ?c10 ?k10 ?a11 ?l11 ?c11 ?k11 ?a12 ?l12 ?c12 ?k12 ?a13 ?l13 ?c13 ?k13 ?a14 ?l14 ?c14 ?k14 ?a15 ?l15 ?c15 ?k15 ?a16 ?l16 ?c16 ?k16 ?a17 ?l17 ?c17 ?k17 ?a18 ?l18 ?c18 ?k18 ?a19 ?l19 ?c19 ?k19 ?a20 ?l20 ?c20 ?k20 ?a21 ?l21 ?c21 ?k21 ?a22 ?l22 ?c22 ?k22 ?a23 ?l23 ?c23 ?k23 ?a24 ?l24 ?c24 ?k24 ?a25 ?l25 ?c25 ?k25 ?a26 ?l26 ?c26 ?k26 ?a27 ?l27 ?c27 ?k27 ?a28 ?l28 ?c28 ?k28 ?a29 ?l29 ?c29 ?k29 ?a30 ?l30 ?c30 ?k30 ?a31 ?l31 ?c31 ?k31 ?a32 ?l32 ?c32 ?k32 ?a33 ?l33 ?c33 ?k33 ?a34 ?l34 ?c34 ?k34 ?a35 ?l35 ?c35 ?k35 ?a36 ?l36 ?c36 ?k36 ?a37 ?l37 ?c37 ?k37 ?a38 ?l38 ?c38 ?k38 ?a39 ?l39 ?c39 ?k39 ?a40 ?l40 ?c40 ?k40 ?a41 ?l41 ?c41 ?k41 ?a42 ?l42 ?c42 ?k42 ?a43 ?l43 ?c43 ?k43 ?a44 ?l44 ?c44 ?k44 ?a45 ?l45 ?c45 ?k45 ?a46 ?l46 ?c46 ?k46 ?a47 ?l47 ?c47 ?k47 ?a48 ?l48 ?c48 ?k48 ?a49 ?l49 ?c49 ?k49 ?a50 ?l50 ?c50 ?k50 ?a51 ?l51 ?c51 ?k51 ?a52 ?l52 ?c52 ?k52 ?a53 ?l53 ?c53 ?k53 ?a54 ?l54 ?c54 ?k54 ?a55 ?l55 ?c55 ?k55 ?a56 ?l56 ?c56 ?k56 ?a57 ?l57 ?c57 ?k57 ?xa_NoLetter ?h1_NoLetter ?q1_NoLetter ?q2_NoLetter ?q3_NoLetter ?q4_NoLetter ?h2_NoLetter ?q5_NoLetter ?n1_NoLetter ?h3_NoLetter ?q6_NoLetter ?h4_NoLetter ?q7_NoLetter ?n2_NoLetter ?xk_NoLetter ?xb_NoLetter ?xt_NoLetter ?xa_NoLine ?h1_NoLine ?q1_NoLine ?q2_NoLine ?q3_NoLine ?q4_NoLine ?h2_NoLine ?q5_NoLine ?n1_NoLine ?h3_NoLine ?q6_NoLine ?h4_NoLine ?q7_NoLine ?n2_NoLine ?xk_NoLine ?xb_NoLine ?xt_NoLine ?xa_NoNumber ?h1_NoNumber ?q1_NoNumber ?q2_NoNumber ?q3_NoNumber ?q4_NoNumber ?h2_NoNumber ?q5_NoNumber ?n1_NoNumber ?h3_NoNumber ?q6_NoNumber ?h4_NoNumber ?q7_NoNumber ?n2_NoNumber ?xk_NoNumber ?xb_NoNumber ?xt_NoNumber ?xa_TooMany ?h1_TooMany ?q1_TooMany ?q2_TooMany ?q3_TooMany ?q4_TooMany ?h2_TooMany ?q5_TooMany ?n1_TooMany ?h3_TooMany ?q6_TooMany ?h4_TooMany ?q7_TooMany ?n2_TooMany ?xk_TooMany ?xb_TooMany ?xt_TooMany ?xa_NoGap ?h1_NoGap ?q1_NoGap ?q2_NoGap ?q3_NoGap ?q4_NoGap ?h2_NoGap ?q5_NoGap ?n1_NoGap ?h3_NoGap ?q6_NoGap ?h4_NoGap ?q7_NoGap ?n2_NoGap ?xk_NoGap ?xb_NoGap ?xt_NoGap ?xa_TooWide ?h1_TooWide ?q1_TooWide ?q2_TooWide ?q3_TooWide ?q4_TooWide ?h2_TooWide ?q5_TooWide ?n1_TooWide ?h3_TooWide ?q6_TooWide ?h4_TooWide ?q7_TooWide ?n2_TooWide ?xk_TooWide ?xb_TooWide ?xt_TooWide ?zc_LETTERS ?zc_FAR ?zc_MOST_LETTERS ?zc_MOST_WIDE ?z_isinstance ?z_int ?z_bool ?z_str ?z_len ?z_tuple ?z_enumerate ?z_zip ?z_all ?z_any ?z_range ?z_reversed ?z_divmod ?z_set ?z_abs ?z_list ?z_min ?z_max
    (case a0 => k_is); (case l0 => k_is); (case c0 => k_is); (case k0 => k_is); (case a1 => k_is); (case l1 => k_is); (case c1 => k_is); (case k1 => k_is); (case a2 => k_is); (case l2 => k_is); (case c2 => k_is); (case k2 => k_is); (case a3 => k_is); (case l3 => k_is); (case c3 => k_is); (case k3 => k_is); (case a4 => k_is); (case l4 => k_is); (case c4 => k_is); (case k4 => k_is); (case a5 => k_is); (case l5 => k_is); (case c5 => k_is); (case k5 => k_is); (case a6 => k_is); (case l6 => k_is); (case c6 => k_is); (case k6 => k_is); (case a7 => k_is); (case l7 => k_is); (case c7 => k_is); (case k7 => k_is); (case a8 => k_is); (case l8 => k_is); (case c8 => k_is); (case k8 => k_is); (case a9 => k_is); (case l9 => k_is); (case c9 => k_is); (case k9 => k_is); (case a10 => k_is); (case l10 => k_is); (case c10 => k_is); (case k10 => k_is); (case a11 => k_is); (case l11 => k_is); (case c11 => k_is); (case k11 => k_is); (case a12 => k_is); (case l12 => k_is); (case c12 => k_is); (case k12 => k_is); (case a13 => k_is); (case l13 => k_is); (case c13 => k_is); (case k13 => k_is); (case a14 => k_is); (case l14 => k_is); (case c14 => k_is); (case k14 => k_is); (case a15 => k_is); (case l15 => k_is); (case c15 => k_is); (case k15 => k_is); (case a16 => k_is); (case l16 => k_is); (case c16 => k_is); (case k16 => k_is); (case a17 => k_is); (case l17 => k_is); (case c17 => k_is); (case k17 => k_is); (case a18 => k_is); (case l18 => k_is); (case c18 => k_is); (case k18 => k_is); (case a19 => k_is); (case l19 => k_is); (case c19 => k_is); (case k19 => k_is); (case a20 => k_is); (case l20 => k_is); (case c20 => k_is); (case k20 => k_is); (case a21 => k_is); (case l21 => k_is); (case c21 => k_is); (case k21 => k_is); (case a22 => k_is); (case l22 => k_is); (case c22 => k_is); (case k22 => k_is); (case a23 => k_is); (case l23 => k_is); (case c23 => k_is); (case k23 => k_is); (case a24 => k_is); (case l24 => k_is); (case c24 => k_is); (case k24 => k_is); (case a25 => k_is); (case l25 => k_is); (case c25 => k_is); (case k25 => k_is); (case a26 => k_is); (case l26 => k_is); (case c26 => k_is); (case k26 => k_is); (case a27 => k_is); (case l27 => k_is); (case c27 => k_is); (case k27 => k_is); (case a28 => k_is); (case l28 => k_is); (case c28 => k_is); (case k28 => k_is); (case a29 => k_is); (case l29 => k_is); (case c29 => k_is); (case k29 => k_is); (case a30 => k_is); (case l30 => k_is); (case c30 => k_is); (case k30 => k_is); (case a31 => k_is); (case l31 => k_is); (case c31 => k_is); (case k31 => k_is); (case a32 => k_is); (case l32 => k_is); (case c32 => k_is); (case k32 => k_is); (case a33 => k_is); (case l33 => k_is); (case c33 => k_is); (case k33 => k_is); (case a34 => k_is); (case l34 => k_is); (case c34 => k_is); (case k34 => k_is); (case a35 => k_is); (case l35 => k_is); (case c35 => k_is); (case k35 => k_is); (case a36 => k_is); (case l36 => k_is); (case c36 => k_is); (case k36 => k_is); (case a37 => k_is); (case l37 => k_is); (case c37 => k_is); (case k37 => k_is); (case a38 => k_is); (case l38 => k_is); (case c38 => k_is); (case k38 => k_is); (case a39 => k_is); (case l39 => k_is); (case c39 => k_is); (case k39 => k_is); (case a40 => k_is); (case l40 => k_is); (case c40 => k_is); (case k40 => k_is); (case a41 => k_is); (case l41 => k_is); (case c41 => k_is); (case k41 => k_is); (case a42 => k_is); (case l42 => k_is); (case c42 => k_is); (case k42 => k_is); (case a43 => k_is); (case l43 => k_is); (case c43 => k_is); (case k43 => k_is); (case a44 => k_is); (case l44 => k_is); (case c44 => k_is); (case k44 => k_is); (case a45 => k_is); (case l45 => k_is); (case c45 => k_is); (case k45 => k_is); (case a46 => k_is); (case l46 => k_is); (case c46 => k_is); (case k46 => k_is); (case a47 => k_is); (case l47 => k_is); (case c47 => k_is); (case k47 => k_is); (case a48 => k_is); (case l48 => k_is); (case c48 => k_is); (case k48 => k_is); (case a49 => k_is); (case l49 => k_is); (case c49 => k_is); (case k49 => k_is); (case a50 => k_is); (case l50 => k_is); (case c50 => k_is); (case k50 => k_is); (case a51 => k_is); (case l51 => k_is); (case c51 => k_is); (case k51 => k_is); (case a52 => k_is); (case l52 => k_is); (case c52 => k_is); (case k52 => k_is); (case a53 => k_is); (case l53 => k_is); (case c53 => k_is); (case k53 => k_is); (case a54 => k_is); (case l54 => k_is); (case c54 => k_is); (case k54 => k_is); (case a55 => k_is); (case l55 => k_is); (case c55 => k_is); (case k55 => k_is); (case a56 => k_is); (case l56 => k_is); (case c56 => k_is); (case k56 => k_is); (case a57 => k_is); (case l57 => k_is); (case c57 => k_is); (case k57 => k_is); (case xa_NoLetter => k_is); (case h1_NoLetter => k_is); (case q1_NoLetter => exact rfl); (case q2_NoLetter => exact rfl); (case q3_NoLetter => exact rfl); (case q4_NoLetter => exact rfl); (case h2_NoLetter => k_is); (case q5_NoLetter => exact rfl); (case n1_NoLetter => k_is); (case h3_NoLetter => k_is); (case q6_NoLetter => exact rfl); (case h4_NoLetter => k_is); (case q7_NoLetter => exact rfl); (case n2_NoLetter => k_is); (case xk_NoLetter => k_is); (case xb_NoLetter => k_is); (case xt_NoLetter => k_is); (case xa_NoLine => k_is); (case h1_NoLine => k_is); (case q1_NoLine => exact rfl); (case q2_NoLine => exact rfl); (case q3_NoLine => exact rfl); (case q4_NoLine => exact rfl); (case h2_NoLine => k_is); (case q5_NoLine => exact rfl); (case n1_NoLine => k_is); (case h3_NoLine => k_is); (case q6_NoLine => exact rfl); (case h4_NoLine => k_is); (case q7_NoLine => exact rfl); (case n2_NoLine => k_is); (case xk_NoLine => k_is); (case xb_NoLine => k_is); (case xt_NoLine => k_is); (case xa_NoNumber => k_is); (case h1_NoNumber => k_is); (case q1_NoNumber => exact rfl); (case q2_NoNumber => exact rfl); (case q3_NoNumber => exact rfl); (case q4_NoNumber => exact rfl); (case h2_NoNumber => k_is); (case q5_NoNumber => exact rfl); (case n1_NoNumber => k_is); (case h3_NoNumber => k_is); (case q6_NoNumber => exact rfl); (case h4_NoNumber => k_is); (case q7_NoNumber => exact rfl); (case n2_NoNumber => k_is); (case xk_NoNumber => k_is); (case xb_NoNumber => k_is); (case xt_NoNumber => k_is); (case xa_TooMany => k_is); (case h1_TooMany => k_is); (case q1_TooMany => exact rfl); (case q2_TooMany => exact rfl); (case q3_TooMany => exact rfl); (case q4_TooMany => exact rfl); (case h2_TooMany => k_is); (case q5_TooMany => exact rfl); (case n1_TooMany => k_is); (case h3_TooMany => k_is); (case q6_TooMany => exact rfl); (case h4_TooMany => k_is); (case q7_TooMany => exact rfl); (case n2_TooMany => k_is); (case xk_TooMany => k_is); (case xb_TooMany => k_is); (case xt_TooMany => k_is); (case xa_NoGap => k_is); (case h1_NoGap => k_is); (case q1_NoGap => exact rfl); (case q2_NoGap => exact rfl); (case q3_NoGap => exact rfl); (case q4_NoGap => exact rfl); (case h2_NoGap => k_is); (case q5_NoGap => exact rfl); (case n1_NoGap => k_is); (case h3_NoGap => k_is); (case q6_NoGap => exact rfl); (case h4_NoGap => k_is); (case q7_NoGap => exact rfl); (case n2_NoGap => k_is); (case xk_NoGap => k_is); (case xb_NoGap => k_is); (case xt_NoGap => k_is); (case xa_TooWide => k_is); (case h1_TooWide => k_is); (case q1_TooWide => exact rfl); (case q2_TooWide => exact rfl); (case q3_TooWide => exact rfl); (case q4_TooWide => exact rfl); (case h2_TooWide => k_is); (case q5_TooWide => exact rfl); (case n1_TooWide => k_is); (case h3_TooWide => k_is); (case q6_TooWide => exact rfl); (case h4_TooWide => k_is); (case q7_TooWide => exact rfl); (case n2_TooWide => k_is); (case xk_TooWide => k_is); (case xb_TooWide => k_is); (case xt_TooWide => k_is); (case zc_LETTERS => k_is); (case zc_FAR => k_is); (case zc_MOST_LETTERS => k_is); (case zc_MOST_WIDE => k_is); (case z_isinstance => k_is); (case z_int => k_is); (case z_bool => k_is); (case z_str => k_is); (case z_len => k_is); (case z_tuple => k_is); (case z_enumerate => k_is); (case z_zip => k_is); (case z_all => k_is); (case z_any => k_is); (case z_range => k_is); (case z_reversed => k_is); (case z_divmod => k_is); (case z_set => k_is); (case z_abs => k_is); (case z_list => k_is); (case z_min => k_is); (case z_max => k_is)
