import PyProof.Rows.All
import Wide.All
import OpenK.AllK
import Wide.FinOn
import HandS.ForMost
import HandS.ForExc
import HandS.Deep
import HandS.Conv
import HandS.Style
import HandS.Small
import HandS.RaiseMore
import HandS.TupAny
import HandS.Defaults
import HandS.HotCalls
import HandS.ExcIs
import HandS.IsInst
import HandS.Flow
import HandS.SetFor
import HandS.CallSlots
import HandS.Walk
import PyProof.StrBlock2
import KE.SortData
import KE.DataCmp
import KE.DataMinMax
import HandS.Rev
import PyProof.ExcBaseAll.ValueError
import PySem.Challenge.RW_wareloops_k83_whole_ways_to_pile
set_option Elab.async false
set_option linter.all false
set_option maxRecDepth 100000
set_option maxHeartbeats 4000000
/-! VA: data, the environment of slots, the monad, the combinators; the evaluator on the model's own syntax. Plain Lean. -/
namespace VL
open PySem L2

abbrev D := PyData
abbrev SZ : Nat := 16777216
inductive Own where
  | lst (ds : List D)
  | dk (kvs : List (Key × D))
  | dt (kvs : List (List Key × D))
inductive Slot where
  | no
  | va (d : D)
  | ow (o : Own)
  | xc (c : Str)
  | sc (ns : List Int)
abbrev Env := List Slot
inductive R (α : Type) where
  | ok (a : α) (Γ : VL.Env)
  | ex (c : Str) (Γ : VL.Env)
  | bad
abbrev M (α : Type) := VL.Env → R α
/-- an operand: a datum; what slot i owns; a list that nobody holds yet -/
inductive Od where
  | d (d : D)
  | rf (i : Nat)
  | fl (ds : List D)
/-- what a def hands back -/
inductive Rs where
  | d (d : D)
  | fl (ds : List D)
inductive Fl where
  | nx
  | rt (r : Rs)
  | bk
  | ct
inductive R1 where
  | ok (r : Rs) (out : List Slot)
  | ex (c : Str) (out : List Slot)
  | bad

def gt : VL.Env → Nat → Slot
  | [], _ => .no
  | s :: _, 0 => s
  | _ :: r, n + 1 => gt r n
def st : VL.Env → Nat → Slot → VL.Env
  | [], _, _ => []
  | _ :: r, 0, x => x :: r
  | s :: r, n + 1, x => s :: st r n x

def bnd {α β : Type} (m : M α) (f : α → M β) : M β := fun Γ => match m Γ with
  | .ok a Γ' => f a Γ'
  | .ex c Γ' => .ex c Γ'
  | .bad => .bad
def ret {α : Type} (a : α) : M α := fun Γ => .ok a Γ
def bad {α : Type} : M α := fun _ => .bad
def ofO {α : Type} (o : Option α) : M α := fun Γ => match o with
  | some a => .ok a Γ
  | none => .bad

/-! ### operands -/
def soft (o : Od) : M D := fun Γ => match o with
  | .d d => .ok d Γ
  | .fl ds => .ok (.list ds) Γ
  | .rf i => match gt Γ i with
    | .ow (.lst ds) => .ok (.list ds) Γ
    | .va d => .ok d Γ
    | _ => .bad
def hard (o : Od) : M D := fun Γ => match o with
  | .d d => .ok d Γ
  | .fl ds => .ok (.list ds) Γ
  | .rf i => match gt Γ i with
    | .ow (.lst ds) => .ok (.list ds) (st Γ i (.va (.list ds)))
    | .va d => .ok d Γ
    | _ => .bad
def vr (i : Nat) : M Od := fun Γ => match gt Γ i with
  | .va d => .ok (.d d) Γ
  | .no => .bad
  | _ => .ok (.rf i) Γ
def kd (d : D) : M Od := fun Γ => .ok (.d d) Γ

/-! ### operations on data -/
def truthD : D → Option Bool
  | .none => some false
  | .bool b => some b
  | .int i => some (i != 0)
  | .str s => if s.length ≤ SZ then some ((s.length : Int) != 0) else none
  | .list xs => some (!xs.isEmpty)
  | .tuple xs => some (!xs.isEmpty)
  | .dict _ => none
def addD : D → D → Option D
  | .int a, .int b => some (.int (a + b))
  | .str a, .str b => if a.length + b.length ≤ SZ then some (.str (a ++ b)) else none
  | .list a, .list b => if a.length + b.length ≤ SZ then some (.list (a ++ b)) else none
  | .tuple a, .tuple b => if a.length + b.length ≤ SZ then some (.tuple (a ++ b)) else none
  | _, _ => none
def subD : D → D → Option D
  | .int a, .int b => some (.int (a - b))
  | _, _ => none
def small64 (a : Int) : Bool := decide (-18446744073709551616 < a) && decide (a < 18446744073709551616)
def mulD : D → D → Option D
  | .int a, .int b => if small64 a || small64 b then some (.int (a * b)) else none
  | .list a, .int k => if decide (-9223372036854775808 ≤ k) && decide (k < 9223372036854775808) && decide (a.length * k.toNat ≤ SZ) then some (.list (List.replicate k.toNat a).flatten) else none
  | .str a, .int k => if decide (-1000000 ≤ k) && decide (k < 1000000) && decide (a.length * k.toNat ≤ SZ) then some (.str (Txt.mul a k)) else none
  | _, _ => none
def fdivD : D → D → Option D
  | .int a, .int b => if b != 0 && decide (b.natAbs < 1073741824) then some (.int (a.fdiv b)) else none
  | _, _ => none
def modD : D → D → Option D
  | .int a, .int b => if b != 0 then some (.int (a.fmod b)) else none
  | _, _ => none
def powD : D → D → Option D
  | .int a, .int b => if decide (0 ≤ b) && decide (b ≤ 1000000) && decide (a.natAbs < 18446744073709551616) then some (.int (a ^ b.toNat)) else none
  | _, _ => none
def binD : Operator → D → D → Option D
  | .Add => addD
  | .Sub => subD
  | .Mult => mulD
  | .FloorDiv => fdivD
  | .Mod => modD
  | .Pow => powD
  | _ => fun _ _ => none
def negD : D → Option D
  | .int a => some (.int (-a))
  | _ => none

def eqD (a b : D) : Option Bool := match a, b with
  | .int x, .int y => some (x == y)
  | .str x, .str y => some (decide (x = y))
  | .bool x, .bool y => some (x == y)
  | a, b => if SeqAt.shaped a && SeqAt.shaped b then some (PyData.eqv a b) else none
/-- both data are alike, not None, not deep -/
def cmpOk (a b : D) : Bool := PySem.W.alike a b && (match a with | .none => false | _ => true) && decide (a.depth ≤ 60)
def ltD (a b : D) : Option Bool := match a, b with
  | .int x, .int y => some (decide (x < y))
  | a, b => if cmpOk a b then some (PySem.W.dataLt a b) else none
def leD (a b : D) : Option Bool := match a, b with
  | .int x, .int y => some (decide (x ≤ y))
  | a, b => if cmpOk a b then some (!PySem.W.dataLt b a) else none
def gtD (a b : D) : Option Bool := match a, b with
  | .int x, .int y => some (decide (y < x))
  | a, b => if cmpOk a b then some (PySem.W.dataLt b a) else none
def geD (a b : D) : Option Bool := match a, b with
  | .int x, .int y => some (decide (y ≤ x))
  | a, b => if cmpOk a b then some (!PySem.W.dataLt a b) else none
def isD (a b : D) : Option Bool := match a, b with
  | .none, .none => some true
  | _, .none => some false
  | .bool x, .bool y => some (x == y)
  | _, _ => none
def inD (a b : D) : Option Bool := match b with
  | .list ds => if SeqAt.shaped a && SeqAt.shaped (.list ds) then some (ds.any fun z => PyData.eqv z a) else none
  | .tuple ds => if SeqAt.shaped a && SeqAt.shaped (.tuple ds) then some (ds.any fun z => PyData.eqv z a) else none
  | .str t => match a with
    | .str x => if x.length = 1 then some (x.cps.toList.all fun c => decide (c ∈ t.cps.toList)) else none
    | _ => none
  | _ => none
def notO : Option Bool → Option Bool
  | some b => some (!b)
  | none => none
def cmpD : CmpOp → D → D → Option Bool
  | .Eq => eqD
  | .NotEq => fun a b => notO (eqD a b)
  | .Lt => ltD
  | .LtE => leD
  | .Gt => gtD
  | .GtE => geD
  | .Is => isD
  | .IsNot => fun a b => notO (isD a b)
  | .In => inD
  | .NotIn => fun a b => notO (inD a b)

def idxD : D → D → Option D
  | .list ds, .int i => atI ds i
  | .tuple ds, .int i => atI ds i
  | .str s, .int i => if s.length ≤ SZ then (atI s.cps.toList i).map fun c => .str ⟨#[c]⟩ else none
  | _, _ => none
def cutL {α : Type} (xs : List α) (lo hi : Option Int) : List α := (xs.drop (HT.sIx xs.length 0 lo)).take (HT.sIx xs.length xs.length hi - HT.sIx xs.length 0 lo)
def sliceD (d : D) (lo hi : Option Int) : Option D := match d with
  | .list ds => some (.list (cutL ds lo hi))
  | .str s => if s.length ≤ SZ then some (.str (cutS s lo hi)) else none
  | _ => none

def intsD : List D → Option (List Int)
  | [] => some []
  | .int i :: r => (intsD r).map fun x => i :: x
  | _ :: _ => none
def strsD : List D → Option (List Str)
  | [] => some []
  | .str i :: r => (strsD r).map fun x => i :: x
  | _ :: _ => none

/-- built-in functions -/
inductive Bf where
  | len | abs | int | bool | str | list | tuple | sum | max | min | sorted
def leBy (a b : D) : Bool := !PySem.W.dataLt b a
def insBy (x : D) : List D → List D
  | [] => [x]
  | y :: r => if PySem.W.dataLt y x then y :: insBy x r else x :: y :: r
/-- insertion from the right: stable -/
def sortD : List D → List D
  | [] => []
  | x :: r => insBy x (sortD r)
def maxI : List Int → Option Int
  | [] => none
  | x :: r => some (r.foldl (fun a b => if b > a then b else a) x)
def minI : List Int → Option Int
  | [] => none
  | x :: r => some (r.foldl (fun a b => if b < a then b else a) x)
def sortable (ds : List D) : Bool :=
  (match ds with
    | [] => true
    | x :: _ => (match x with | .none => false | .dict _ => false | .tuple _ => ds.all fun d => (match d with | .tuple (_ :: _) => true | _ => false) | _ => ds.all fun d => (match d with | .none => false | .tuple _ => false | _ => true)) && decide (PyData.depthAll ds ≤ 60)) &&
  ds.all fun a => ds.all fun b => PySem.W.alike a b
def bfD (b : Bf) (as : List D) : Option D := match b, as with
  | .len, [.list xs] => some (.int xs.length)
  | .len, [.tuple xs] => some (.int xs.length)
  | .len, [.str s] => if s.length ≤ SZ then some (.int s.length) else none
  | .abs, [.int i] => some (.int (if i < 0 then -i else i))
  | .int, [.int i] => some (.int i)
  | .int, [.bool b] => some (.int (if b then 1 else 0))
  | .bool, [.int i] => some (.bool (i != 0))
  | .bool, [.bool b] => some (.bool b)
  | .bool, [.list xs] => some (.bool (!xs.isEmpty))
  | .str, [.int i] => if i.natAbs.log2 < 1920 then some (.str (toString i)) else none
  | .str, [.str s] => some (.str s)
  | .list, [.list xs] => some (.list xs)
  | .list, [.tuple xs] => some (.list xs)
  | .tuple, [.list xs] => some (.tuple xs)
  | .tuple, [.tuple xs] => some (.tuple xs)
  | .sum, [.list xs] => (intsD xs).map fun ns => .int ns.sum
  | .max, [.list xs] => ((intsD xs).bind maxI).map .int
  | .max, [.int i, .int j] => some (.int (if j > i then j else i))
  | .min, [.list xs] => match intsD xs with
    | some ns => (minI ns).map .int
    | none => none
  | .min, [.int i, .int j] => some (.int (if j < i then j else i))
  | .sorted, [.list xs] => if xs.length ≤ SZ && sortable xs then some (.list (sortD xs)) else none
  | _, _ => none

/-! ### expressions -/
/-- a new object: a list is nobody's yet -/
def odN : D → Od
  | .list ds => .fl ds
  | d => .d d
def lift1 (f : D → Option D) (a : M Od) : M Od := bnd a fun x => bnd (soft x) fun d => bnd (ofO (f d)) fun r => ret (.d r)
def lift2 (f : D → D → Option D) (a b : M Od) : M Od := bnd a fun x => bnd b fun y => bnd (soft x) fun dx => bnd (soft y) fun dy => bnd (ofO (f dx dy)) fun r => ret (.d r)
def bin2 (f : D → D → Option D) (a b : M Od) : M Od := bnd a fun x => bnd b fun y => bnd (soft x) fun dx => bnd (soft y) fun dy => bnd (ofO (f dx dy)) fun r => ret (odN r)
def bl2 (f : D → D → Option Bool) : D → D → Option D := fun a b => (f a b).map PyData.bool
/-- a op b op' c -/
def chainE (f g : D → D → Option Bool) (a b c : M Od) : M Od := bnd a fun x => bnd b fun y => bnd (soft x) fun dx => bnd (soft y) fun dy => bnd (ofO (f dx dy)) fun k =>
  if k then bnd c fun z => bnd (soft y) fun dy => bnd (soft z) fun dz => bnd (ofO (g dy dz)) fun r => ret (.d (.bool r)) else ret (.d (.bool false))
def argsE : List (M Od) → M (List Od)
  | [] => ret []
  | a :: r => bnd a fun x => bnd (argsE r) fun xs => ret (x :: xs)
def hards : List Od → M (List D)
  | [] => ret []
  | a :: r => bnd (hard a) fun x => bnd (hards r) fun xs => ret (x :: xs)
def softs : List Od → M (List D)
  | [] => ret []
  | a :: r => bnd (soft a) fun x => bnd (softs r) fun xs => ret (x :: xs)
def listE (as : List (M Od)) : M Od := bnd (argsE as) fun xs => bnd (hards xs) fun ds => if ds.length ≤ SZ then ret (.fl ds) else bad
def tupE (as : List (M Od)) : M Od := bnd (argsE as) fun xs => bnd (hards xs) fun ds => if ds.length ≤ SZ then ret (.d (.tuple ds)) else bad
def bfE (b : Bf) (as : List (M Od)) : M Od := bnd (argsE as) fun xs => bnd (softs xs) fun ds => bnd (ofO (bfD b ds)) fun r => ret (odN r)
/-- list(script) -/
def listScr (i : Nat) : M Od := fun Γ => match gt Γ i with
  | .sc ns => .ok (.fl (ns.map .int)) Γ
  | _ => .bad
def truE (a : M Od) : M Bool := bnd a fun x => bnd (soft x) fun d => ofO (truthD d)
def andT (a b : M Bool) : M Bool := bnd a fun x => if x then b else ret false
def orT (a b : M Bool) : M Bool := bnd a fun x => if x then ret true else b
def notT (a : M Bool) : M Bool := bnd a fun x => ret (!x)
def ifT {α : Type} (c : M Bool) (a b : M α) : M α := bnd c fun x => if x then a else b
def boolOf : D → Option Bool
  | .bool b => some b
  | _ => none
/-- and, or, not as values: all but the last are truth values -/
def andE (a b : M Od) : M Od := bnd a fun x => bnd (soft x) fun d => bnd (ofO (boolOf d)) fun k => if k then b else ret (.d (.bool false))
def orE (a b : M Od) : M Od := bnd a fun x => bnd (soft x) fun d => bnd (ofO (boolOf d)) fun k => if k then ret (.d (.bool true)) else b
def notE (a : M Od) : M Od := bnd a fun x => bnd (soft x) fun d => bnd (ofO (truthD d)) fun k => ret (.d (.bool (!k)))
/-- a comparison's bool, as a test -/
def valT (a : M Od) : M Bool := bnd a fun x => bnd (soft x) fun d => ofO (boolOf d)
def intE (a : M Od) : M Int := bnd a fun x => bnd (soft x) fun d => match d with | .int i => ret i | _ => bad
def partN : M (Option Int) := ret none
def partE (a : M Od) : M (Option Int) := bnd (intE a) fun i => ret (some i)
def sliceE (a : M Od) (lo hi : M (Option Int)) : M Od := bnd a fun x => bnd lo fun l => bnd hi fun h => bnd (soft x) fun d => bnd (ofO (sliceD d l h)) fun r => ret (odN r)

/-! isinstance -/
inductive Ty where
  | bt (n : String)
  | ec (c : Str)
def isBt : D → String → Option Bool
  | .none, n => if n = "int" ∨ n = "bool" ∨ n = "str" ∨ n = "list" ∨ n = "tuple" then some false else none
  | .bool _, n => if n = "int" ∨ n = "bool" then some true else if n = "str" ∨ n = "list" ∨ n = "tuple" then some false else none
  | .int _, n => if n = "int" then some true else if n = "bool" ∨ n = "str" ∨ n = "list" ∨ n = "tuple" then some false else none
  | .str _, n => if n = "str" then some true else if n = "bool" ∨ n = "int" ∨ n = "list" ∨ n = "tuple" then some false else none
  | .list _, n => if n = "list" then some true else if n = "bool" ∨ n = "int" ∨ n = "str" ∨ n = "tuple" then some false else none
  | .tuple _, n => if n = "tuple" then some true else if n = "bool" ∨ n = "int" ∨ n = "list" ∨ n = "str" then some false else none
  | .dict _, _ => none
def isinsE (a : M Od) (n : String) : M Od := lift1 (fun d => (isBt d n).map .bool) a
def isins2E (a : M Od) (n m : String) : M Od := lift1 (fun d => match isBt d n, isBt d m with | some x, some y => some (.bool (x || y)) | _, _ => none) a
/-- isinstance of the exception in slot i; anc: the ancestors of a class by name -/
def isexcE (anc : Str → List Str) (i : Nat) (c : Str) : M Od := fun Γ => match gt Γ i with
  | .xc k => .ok (.d (.bool (decide (c ∈ anc k)))) Γ
  | _ => .bad

/-! calls -/
structure Sig where
  np : Nat
  io : Bool
  dfl : List D
def hardSlot (o : Od) : M Slot := fun Γ => match o with
  | .d d => .ok (.va d) Γ
  | .fl ds => .ok (.va (.list ds)) Γ
  | .rf i => match gt Γ i with
    | .ow (.lst ds) => .ok (.va (.list ds)) (st Γ i (.va (.list ds)))
    | .va d => .ok (.va d) Γ
    | .sc ns => .ok (.sc ns) Γ
    | _ => .bad
def hardSlots : List Od → M (List Slot)
  | [] => ret []
  | a :: r => bnd (hardSlot a) fun x => bnd (hardSlots r) fun xs => ret (x :: xs)
abbrev FT := Str → List Slot → R1
def odR : Rs → Od
  | .d d => .d d
  | .fl ds => .fl ds
def dflS (sg : Sig) (n : Nat) : List Slot := (sg.dfl.drop (sg.dfl.length + n - sg.np)).map .va
def callIo (F : FT) (f : Str) (sg : Sig) (i : Nat) (ys : List Slot) : M Od := fun Γ1 => match gt Γ1 i with
  | .ow o => match F f (.ow o :: (ys ++ dflS sg (ys.length + 1))) with
    | .ok r (o' :: _) => .ok (odR r) (st Γ1 i o')
    | .ex c (o' :: _) => .ex c (st Γ1 i o')
    | _ => .bad
  | _ => .bad
def callPl (F : FT) (f : Str) (sg : Sig) (ys : List Slot) : M Od := fun Γ1 => match F f (ys ++ dflS sg ys.length) with
  | .ok r _ => .ok (odR r) Γ1
  | .ex c _ => .ex c Γ1
  | .bad => .bad
def callE (F : FT) (f : Str) (sg : Sig) (as : List (M Od)) : M Od := bnd (argsE as) fun xs =>
  if sg.io then
    match xs with
    | .rf i :: r => bnd (hardSlots r) (callIo F f sg i)
    | _ => bad
  else bnd (hardSlots xs) (callPl F f sg)

/-! what is walked -/
structure Itm where
  ds : List D
  lock : Option Nat
def seqOf : D → Option (List D)
  | .list ds => some ds
  | .tuple ds => some ds
  | .str s => some (s.cps.toList.map fun c => .str ⟨#[c]⟩)
  | _ => none
def odLock : Od → Option Nat
  | .rf i => some i
  | _ => none
def itE (a : M Od) : M Itm := bnd a fun x => bnd (soft x) fun d => bnd (ofO (seqOf d)) fun ds => ret ⟨ds, odLock x⟩
def rngOk (i : Int) : Bool := decide (-4611686018427387904 ≤ i) && decide (i < 4611686018427387904)
def rngD (lo hi : Int) : List D := (List.range (hi - lo).toNat).map fun k => .int (lo + (k : Nat))
def rg1E (a : M Od) : M Itm := bnd (intE a) fun n => if rngOk n then ret ⟨rngD 0 n, none⟩ else bad
def rg2E (a b : M Od) : M Itm := bnd (intE a) fun l => bnd (intE b) fun h => if rngOk l && rngOk h then ret ⟨rngD l h, none⟩ else bad
/-- range(a, b, -1) -/
def rgDE (a b : M Od) : M Itm := bnd (intE a) fun l => bnd (intE b) fun h => if rngOk l && rngOk h then ret ⟨(List.range (l - h).toNat).map fun k => .int (l - (k : Nat)), none⟩ else bad
def revE (a : M Od) : M Itm := bnd a fun x => bnd (soft x) fun d => match d with
  | .list ds => ret ⟨ds.reverse, odLock x⟩
  | _ => bad
/-- list(range(..)), list(reversed(..)) -/
def listItE (it : M Itm) : M Od := bnd it fun x => if x.ds.length ≤ SZ then ret (.fl x.ds) else bad

/-! comprehensions -/
/-- what a block does not see -/
def noXc : Slot → Slot
  | .xc _ => .no
  | s => s
def bkX : Slot → Slot → Slot
  | .xc c, _ => .xc c
  | _, n => n
def hideS (p : Nat → Bool) : Nat → VL.Env → VL.Env
  | _, [] => []
  | k, s :: r => (if p k then .no else noXc s) :: hideS p (k + 1) r
def backS (p : Nat → Bool) : Nat → VL.Env → VL.Env → VL.Env
  | k, o :: os, n :: ns => (if p k then o else bkX o n) :: backS p (k + 1) os ns
  | _, _, _ => []
def ownP (own : List Nat) : Nat → Bool := fun k => own.contains k
def keepP (own : List Nat) (l : Option Nat) : Nat → Bool := fun k => own.contains k || (match l with | some i => k == i | none => false)
/-- the turns: body gives what the turn adds -/
def compL (i : Nat) (own : List Nat) (body : M (List D)) : List D → M (List D)
  | [] => ret []
  | x :: r => fun Γ => match body (st Γ i (.va x)) with
    | .ok ys Γ1 => match compL i own body r (hideS (ownP own) 0 Γ1) with
      | .ok zs Γ2 => .ok (ys ++ zs) Γ2
      | _ => .bad
    | _ => .bad
def bodyE (cs : M Bool) (elt : M Od) : M (List D) := bnd cs fun k => if k then bnd elt fun y => bnd (hard y) fun d => ret [d] else ret []
def compG (i : Nat) (own : List Nat) (it : M Itm) (body : M (List D)) : M (List D) := bnd it fun x => fun Γ =>
  match compL i own body x.ds (hideS (keepP own x.lock) 0 Γ) with
  | .ok zs Γ2 => .ok zs (backS (keepP own x.lock) 0 Γ Γ2)
  | _ => .bad
def compE (i : Nat) (own : List Nat) (it : M Itm) (cs : M Bool) (elt : M Od) : M Od := bnd (compG i own it (bodyE cs elt)) fun zs => if zs.length ≤ SZ then ret (.fl zs) else bad
/-- two clauses -/
def comp2E (i : Nat) (own : List Nat) (it : M Itm) (cs : M Bool) (j : Nat) (own2 : List Nat) (it2 : M Itm) (cs2 : M Bool) (elt : M Od) : M Od :=
  bnd (compG i own it (bnd cs fun k => if k then compG j own2 it2 (bodyE cs2 elt) else ret [])) fun zs => if zs.length ≤ SZ then ret (.fl zs) else bad

/-! ### statements -/
def seqS (a b : M Fl) : M Fl := bnd a fun f => match f with
  | .nx => b
  | f => ret f
def passS : M Fl := ret .nx
def brkS : M Fl := ret .bk
def cntS : M Fl := ret .ct
def exprS (a : M Od) : M Fl := bnd a fun _ => ret .nx
/-- p: the first slots belong to the caller -/
def retS (p : Nat) (a : M Od) : M Fl := bnd a fun x => fun Γ => match x with
  | .d d => .ok (.rt (.d d)) Γ
  | .fl ds => .ok (.rt (.fl ds)) Γ
  | .rf i => match gt Γ i with
    | .ow (.lst ds) => if p ≤ i then .ok (.rt (.fl ds)) (st Γ i .no) else .bad
    | _ => .bad
def retN : M Fl := ret (.rt (.d .none))
/-- p: the first slots that may not be bound anew -/
def putS (p i : Nat) (s : Slot) : M Unit := fun Γ => if i < p then .bad else .ok () (st Γ i s)
def setS (p i : Nat) (a : M Od) : M Fl := bnd a fun x => bnd (hard x) fun d => bnd (putS p i (.va d)) fun _ => ret .nx
/-- a list that nobody holds becomes the name's own -/
def newS (p i : Nat) (a : M Od) : M Fl := bnd a fun x => match x with
  | .fl ds => bnd (putS p i (.ow (.lst ds))) fun _ => ret .nx
  | .d d => bnd (putS p i (.va d)) fun _ => ret .nx
  | .rf j => if j = i then ret .nx else bad
/-- several names from a tuple or list -/
def unpS (p : Nat) : List Nat → List D → M Unit
  | [], [] => ret ()
  | i :: r, d :: ds => bnd (putS p i (.va d)) fun _ => unpS p r ds
  | _, _ => bad
def parS (p : Nat) (is : List Nat) (a : M Od) : M Fl := bnd a fun x => bnd (hard x) fun d => match d with
  | .tuple ds => bnd (unpS p is ds) fun _ => ret .nx
  | _ => bad
def setL (i : Nat) (k : Int) (d : D) : M Unit := fun Γ => match gt Γ i with
  | .ow (.lst ds) => match ixN ds.length k with
    | some j => .ok () (st Γ i (.ow (.lst (ds.set j d))))
    | none => .bad
  | _ => .bad
/-- x[k] = e -/
def subS (i : Nat) (k e : M Od) : M Fl := bnd e fun x => bnd (hard x) fun d => bnd (intE k) fun j => bnd (setL i j d) fun _ => ret .nx
/-- x[k], y[l] = e, f -/
def sub2S (i : Nat) (k : M Od) (j : Nat) (l : M Od) (e f : M Od) : M Fl := bnd (argsE [e, f]) fun xs => bnd (hards xs) fun ds => match ds with
  | [d, c] => bnd (intE k) fun a => bnd (setL i a d) fun _ => bnd (intE l) fun b => bnd (setL j b c) fun _ => ret .nx
  | _ => bad
inductive Mt where
  | append | extend | insert | pop
/-- a method of an owned list -/
def mtAppend (ds as : List D) : Option (D × List D) := match as with
  | [d] => if ds.length < SZ then some (.none, ds ++ [d]) else none
  | _ => none
def mtExtend (ds as : List D) : Option (D × List D) := match as with
  | [.list es] => if ds.length + es.length ≤ SZ then some (.none, ds ++ es) else none
  | _ => none
def mtInsert (ds as : List D) : Option (D × List D) := match as with
  | [.int k, d] => if ds.length < SZ && decide (0 ≤ k) && decide (k < 9223372036854775808) then some (.none, ds.take k.toNat ++ d :: ds.drop k.toNat) else none
  | _ => none
def mtPop (ds as : List D) : Option (D × List D) := match as with
  | [] => match ds[ds.length - 1]? with
    | some d => some (d, ds.dropLast)
    | none => none
  | _ => none
def mtL : Mt → List D → List D → Option (D × List D)
  | .append => mtAppend
  | .extend => mtExtend
  | .insert => mtInsert
  | .pop => mtPop
def isLst : Slot → Bool
  | .ow (.lst _) => true
  | _ => false
def mtG (i : Nat) (m : Mt) (es : List D) : M Od := fun Γ => match gt Γ i with
  | .ow (.lst ds) => match mtL m ds es with
    | some (d, ds') => .ok (.d d) (st Γ i (.ow (.lst ds')))
    | none => .bad
  | _ => .bad
def mtE (i : Nat) (m : Mt) (as : List (M Od)) : M Od := fun Γ => if isLst (gt Γ i) = true then bnd (argsE as) (fun xs => bnd (hards xs) (mtG i m)) Γ else .bad
/-- methods that change nothing -/
inductive Mv where
  | count | index | join
def findI (d : D) : List D → Nat → Option Nat
  | [], _ => none
  | x :: r, n => if PyData.eqv x d then some n else findI d r (n + 1)
def countD : D → D → Option D
  | .list ds, .int k => (intsD ds).map fun ns => .int (ns.count k)
  | _, _ => none
def indexD : D → D → Option D
  | .list ds, d => if SeqAt.shaped (.list ds) && SeqAt.shaped d then (findI d ds 0).map fun j => .int (j : Nat) else none
  | _, _ => none
def joinD : D → D → Option D
  | .str a, .list ds => match strsD ds with
    | some ys => if (ys.map (·.length)).sum + ys.length * a.length ≤ SZ then some (.str (Txt.join a ys)) else none
    | none => none
  | _, _ => none
def mv1 : Mv → D → D → Option D
  | .count => countD
  | .index => indexD
  | .join => joinD
def mvD (m : Mv) (o : D) (as : List D) : Option D := match as with
  | [d] => mv1 m o d
  | _ => none
def mvT : Mv → D → Bool
  | .count, .list _ => true
  | .index, .list _ => true
  | .join, .str _ => true
  | _, _ => false
def mvE (m : Mv) (o : M Od) (as : List (M Od)) : M Od := bnd o fun x => bnd (soft x) fun d0 => if mvT m d0 = true then bnd (argsE as) fun xs => bnd (soft x) fun d => bnd (softs xs) fun es => bnd (ofO (mvD m d es)) fun r => ret (.d r) else bad

def maskS : VL.Env → VL.Env → VL.Env
  | .no :: r, _ :: q => .no :: maskS r q
  | _ :: r, s :: q => s :: maskS r q
  | _, _ => []
def ifS (c : M Bool) (a b : M Fl) : M Fl := ifT c a b
/-- a loop's turns; m stores what is given -/
def forL (m : D → M Unit) (body : M Fl) (Γ0 : VL.Env) : List D → M Fl
  | [] => ret .nx
  | x :: r => fun Γ => match bnd (m x) (fun _ => body) Γ with
    | .ok .nx Γ1 => forL m body Γ0 r (maskS Γ0 Γ1)
    | .ok .ct Γ1 => forL m body Γ0 r (maskS Γ0 Γ1)
    | .ok .bk Γ1 => .ok .nx (maskS Γ0 Γ1)
    | .ok (.rt d) Γ1 => .ok (.rt d) Γ1
    | .ex c Γ1 => .ex c Γ1
    | .bad => .bad
/-- what is walked is nobody's own any more -/
def frzI (x : Itm) : M (List D) := fun Γ => match x.lock with
  | none => .ok x.ds Γ
  | some i => match gt Γ i with
    | .ow (.lst ds) => .ok x.ds (st Γ i (.va (.list ds)))
    | _ => .bad
def forS (m : D → M Unit) (it : M Itm) (body : M Fl) : M Fl := bnd it fun x => bnd (frzI x) fun ds => fun Γ => forL m body Γ ds Γ
def whL (c : M Bool) (body : M Fl) (Γ0 : VL.Env) : Nat → M Fl
  | 0 => bad
  | n + 1 => fun Γ => match c Γ with
    | .ok false Γ1 => .ok .nx Γ1
    | .ok true Γ1 => match body Γ1 with
      | .ok .nx Γ2 => whL c body Γ0 n (maskS Γ0 Γ2)
      | .ok .ct Γ2 => whL c body Γ0 n (maskS Γ0 Γ2)
      | .ok .bk Γ2 => .ok .nx (maskS Γ0 Γ2)
      | .ok (.rt d) Γ2 => .ok (.rt d) Γ2
      | .ex c Γ2 => .ex c Γ2
      | .bad => .bad
    | .ex c Γ1 => .ex c Γ1
    | .bad => .bad
def whS (fu : Nat) (c : M Bool) (body : M Fl) : M Fl := fun Γ => whL c body Γ fu Γ
/-- raise c(a) -/
def raiseS (c : Str) (a : M Od) : M Fl := bnd a fun _ => fun Γ => .ex c Γ
/-- no slot holds an exception -/
def noX (Γ : VL.Env) : VL.Env := hideS (fun _ => false) 0 Γ
/-- the ancestors of each class that may be raised -/
abbrev Anc := List (Str × List Str)
def suiteS (suite : M Fl) (Γ : VL.Env) (dn : VL.Env → VL.Env) : R Fl := match suite Γ with
  | .ok f Γ1 => .ok f (dn Γ1)
  | _ => .bad
/-- try: body except h: suite -/
def tryS (anc : Anc) (body : M Fl) (h : Str) (suite : M Fl) : M Fl := fun Γ => match body (noX Γ) with
  | .ex c Γ1 => match anc.lookup c with
    | some l => if l.contains h then suiteS suite (noX Γ1) noX else .ex c (noX Γ1)
    | none => .bad
  | .ok f Γ1 => .ok f (noX Γ1)
  | .bad => .bad
/-- .. as n -/
def tryAs (anc : Anc) (body : M Fl) (h : Str) (i : Nat) (suite : M Fl) : M Fl := fun Γ => match body (noX Γ) with
  | .ex c Γ1 => match anc.lookup c with
    | some l => if l.contains h then suiteS suite (st (noX Γ1) i (.xc c)) (fun Γ2 => noX (st Γ2 i .no)) else .ex c (noX Γ1)
    | none => .bad
  | .ok f Γ1 => .ok f (noX Γ1)
  | .bad => .bad

/-! ### a def -/
def headOw : List Slot → Bool
  | .ow _ :: _ => true
  | _ => false
/-- what comes out by the first argument -/
def finB (io : Bool) (Γ : VL.Env) (k : List Slot → R1) : R1 := if io = true then (match Γ with
  | .ow o :: _ => k [.ow o]
  | _ => .bad) else k []
def endB (io : Bool) : R Fl → R1
  | .ok .nx Γ => finB io Γ (.ok (.d .none))
  | .ok (.rt r) Γ => finB io Γ (.ok r)
  | .ex c Γ => finB io Γ (.ex c)
  | _ => .bad
def runB (io : Bool) (ns : Nat) (body : M Fl) (args : List Slot) : R1 := if headOw args = io then endB io (body (args ++ List.replicate (ns - args.length) .no)) else .bad
/-- the defs by name, k calls deep -/
abbrev Tb := List (Str × (FT → List Slot → R1))
def runK (tb : Tb) : Nat → FT
  | 0 => fun _ _ => .bad
  | k + 1 => fun f args => match tb.lookup f with
    | some m => m (runK tb k) args
    | none => .bad
end VL

/-! VB: what stands for what; the readings of the combinators; the first rules. -/
namespace VL
open PySem PySem.Spec PyProof.Rows L2
abbrev St := L2.St

mutual
inductive Vd (H : Hp) : V → D → Prop
  | non : Vd H .non .none
  | bl (b : Bool) : Vd H (.bl b) (.bool b)
  | int (i : Int) : Vd H (.int i) (.int i)
  | str (x : Str) : Vd H (.str x) (.str x)
  | lst {a : Addr} {xs : List V} {ds : List D} : H a = some (.lst xs) → VdAll H xs ds → Vd H (.ref a) (.list ds)
  | tup {a : Addr} {xs : List V} {ds : List D} : H a = some (.tup xs) → VdAll H xs ds → Vd H (.ref a) (.tuple ds)
inductive VdAll (H : Hp) : List V → List D → Prop
  | nil : VdAll H [] []
  | cons {v : V} {vs : List V} {d : D} {ds : List D} : Vd H v d → VdAll H vs ds → VdAll H (v :: vs) (d :: ds)
end

section
variable {H H' : Hp}
mutual
theorem Vd.mono (s : Same H H') : ∀ (d : D) (v : V), Vd H v d → Vd H' v d
  | .none, _, h => by cases h; exact .non
  | .bool b, _, h => by cases h; exact .bl b
  | .int i, _, h => by cases h; exact .int i
  | .str x, _, h => by cases h; exact .str x
  | .list ds, _, h => by
    cases h with
    | lst e a => exact .lst (s _ _ e) (VdAll.mono s ds _ a)
  | .tuple ds, _, h => by
    cases h with
    | tup e a => exact .tup (s _ _ e) (VdAll.mono s ds _ a)
  | .dict _, _, h => by cases h
theorem VdAll.mono (s : Same H H') : ∀ (ds : List D) (vs : List V), VdAll H vs ds → VdAll H' vs ds
  | [], _, h => by cases h; exact .nil
  | d :: ds, _, h => by
    cases h with
    | cons a b => exact .cons (Vd.mono s d _ a) (VdAll.mono s ds _ b)
end
mutual
theorem Vd.dp {K : PySem.W.Frag} : ∀ (d : D) (v : V), Vd H v d → Dp K H v d
  | .none, _, h => by cases h; exact .non
  | .bool b, _, h => by cases h; exact .bl b
  | .int i, _, h => by cases h; exact .int i
  | .str x, _, h => by cases h; exact .str x
  | .list ds, _, h => by
    cases h with
    | lst e a => exact .lst (SqL.of e) (VdAll.dp ds _ a)
  | .tuple ds, _, h => by
    cases h with
    | tup e a => exact .tup (SqT.of e) (VdAll.dp ds _ a)
  | .dict _, _, h => by cases h
theorem VdAll.dp {K : PySem.W.Frag} : ∀ (ds : List D) (vs : List V), VdAll H vs ds → DpAll K H vs ds
  | [], _, h => by cases h; exact .nil
  | d :: ds, _, h => by
    cases h with
    | cons a b => exact .cons (Vd.dp d _ a) (VdAll.dp ds _ b)
end
theorem VdAll.length : ∀ {vs : List V} {ds : List D}, VdAll H vs ds → vs.length = ds.length
  | _, _, .nil => rfl
  | _, _, .cons _ b => by rw [List.length_cons, List.length_cons, VdAll.length b]
theorem VdAll.get : ∀ {vs : List V} {ds : List D} {i : Nat} {v : V}, VdAll H vs ds → vs[i]? = some v → ∃ d, ds[i]? = some d ∧ Vd H v d
  | _, _, i, v, .nil, e => by simp at e
  | _, _, 0, v, .cons a b, e => by
    have e' := Option.some.inj e
    subst e'
    exact ⟨_, rfl, a⟩
  | _, _, i + 1, v, .cons a b, e => VdAll.get (i := i) b e
theorem VdAll.get' : ∀ {vs : List V} {ds : List D} {i : Nat} {d : D}, VdAll H vs ds → ds[i]? = some d → ∃ v, vs[i]? = some v ∧ Vd H v d
  | _, _, i, d, .nil, e => by simp at e
  | _, _, 0, d, .cons a b, e => by
    have e' := Option.some.inj e
    subst e'
    exact ⟨_, rfl, a⟩
  | _, _, i + 1, d, .cons a b, e => VdAll.get' (i := i) b e
theorem VdAll.append : ∀ {xs ys : List V} {ds es : List D}, VdAll H xs ds → VdAll H ys es → VdAll H (xs ++ ys) (ds ++ es)
  | _, _, _, _, .nil, q => q
  | _, _, _, _, .cons a b, q => .cons a (VdAll.append b q)
theorem VdAll.take : ∀ {xs : List V} {ds : List D} (n : Nat), VdAll H xs ds → VdAll H (xs.take n) (ds.take n)
  | _, _, 0, _ => .nil
  | _, _, _ + 1, .nil => .nil
  | _, _, n + 1, .cons a b => .cons a (VdAll.take n b)
theorem VdAll.drop : ∀ {xs : List V} {ds : List D} (n : Nat), VdAll H xs ds → VdAll H (xs.drop n) (ds.drop n)
  | _, _, 0, q => q
  | _, _, _ + 1, .nil => .nil
  | _, _, n + 1, .cons a b => VdAll.drop n b
theorem VdAll.set {v : V} {d : D} (q : Vd H v d) : ∀ {xs : List V} {ds : List D} (n : Nat), VdAll H xs ds → VdAll H (xs.set n v) (ds.set n d)
  | _, _, _, .nil => .nil
  | _, _, 0, .cons a b => .cons q b
  | _, _, n + 1, .cons a b => .cons a (VdAll.set q n b)
theorem VdAll.reverse {xs : List V} {ds : List D} (h : VdAll H xs ds) : VdAll H xs.reverse ds.reverse := by
  induction xs generalizing ds with
  | nil => cases h; exact .nil
  | cons x r ih =>
    cases h with
    | cons a b =>
      rw [List.reverse_cons, List.reverse_cons]
      exact VdAll.append (ih b) (.cons a .nil)
theorem VdAll.rep {xs : List V} {ds : List D} (h : VdAll H xs ds) : ∀ k : Nat, VdAll H (List.replicate k xs).flatten (List.replicate k ds).flatten
  | 0 => .nil
  | k + 1 => by
    rw [List.replicate_succ, List.replicate_succ, List.flatten_cons, List.flatten_cons]
    exact VdAll.append h (VdAll.rep h k)
theorem VdAll.dropLast : ∀ {xs : List V} {ds : List D}, VdAll H xs ds → VdAll H xs.dropLast ds.dropLast
  | _, _, .nil => .nil
  | _, _, .cons a .nil => .nil
  | _, _, .cons a (.cons b c) => .cons a (VdAll.dropLast (.cons b c))
theorem VdAll.ints : ∀ {xs : List V} {ds : List D} {ns : List Int}, VdAll H xs ds → intsD ds = some ns → xs = ns.map V.int
  | _, _, ns, .nil, e => by
    have e' : ([] : List Int) = ns := Option.some.inj e
    subst e'
    rfl
  | _, .int i :: ds, ns, .cons a b, e => by
    cases a
    rw [intsD] at e
    obtain ⟨ms, h1, h2⟩ := Option.map_eq_some_iff.mp e
    subst h2
    rw [List.map_cons, ← VdAll.ints b h1]
  | _, .none :: _, _, .cons _ _, e => by simp [intsD] at e
  | _, .bool _ :: _, _, .cons _ _, e => by simp [intsD] at e
  | _, .str _ :: _, _, .cons _ _, e => by simp [intsD] at e
  | _, .list _ :: _, _, .cons _ _, e => by simp [intsD] at e
  | _, .tuple _ :: _, _, .cons _ _, e => by simp [intsD] at e
  | _, .dict _ :: _, _, .cons _ _, e => by simp [intsD] at e
theorem VdAll.strs : ∀ {xs : List V} {ds : List D} {ns : List Str}, VdAll H xs ds → strsD ds = some ns → xs = ns.map V.str
  | _, _, ns, .nil, e => by
    have e' : ([] : List Str) = ns := Option.some.inj e
    subst e'
    rfl
  | _, .str i :: ds, ns, .cons a b, e => by
    cases a
    rw [strsD] at e
    obtain ⟨ms, h1, h2⟩ := Option.map_eq_some_iff.mp e
    subst h2
    rw [List.map_cons, ← VdAll.strs b h1]
  | _, .none :: _, _, .cons _ _, e => by simp [strsD] at e
  | _, .bool _ :: _, _, .cons _ _, e => by simp [strsD] at e
  | _, .int _ :: _, _, .cons _ _, e => by simp [strsD] at e
  | _, .list _ :: _, _, .cons _ _, e => by simp [strsD] at e
  | _, .tuple _ :: _, _, .cons _ _, e => by simp [strsD] at e
  | _, .dict _ :: _, _, .cons _ _, e => by simp [strsD] at e
theorem VdAll.ofInts : ∀ ns : List Int, VdAll H (ns.map V.int) (ns.map PyData.int)
  | [] => .nil
  | n :: r => .cons (.int n) (VdAll.ofInts r)
end

/-! ### the environment stands for the state -/
def RepO (H0 : Hp) : Own → HO → Prop
  | .lst ds, .lst vs => VdAll H0 vs ds
  | .dk kvs, .dK ps => Paired (fun (p : Key × D) (q : Key × V) => p.1 = q.1 ∧ Vd H0 q.2 p.2) kvs ps
  | .dt kvs, .dT ps => Paired (fun (p : List Key × D) (q : List Key × V) => p.1 = q.1 ∧ Vd H0 q.2 p.2) kvs ps
  | _, _ => False
/-- what the readings ask of the context -/
structure Ky where
  K : PySem.W.Frag
  mg : Str → Option Value
  pn : List (Addr × Obj)
abbrev ky (X : Cx) : Ky := ⟨X.K, X.mg, X.pn⟩
def ExAt (X : Ky) (a : Addr) (c : Str) : Prop := ∃ oe C, (a, oe) ∈ X.pn ∧ L2N.Zn (.ref C) none oe ∧ (∃ vs, oe.data = .fields vs) ∧ X.mg c = some (.ref C)
/-- slot i owns what stands at b -/
def Ow (Γ : VL.Env) (σ : St) (b : Addr) : Prop := ∃ i o, gt Γ i = .ow o ∧ σ[i]? = some (some (.ref b))
structure Rep (X : Ky) (Γ : VL.Env) (H0 : Hp) (σ : St) (H : Hp) : Prop where
  len : Γ.length = σ.length
  same : Same H0 H
  va : ∀ i d, gt Γ i = .va d → ∃ v, σ[i]? = some (some v) ∧ Vd H0 v d
  ow : ∀ i o, gt Γ i = .ow o → ∃ a ho, σ[i]? = some (some (.ref a)) ∧ H0 a = none ∧ H a = some ho ∧ RepO H0 o ho
  inj : ∀ i j o o' a, gt Γ i = .ow o → gt Γ j = .ow o' → σ[i]? = some (some (.ref a)) → σ[j]? = some (some (.ref a)) → i = j
  xc : ∀ i c, gt Γ i = .xc c → ∃ a, σ[i]? = some (some (.ref a)) ∧ ExAt X a c
  sc : ∀ i ns, gt Γ i = .sc ns → ∃ a, σ[i]? = some (some (.ref a)) ∧ SqL X.K H0 a (ns.map V.int)
/-- from one point to a later one of the same expression -/
structure StE (Γ : VL.Env) (σ : St) (H0 H : Hp) (Γ' : VL.Env) (H0' H' : Hp) : Prop where
  fr : Same H0 H0'
  nf : ∀ b, H0' b ≠ none → H0 b ≠ none ∨ H b = none ∨ Ow Γ σ b
  ke : ∀ b o, H b = some o → ¬ Ow Γ σ b → H' b = some o
  sl : ∀ i o, gt Γ' i = .ow o → ∃ o', gt Γ i = .ow o'
  dm : ∀ b, H b ≠ none → H' b ≠ none
theorem StE.ow {Γ Γ' : VL.Env} {σ : St} {H0 H H0' H' : Hp} (a : StE Γ σ H0 H Γ' H0' H') : ∀ b, Ow Γ' σ b → Ow Γ σ b := fun b ⟨i, o, h1, h2⟩ => let ⟨o', h3⟩ := a.sl i o h1; ⟨i, o', h3, h2⟩
theorem StE.refl {Γ : VL.Env} {σ : St} {H0 H : Hp} : StE Γ σ H0 H Γ H0 H := ⟨Same.refl _, fun _ h => .inl h, fun _ _ h _ => h, fun _ o h => ⟨o, h⟩, fun _ h => h⟩
theorem StE.trans {Γ Γ1 Γ2 : VL.Env} {σ : St} {H0 H H01 H1 H02 H2 : Hp} (a : StE Γ σ H0 H Γ1 H01 H1) (b : StE Γ1 σ H01 H1 Γ2 H02 H2) : StE Γ σ H0 H Γ2 H02 H2 where
  fr := a.fr.trans b.fr
  nf := fun c h => by
    rcases b.nf c h with h | h | h
    · exact a.nf c h
    · refine .inr (.inl ?_)
      cases q : H c with
      | none => rfl
      | some o => exact absurd h (a.dm c (by rw [q]; simp))
    · exact .inr (.inr (a.ow c h))
  ke := fun c o h n => b.ke c o (a.ke c o h n) fun q => n (a.ow c q)
  sl := fun c o h => let ⟨o', h'⟩ := b.sl c o h; a.sl c o' h'
  dm := fun c h => b.dm c (a.dm c h)
theorem StE.new {Γ Γ' : VL.Env} {σ : St} {H0 H H0' H' : Hp} (a : StE Γ σ H0 H Γ' H0' H') {b : Addr} (h : H' b = none) : H b = none := by
  cases q : H b with
  | none => rfl
  | some o => exact absurd h (a.dm b (by rw [q]; simp))

theorem Rep.own {X : Ky} {Γ : VL.Env} {H0 : Hp} {σ : St} {H : Hp} (r : Rep X Γ H0 σ H) {b : Addr} (h : Ow Γ σ b) : H0 b = none ∧ ∃ o, H b = some o := by
  obtain ⟨i, o, e, es⟩ := h
  obtain ⟨a, ho, e1, e2, e3, _⟩ := r.ow i o e
  rw [es] at e1
  cases e1
  exact ⟨e2, ho, e3⟩

/-- an operand; Hs: the heap at the start -/
def RepOd (Hs : Hp) (σ : St) (H0 H : Hp) : Od → V → Prop
  | .d d, v => Vd H0 v d
  | .rf i, v => σ[i]? = some (some v)
  | .fl ds, v => ∃ a vs, v = .ref a ∧ Hs a = none ∧ H0 a = none ∧ H a = some (.lst vs) ∧ VdAll H0 vs ds
theorem RepOd.step {X : Ky} {Hs : Hp} {Γs Γ Γ' : VL.Env} {σ : St} {H0s H0 H H0' H' : Hp} {o : Od} {v : V} (rs : Rep X Γs H0s σ Hs) (b : StE Γs σ H0s Hs Γ H0 H) (a : StE Γ σ H0 H Γ' H0' H') (h : RepOd Hs σ H0 H o v) : RepOd Hs σ H0' H' o v := by
  cases o with
  | d d => exact Vd.mono a.fr d v h
  | rf i => exact h
  | fl ds =>
    obtain ⟨p, vs, e, h1, h2, h3, h4⟩ := h
    have nw : ¬ Ow Γ σ p := fun q => by
      obtain ⟨_, o, e1⟩ := rs.own (b.ow p q)
      rw [h1] at e1
      cases e1
    refine ⟨p, vs, e, h1, ?_, a.ke p _ h3 nw, VdAll.mono a.fr ds vs h4⟩
    cases q : H0' p with
    | none => rfl
    | some o =>
      rcases a.nf p (by rw [q]; simp) with z | z | z
      · exact absurd h2 z
      · rw [h3] at z; cases z
      · exact absurd z nw
theorem RepOd.back {Hs Hs' : Hp} {σ : St} {H0 H : Hp} {o : Od} {v : V} (n : ∀ b, Hs b = none → Hs' b = none) (h : RepOd Hs σ H0 H o v) : RepOd Hs' σ H0 H o v := by
  cases o with
  | d d => exact h
  | rf i => exact h
  | fl ds =>
    obtain ⟨p, vs, e, h1, h2⟩ := h
    exact ⟨p, vs, e, n p h1, h2⟩
def RepOds (Hs : Hp) (σ : St) (H0 H : Hp) : List Od → List V → Prop
  | [], vs => vs = []
  | o :: os, vs => ∃ v r, vs = v :: r ∧ RepOd Hs σ H0 H o v ∧ RepOds Hs σ H0 H os r
theorem RepOds.back {Hs Hs' : Hp} {σ : St} {H0 H : Hp} (n : ∀ b, Hs b = none → Hs' b = none) : ∀ {os : List Od} {vs : List V}, RepOds Hs σ H0 H os vs → RepOds Hs' σ H0 H os vs
  | [], _, h => h
  | o :: os, _, ⟨v, r, e, h1, h2⟩ => ⟨v, r, e, h1.back n, RepOds.back n h2⟩

/-! ### the readings -/
section
variable (X : Ky) (W : WX)
def sem {α : Type} (f : M α) (Γ : VL.Env) (H0 : Hp) (σ : St) (H : Hp) (K : α → VL.Env → Hp → Hp → Prop) : Prop :=
  match f Γ with
  | .ok a Γ' => ∀ H0' H', Rep X Γ' H0' σ H' → StE Γ σ H0 H Γ' H0' H' → K a Γ' H0' H'
  | .ex c Γ' => ∀ C H0' H', X.mg c = some (.ref C) → Rep X Γ' H0' σ H' → StE Γ σ H0 H Γ' H0' H' → W (.ref C) none σ H'
  | .bad => False
def tE (f : M Od) : TE := fun σ H Q => ∃ Γ H0, Rep X Γ H0 σ H ∧ sem X W f Γ H0 σ H fun o _ H0' H' => ∀ v, RepOd H σ H0' H' o v → Q v H'
def tT (f : M Bool) : TT := fun σ H Q => ∃ Γ H0, Rep X Γ H0 σ H ∧ sem X W f Γ H0 σ H fun b _ _ H' => Q b H'
def tA (f : M (List Od)) : TA := fun σ H Q => ∃ Γ H0, Rep X Γ H0 σ H ∧ sem X W f Γ H0 σ H fun os _ H0' H' => ∀ vs, RepOds H σ H0' H' os vs → Q vs H'
end
section
variable {X : Ky} {W : WX} {α β : Type} {Γ : VL.Env} {σ : St} {H0 H : Hp}
theorem sem.mono {f : M α} {K K' : α → VL.Env → Hp → Hp → Prop} (h : sem X W f Γ H0 σ H K) (k : ∀ a Γ' H0' H', Rep X Γ' H0' σ H' → StE Γ σ H0 H Γ' H0' H' → K a Γ' H0' H' → K' a Γ' H0' H') : sem X W f Γ H0 σ H K' := by
  unfold sem at h ⊢
  split at h
  · exact fun H0' H' r s => k _ _ _ _ r s (h _ _ r s)
  · exact h
  · exact h
theorem sem.mono' {f : M α} {K K' : α → VL.Env → Hp → Hp → Prop} (h : sem X W f Γ H0 σ H K) (k : ∀ a Γ' H0' H', f Γ = .ok a Γ' → Rep X Γ' H0' σ H' → StE Γ σ H0 H Γ' H0' H' → K a Γ' H0' H' → K' a Γ' H0' H') : sem X W f Γ H0 σ H K' := by
  unfold sem at h ⊢
  cases q : f Γ with
  | ok a Γ' =>
    rw [q] at h
    exact fun H0' H' r s => k _ _ _ _ q r s (h _ _ r s)
  | ex c Γ' => rw [q] at h; exact h
  | bad => rw [q] at h; exact h
theorem sem.bnd {m : M α} {f : α → M β} {K : β → VL.Env → Hp → Hp → Prop} (h : sem X W (VL.bnd m f) Γ H0 σ H K) : sem X W m Γ H0 σ H fun a Γ1 H01 H1 => sem X W (f a) Γ1 H01 σ H1 K := by
  unfold sem VL.bnd at h
  unfold sem
  cases q : m Γ with
  | ok a Γ1 =>
    rw [q] at h
    intro H01 H1 r s
    dsimp only at h
    cases q2 : f a Γ1 with
    | ok b Γ2 =>
      rw [q2] at h
      exact fun H02 H2 r2 s2 => h _ _ r2 (s.trans s2)
    | ex c Γ2 =>
      rw [q2] at h
      exact fun C H02 H2 e r2 s2 => h C _ _ e r2 (s.trans s2)
    | bad => rw [q2] at h; exact h
  | ex c Γ1 => rw [q] at h; exact h
  | bad => rw [q] at h; exact h
theorem sem.ofO {o : Option α} {K : α → VL.Env → Hp → Hp → Prop} (r : Rep X Γ H0 σ H) (h : sem X W (VL.ofO o) Γ H0 σ H K) : ∃ a, o = some a ∧ K a Γ H0 H := by
  unfold sem VL.ofO at h
  cases o with
  | none => exact False.elim h
  | some a => exact ⟨a, rfl, h _ _ r StE.refl⟩
theorem sem.ret {a : α} {K : α → VL.Env → Hp → Hp → Prop} (r : Rep X Γ H0 σ H) (h : sem X W (VL.ret a) Γ H0 σ H K) : K a Γ H0 H := h _ _ r StE.refl
/-- as it is read: H is the whole heap, H0 what is frozen -/
def SV (H0 H : Hp) (v : V) (d : D) : Prop := Vd H0 v d ∨ ∃ a vs ds, v = .ref a ∧ d = .list ds ∧ H a = some (.lst vs) ∧ VdAll H0 vs ds
theorem SV.vd (s : Same H0 H) {v : V} {d : D} (h : SV H0 H v d) : Vd H v d := by
  rcases h with h | ⟨a, vs, ds, rfl, rfl, e, q⟩
  · exact Vd.mono s d v h
  · exact .lst e (VdAll.mono s ds vs q)
theorem SV.list (s : Same H0 H) {v : V} {ds : List D} (h : SV H0 H v (.list ds)) : ∃ a vs, v = .ref a ∧ H a = some (.lst vs) ∧ VdAll H0 vs ds := by
  rcases h with h | ⟨a, vs, es, rfl, e, e1, q⟩
  · cases h with
    | lst e1 q => exact ⟨_, _, rfl, s _ _ e1, q⟩
  · cases e
    exact ⟨a, vs, rfl, e1, q⟩
theorem SV.tuple (s : Same H0 H) {v : V} {ds : List D} (h : SV H0 H v (.tuple ds)) : ∃ a vs, v = .ref a ∧ H a = some (.tup vs) ∧ VdAll H0 vs ds := by
  rcases h with h | ⟨a, vs, es, rfl, e, e1, q⟩
  · cases h with
    | tup e1 q => exact ⟨_, _, rfl, s _ _ e1, q⟩
  · cases e
theorem SV.int {v : V} {i : Int} (h : SV H0 H v (.int i)) : v = .int i := by
  rcases h with h | ⟨a, vs, es, rfl, e, e1, q⟩
  · cases h; rfl
  · cases e
theorem SV.str {v : V} {i : Str} (h : SV H0 H v (.str i)) : v = .str i := by
  rcases h with h | ⟨a, vs, es, rfl, e, e1, q⟩
  · cases h; rfl
  · cases e
theorem SV.bool {v : V} {i : Bool} (h : SV H0 H v (.bool i)) : v = .bl i := by
  rcases h with h | ⟨a, vs, es, rfl, e, e1, q⟩
  · cases h; rfl
  · cases e
theorem SV.non {v : V} (h : SV H0 H v .none) : v = .non := by
  rcases h with h | ⟨a, vs, es, rfl, e, e1, q⟩
  · cases h; rfl
  · cases e
/-- reading softly -/
theorem sem.softE {o : Od} {v : V} {Hs : Hp} (r : Rep X Γ H0 σ H) (q : RepOd Hs σ H0 H o v) {d : D} {Γ' : VL.Env} (h : VL.soft o Γ = .ok d Γ') : SV H0 H v d ∧ Γ' = Γ := by
  unfold VL.soft at h
  cases o with
  | d d =>
    cases h
    exact ⟨.inl q, rfl⟩
  | fl ds =>
    cases h
    obtain ⟨a, vs, e, h1, h2, h3, h4⟩ := q
    exact ⟨.inr ⟨a, vs, ds, e, rfl, h3, h4⟩, rfl⟩
  | rf i =>
    dsimp only at h
    have q' : σ[i]? = some (some v) := q
    cases g : gt Γ i with
    | ow o =>
      rw [g] at h
      cases o with
      | lst ds =>
        cases h
        obtain ⟨a, ho, e1, e2, e3, e4⟩ := r.ow i _ g
        rw [q'] at e1
        cases e1
        cases ho with
        | lst vs => exact ⟨.inr ⟨a, vs, ds, rfl, rfl, e3, e4⟩, rfl⟩
        | _ => exact False.elim e4
      | _ => cases h
    | va d =>
      rw [g] at h
      cases h
      obtain ⟨w, e1, e2⟩ := r.va i d g
      rw [q'] at e1
      cases e1
      exact ⟨.inl e2, rfl⟩
    | _ => rw [g] at h; cases h
theorem sem.soft {o : Od} {v : V} {Hs : Hp} {K : D → VL.Env → Hp → Hp → Prop} (r : Rep X Γ H0 σ H) (q : RepOd Hs σ H0 H o v) (h : sem X W (VL.soft o) Γ H0 σ H K) : ∃ d, SV H0 H v d ∧ K d Γ H0 H := by
  unfold sem VL.soft at h
  cases o with
  | d d => exact ⟨d, .inl q, h _ _ r StE.refl⟩
  | fl ds =>
    obtain ⟨a, vs, e, h1, h2, h3, h4⟩ := q
    exact ⟨.list ds, .inr ⟨a, vs, ds, e, rfl, h3, h4⟩, h _ _ r StE.refl⟩
  | rf i =>
    dsimp only at h
    cases g : gt Γ i with
    | ow o =>
      rw [g] at h
      cases o with
      | lst ds =>
        obtain ⟨a, ho, e1, e2, e3, e4⟩ := r.ow i _ g
        have q' : σ[i]? = some (some v) := q
        rw [q'] at e1
        cases e1
        cases ho with
        | lst vs => exact ⟨.list ds, .inr ⟨a, vs, ds, rfl, rfl, e3, e4⟩, h _ _ r StE.refl⟩
        | _ => exact False.elim e4
      | _ => exact False.elim h
    | va d =>
      rw [g] at h
      obtain ⟨w, e1, e2⟩ := r.va i d g
      have q' : σ[i]? = some (some v) := q
      rw [q'] at e1
      cases e1
      exact ⟨d, .inl e2, h _ _ r StE.refl⟩
    | _ => rw [g] at h; exact False.elim h

/-! ### what is handed on is frozen; the steps are told from the start -/
def semS (X : Ky) (W : WX) (Γs : VL.Env) (H0s : Hp) (σ : St) (Hs : Hp) (f : R α) (K : α → VL.Env → Hp → Hp → Prop) : Prop :=
  match f with
  | .ok a Γ' => ∀ H0' H', Rep X Γ' H0' σ H' → StE Γs σ H0s Hs Γ' H0' H' → K a Γ' H0' H'
  | .ex c Γ' => ∀ C H0' H', X.mg c = some (.ref C) → Rep X Γ' H0' σ H' → StE Γs σ H0s Hs Γ' H0' H' → W (.ref C) none σ H'
  | .bad => False
theorem sem.bndS {m : M α} {f : α → M β} {K : β → VL.Env → Hp → Hp → Prop} (h : sem X W (VL.bnd m f) Γ H0 σ H K) : sem X W m Γ H0 σ H fun a Γ1 _ _ => semS X W Γ H0 σ H (f a Γ1) K := by
  unfold sem VL.bnd at h
  unfold sem
  cases q : m Γ with
  | ok a Γ1 =>
    rw [q] at h
    intro H01 H1 r s
    exact h
  | ex c Γ1 => rw [q] at h; exact h
  | bad => rw [q] at h; exact h
theorem semS.here {Γs : VL.Env} {H0s Hs : Hp} {f : M α} {K : α → VL.Env → Hp → Hp → Prop} (s : StE Γs σ H0s Hs Γ H0 H) (h : semS X W Γs H0s σ Hs (f Γ) K) : sem X W f Γ H0 σ H K := by
  unfold semS at h
  unfold sem
  split at h
  · exact fun H0' H' r s' => h _ _ r (s.trans s')
  · exact fun C H0' H' e r s' => h C _ _ e r (s.trans s')
  · exact h
theorem semS.bnd {Γs : VL.Env} {H0s Hs : Hp} {m : M α} {f : α → M β} {K : β → VL.Env → Hp → Hp → Prop} {a : α} {Γ1 : VL.Env} (e : m Γ = .ok a Γ1) (h : semS X W Γs H0s σ Hs (VL.bnd m f Γ) K) : semS X W Γs H0s σ Hs (f a Γ1) K := by
  unfold VL.bnd at h
  rw [e] at h
  exact h
theorem semS.ok {Γs : VL.Env} {H0s Hs : Hp} {m : M α} {f : α → M β} {K : β → VL.Env → Hp → Hp → Prop} (n : ∀ c g, m Γ ≠ .ex c g) (h : semS X W Γs H0s σ Hs (VL.bnd m f Γ) K) : ∃ a Γ1, m Γ = .ok a Γ1 := by
  unfold VL.bnd at h
  cases q : m Γ with
  | ok a Γ1 => exact ⟨a, Γ1, rfl⟩
  | ex c g => exact absurd q (n c g)
  | bad => rw [q] at h; exact False.elim h
/-- a weaker standing: what is nobody's may have been frozen just now -/
def RepW (Hs : Hp) (σ : St) (H0 H : Hp) : Od → V → Prop
  | .d d, v => Vd H0 v d
  | .rf i, v => σ[i]? = some (some v)
  | .fl ds, v => ∃ a vs, v = .ref a ∧ Hs a = none ∧ (H0 a = none ∨ H0 a = some (.lst vs)) ∧ H a = some (.lst vs) ∧ VdAll H0 vs ds
theorem RepOd.weak {Hs : Hp} {o : Od} {v : V} (h : RepOd Hs σ H0 H o v) : RepW Hs σ H0 H o v := by
  cases o with
  | d d => exact h
  | rf i => exact h
  | fl ds =>
    obtain ⟨a, vs, h1, h2, h3, h4⟩ := h
    exact ⟨a, vs, h1, h2, .inl h3, h4⟩
theorem gt_st : ∀ (Γ : VL.Env) (i j : Nat) (x : Slot), gt (st Γ i x) j = if j = i ∧ i < Γ.length then x else gt Γ j
  | [], i, j, x => by
    rw [show st [] i x = [] by cases i <;> rfl, if_neg (by simp)]
  | s :: r, 0, 0, x => by simp [st, gt]
  | s :: r, 0, j + 1, x => by simp [st, gt]
  | s :: r, i + 1, 0, x => by simp [st, gt]
  | s :: r, i + 1, j + 1, x => by
    show gt (st r i x) j = _
    rw [gt_st r i j x]
    simp [gt]
theorem len_st : ∀ (Γ : VL.Env) (i : Nat) (x : Slot), (st Γ i x).length = Γ.length
  | [], i, x => by cases i <;> rfl
  | s :: r, 0, x => rfl
  | s :: r, i + 1, x => by rw [st, List.length_cons, List.length_cons, len_st r i x]
theorem gt_lt : ∀ {Γ : VL.Env} {i : Nat}, gt Γ i ≠ .no → i < Γ.length
  | [], i, h => by cases i <;> exact absurd rfl h
  | s :: r, 0, _ => Nat.succ_pos _
  | s :: r, i + 1, h => Nat.succ_lt_succ (gt_lt (Γ := r) h)
/-- the frozen part grows by p, which is nobody's (or slot i's own) -/
theorem Rep.freeze {p : Addr} {vs : List V} {ds : List D} (r : Rep X Γ H0 σ H) (e : H p = some (.lst vs)) (n : ¬ Ow Γ σ p) (n0 : H0 p = none) : Rep X Γ (upd H0 p (.lst vs)) σ H where
  len := r.len
  same := fun b o h => by
    by_cases hb : b = p
    · subst hb; rw [upd_same] at h; cases h; exact e
    · rw [upd_ne hb] at h; exact r.same b o h
  va := fun i d h => let ⟨v, h1, h2⟩ := r.va i d h; ⟨v, h1, Vd.mono (fun b o q => by rw [upd_ne (ne_of_none q n0)]; exact q) d v h2⟩
  ow := fun i o h => by
    obtain ⟨a, ho, h1, h2, h3, h4⟩ := r.ow i o h
    have ne : a ≠ p := fun z => n (z ▸ ⟨i, o, h, h1⟩)
    refine ⟨a, ho, h1, by rw [upd_ne ne]; exact h2, h3, ?_⟩
    have sm : Same H0 (upd H0 p (.lst vs)) := fun b o q => by rw [upd_ne (ne_of_none q n0)]; exact q
    cases o with
    | lst es =>
      cases ho with
      | lst ws => exact VdAll.mono sm es ws h4
      | _ => exact h4
    | dk kvs =>
      cases ho with
      | dK ps => exact Paired.mapP (show Paired _ kvs ps from h4) fun p q z => ⟨z.1, Vd.mono sm _ _ z.2⟩
      | _ => exact h4
    | dt kvs =>
      cases ho with
      | dT ps => exact Paired.mapP (show Paired _ kvs ps from h4) fun p q z => ⟨z.1, Vd.mono sm _ _ z.2⟩
      | _ => exact h4
  inj := r.inj
  xc := r.xc
  sc := fun i ns h => let ⟨a, h1, h2⟩ := r.sc i ns h; ⟨a, h1, Same.seq (fun b o q => by rw [upd_ne (ne_of_none q n0)]; exact q) h2⟩
/-- slot i is forgotten, or its list frozen -/
theorem Rep.drop {i : Nat} (r : Rep X Γ H0 σ H) : Rep X (st Γ i .no) H0 σ H := by
  have key : ∀ j s, gt (st Γ i .no) j = s → s ≠ .no → gt Γ j = s := fun j s h n => by
    rw [gt_st] at h
    split at h
    · exact absurd h.symm n
    · exact h
  exact ⟨by rw [len_st]; exact r.len, r.same, fun j d h => r.va j d (key j _ h (by simp)), fun j o h => r.ow j o (key j _ h (by simp)), fun a b o o' p h1 h2 => r.inj a b o o' p (key a _ h1 (by simp)) (key b _ h2 (by simp)),
    fun j c h => r.xc j c (key j _ h (by simp)), fun j c h => r.sc j c (key j _ h (by simp))⟩
theorem Rep.putV {i : Nat} {d : D} {v : V} (r : Rep X Γ H0 σ H) (e : σ[i]? = some (some v)) (q : Vd H0 v d) : Rep X (st Γ i (.va d)) H0 σ H := by
  have key : ∀ j s, gt (st Γ i (.va d)) j = s → s ≠ .va d → gt Γ j = s := fun j s h n => by
    rw [gt_st] at h
    split at h
    · exact absurd h.symm n
    · exact h
  refine ⟨by rw [len_st]; exact r.len, r.same, fun j d' h => ?_, fun j o h => r.ow j o (key j _ h (by simp)), fun a b o o' p h1 h2 => r.inj a b o o' p (key a _ h1 (by simp)) (key b _ h2 (by simp)),
    fun j c h => r.xc j c (key j _ h (by simp)), fun j c h => r.sc j c (key j _ h (by simp))⟩
  rw [gt_st] at h
  split at h
  · rename_i hj
    cases h
    rw [hj.1]
    exact ⟨v, e, q⟩
  · exact r.va j d' h
theorem gt_keep {i j : Nat} {s : Slot} {o : Own} (h : gt (st Γ i s) j = .ow o) (n : ∀ o, s ≠ .ow o) : gt Γ j = .ow o := by
  rw [gt_st] at h
  split at h
  · exact absurd h (n o)
  · exact h
theorem ow_st {i : Nat} {s : Slot} (n : ∀ o, s ≠ .ow o) {b : Addr} (h : Ow (st Γ i s) σ b) : Ow Γ σ b := by
  obtain ⟨j, o, h1, h2⟩ := h
  rw [gt_st] at h1
  split at h1
  · exact absurd h1 (n o)
  · exact ⟨j, o, h1, h2⟩
theorem not_ow {i : Nat} {s : Slot} {o : Own} {p : Addr} (r : Rep X Γ H0 σ H) (g : gt Γ i = .ow o) (e : σ[i]? = some (some (.ref p))) (n : ∀ o, s ≠ .ow o) : ¬ Ow (st Γ i s) σ p := by
  rintro ⟨j, o', h1, h2⟩
  rw [gt_st] at h1
  split at h1
  · exact absurd h1 (n o')
  · rename_i hj
    exact hj ⟨r.inj j i o' o p h1 g h2 e, gt_lt (by rw [g]; simp)⟩
/-- handing one thing on -/
theorem hard_ok {Γs : VL.Env} {H0s Hs : Hp} {o : Od} {v : V} {f : D → M β} {K : β → VL.Env → Hp → Hp → Prop} (r : Rep X Γ H0 σ H) (s : StE Γs σ H0s Hs Γ H0 H) (q : RepW Hs σ H0 H o v) (rs : Rep X Γs H0s σ Hs)
    (h : semS X W Γs H0s σ Hs (VL.bnd (VL.hard o) f Γ) K) : ∃ d Γ1 H01, VL.hard o Γ = .ok d Γ1 ∧ Rep X Γ1 H01 σ H ∧ StE Γs σ H0s Hs Γ1 H01 H ∧ Same H0 H01 ∧ Vd H01 v d ∧ (∀ p vs, H p = some (.lst vs) → (H0 p = none ∨ H0 p = some (.lst vs)) → (H01 p = none ∨ H01 p = some (.lst vs))) ∧ semS X W Γs H0s σ Hs (f d Γ1) K := by
  cases o with
  | d d => exact ⟨d, Γ, H0, rfl, r, s, Same.refl _, q, fun _ _ _ h => h, semS.bnd rfl h⟩
  | fl ds =>
    obtain ⟨p, vs, rfl, h1, h2, h3, h4⟩ := q
    rcases h2 with h2 | h2
    · have nw : ¬ Ow Γ σ p := fun z => by
        obtain ⟨_, o, e1⟩ := rs.own (s.ow p z)
        rw [h1] at e1
        cases e1
      have sm : Same H0 (upd H0 p (.lst vs)) := fun b o q => by rw [upd_ne (ne_of_none q h2)]; exact q
      refine ⟨.list ds, Γ, upd H0 p (.lst vs), rfl, r.freeze (ds := ds) h3 nw h2, ⟨s.fr.trans sm, fun b hb => ?_, s.ke, s.sl, s.dm⟩, sm, .lst upd_same (VdAll.mono sm _ _ h4), fun b ws hb h0 => ?_, semS.bnd rfl h⟩
      · by_cases e : b = p
        · rw [e]; exact .inr (.inl h1)
        · rw [upd_ne e] at hb; exact s.nf b hb
      · by_cases e : b = p
        · subst e
          rw [h3] at hb
          cases hb
          exact .inr upd_same
        · rw [upd_ne e]; exact h0
    · exact ⟨.list ds, Γ, H0, rfl, r, s, Same.refl _, .lst h2 h4, fun _ _ _ h => h, semS.bnd rfl h⟩
  | rf i =>
    have q' : σ[i]? = some (some v) := q
    cases g : gt Γ i with
    | va d =>
      obtain ⟨w, e1, e2⟩ := r.va i d g
      rw [q'] at e1
      cases e1
      have e : VL.hard (.rf i) Γ = .ok d Γ := by unfold VL.hard; simp only [g]
      exact ⟨d, Γ, H0, e, r, s, Same.refl _, e2, fun _ _ _ h => h, semS.bnd e h⟩
    | ow o =>
      cases o with
      | lst ds =>
        obtain ⟨p, ho, e1, e2, e3, e4⟩ := r.ow i _ g
        rw [q'] at e1
        cases e1
        cases ho with
        | lst vs =>
          have e : VL.hard (.rf i) Γ = .ok (.list ds) (st Γ i (.va (.list ds))) := by unfold VL.hard; simp only [g]
          have sm : Same H0 (upd H0 p (.lst vs)) := fun b o q => by rw [upd_ne (ne_of_none q e2)]; exact q
          have nw : ¬ Ow (st Γ i .no) σ p := not_ow r g q' (fun o z => nomatch z)
          have r1 : Rep X (st (st Γ i .no) i (.va (.list ds))) (upd H0 p (.lst vs)) σ H := (r.drop.freeze (ds := ds) e3 nw e2).putV q' (.lst upd_same (VdAll.mono sm _ _ e4))
          have e5 : st (st Γ i .no) i (.va (.list ds)) = st Γ i (.va (.list ds)) := by
            clear r s rs h nw r1 g q' e q
            induction Γ generalizing i with
            | nil => cases i <;> rfl
            | cons a b ih =>
              cases i with
              | zero => rfl
              | succ i => simp only [st, ih]
          rw [e5] at r1
          refine ⟨.list ds, _, upd H0 p (.lst vs), e, r1, ⟨s.fr.trans sm, fun b hb => ?_, s.ke, fun j o hj => s.sl j o (gt_keep hj (fun o z => by cases z)), s.dm⟩, sm, .lst upd_same (VdAll.mono sm _ _ e4), fun b ws hb h0 => ?_, semS.bnd e h⟩
          · by_cases eb : b = p
            · rw [eb]; exact .inr (.inr (s.ow p ⟨i, _, g, q'⟩))
            · rw [upd_ne eb] at hb; exact s.nf b hb
          · by_cases eb : b = p
            · subst eb
              rw [e3] at hb
              cases hb
              exact .inr upd_same
            · rw [upd_ne eb]; exact h0
        | _ => exact False.elim e4
      | _ =>
        obtain ⟨a, Γ1, e⟩ := semS.ok (by intro c z; unfold VL.hard; simp only [g]; simp) h
        unfold VL.hard at e
        simp only [g] at e
        cases e
    | _ =>
      obtain ⟨a, Γ1, e⟩ := semS.ok (by intro c z; unfold VL.hard; simp only [g]; simp) h
      unfold VL.hard at e
      simp only [g] at e
      cases e
theorem RepW.keep {Hs H01 : Hp} {o : Od} {v : V} (sm : Same H0 H01) (k : ∀ p vs, H p = some (.lst vs) → (H0 p = none ∨ H0 p = some (.lst vs)) → (H01 p = none ∨ H01 p = some (.lst vs))) (h : RepW Hs σ H0 H o v) : RepW Hs σ H01 H o v := by
  cases o with
  | d d => exact Vd.mono sm d v h
  | rf i => exact h
  | fl ds =>
    obtain ⟨a, vs, h1, h2, h3, h4, h5⟩ := h
    exact ⟨a, vs, h1, h2, k a vs h4 h3, h4, VdAll.mono sm ds vs h5⟩
def RepWs (Hs : Hp) (σ : St) (H0 H : Hp) : List Od → List V → Prop
  | [], vs => vs = []
  | o :: os, vs => ∃ v r, vs = v :: r ∧ RepW Hs σ H0 H o v ∧ RepWs Hs σ H0 H os r
theorem RepOds.weak {Hs : Hp} : ∀ {os : List Od} {vs : List V}, RepOds Hs σ H0 H os vs → RepWs Hs σ H0 H os vs
  | [], _, h => h
  | o :: os, _, ⟨v, r, e, h1, h2⟩ => ⟨v, r, e, h1.weak, RepOds.weak h2⟩
theorem RepWs.keep {Hs H01 : Hp} (sm : Same H0 H01) (k : ∀ p vs, H p = some (.lst vs) → (H0 p = none ∨ H0 p = some (.lst vs)) → (H01 p = none ∨ H01 p = some (.lst vs))) : ∀ {os : List Od} {vs : List V}, RepWs Hs σ H0 H os vs → RepWs Hs σ H01 H os vs
  | [], _, h => h
  | o :: os, _, ⟨v, r, e, h1, h2⟩ => ⟨v, r, e, h1.keep sm k, RepWs.keep sm k h2⟩
theorem bnd_assoc {γ : Type} (m : M α) (f : α → M β) (g : β → M γ) : VL.bnd (VL.bnd m f) g = VL.bnd m fun x => VL.bnd (f x) g := by
  funext Γ
  unfold VL.bnd
  cases m Γ <;> rfl
theorem ret_bnd (a : α) (f : α → M β) : VL.bnd (VL.ret a) f = f a := rfl
/-- handing several on -/
theorem hards_ok {Γs : VL.Env} {H0s Hs : Hp} (rs : Rep X Γs H0s σ Hs) {K : β → VL.Env → Hp → Hp → Prop} : ∀ {os : List Od} {vs : List V} {f : List D → M β} {Γ : VL.Env} {H0 : Hp}, Rep X Γ H0 σ H → StE Γs σ H0s Hs Γ H0 H → RepWs Hs σ H0 H os vs →
    semS X W Γs H0s σ Hs (VL.bnd (VL.hards os) f Γ) K → ∃ ds Γ1 H01, Rep X Γ1 H01 σ H ∧ StE Γs σ H0s Hs Γ1 H01 H ∧ Same H0 H01 ∧ VdAll H01 vs ds ∧ semS X W Γs H0s σ Hs (f ds Γ1) K
  | [], vs, f, Γ, H0, r, s, q, h => by
    have q' : vs = [] := q
    subst q'
    exact ⟨[], Γ, H0, r, s, Same.refl _, .nil, h⟩
  | o :: os, vs, f, Γ, H0, r, s, q, h => by
    obtain ⟨v, t, e, q1, q2⟩ := q
    subst e
    unfold VL.hards at h
    rw [bnd_assoc] at h
    obtain ⟨d, Γ1, H01, _, r1, s1, sm, hv, k, h1⟩ := hard_ok r s q1 rs h
    rw [bnd_assoc] at h1
    obtain ⟨ds, Γ2, H02, r2, s2, sm2, hvs, h2⟩ := hards_ok rs (f := fun xs => VL.bnd (VL.ret (d :: xs)) f) r1 s1 (q2.keep sm k) h1
    exact ⟨d :: ds, Γ2, H02, r2, s2, sm.trans sm2, .cons (Vd.mono sm2 _ _ hv) hvs, h2⟩
end
theorem _root_.L2.PE.imp {X : Cx} {e : Expr} {t t' : TE} (h : PE X e t) (k : ∀ σ H Q, t' σ H Q → t σ H Q) : PE X e t' := ⟨fun pins s σ H Q I q => h.run pins s σ H Q I (k σ H Q q)⟩
theorem _root_.L2.PT.imp {X : Cx} {e : Expr} {t t' : TT} (h : PT X e t) (k : ∀ σ H Q, t' σ H Q → t σ H Q) : PT X e t' := ⟨fun pins s σ H Q I q => h.run pins s σ H Q I (k σ H Q q)⟩
theorem _root_.L2.PW.imp {X : Cx} {e : Expr} {t t' : TT} (h : PW X e t) (k : ∀ σ H Q, t' σ H Q → t σ H Q) : PW X e t' := ⟨fun wh pins s σ H Q I q => h.run wh pins s σ H Q I (k σ H Q q)⟩
theorem _root_.L2.PA.imp {X : Cx} {es : List Expr} {t t' : TA} (h : PA X es t) (k : ∀ σ H Q, t' σ H Q → t σ H Q) : PA X es t' := ⟨fun pos pins s σ H Q I q => h.run pos pins s σ H Q I (k σ H Q q)⟩
theorem _root_.L2.PS.imp {X : Cx} {st : Stmt} {t t' : TS} (h : PS X st t) (k : ∀ D σ H, t' D σ H → t D σ H) : PS X st t' := ⟨fun pins s σ H D I q => h.run pins s σ H D I (k D σ H q)⟩
theorem _root_.L2.PSs.imp {X : Cx} {st : List Stmt} {t t' : TS} (h : PSs X st t) (k : ∀ D σ H, t' D σ H → t D σ H) : PSs X st t' := ⟨fun pins s σ H D I q => h.run pins s σ H D I (k D σ H q)⟩

/-- the heap has grown by new objects, the frozen part too -/
structure Grow (H0 H H0' H' : Hp) : Prop where
  fr : Same H0 H0'
  sm : Same H H'
  nf : ∀ b, H0' b ≠ none → H0 b ≠ none ∨ H b = none
  s2 : Same H0' H'
theorem Grow.refl {H0 H : Hp} (s : Same H0 H) : Grow H0 H H0 H := ⟨Same.refl _, Same.refl _, fun _ h => .inl h, s⟩
theorem same_new {H : Hp} {p : Addr} {o : HO} (h : H p = none) : Same H (upd H p o) := fun b x e => by rw [upd_ne (ne_of_none e h)]; exact e
theorem same_upd2 {H0 H : Hp} {p : Addr} {o : HO} (s : Same H0 H) : Same (upd H0 p o) (upd H p o) := fun b x e => by
  by_cases hb : b = p
  · subst hb; rw [upd_same] at e ⊢; exact e
  · rw [upd_ne hb] at e ⊢; exact s b x e
theorem Grow.new {H0 H : Hp} {p : Addr} {o : HO} (s : Same H0 H) (h : H p = none) : Grow H0 H (upd H0 p o) (upd H p o) :=
  ⟨same_new (s.free h), same_new h, fun b hb => by
    by_cases e : b = p
    · subst e; exact .inr h
    · rw [upd_ne e] at hb; exact .inl hb, same_upd2 s⟩
theorem Grow.tmp {H0 H : Hp} {p : Addr} {o : HO} (s : Same H0 H) (h : H p = none) : Grow H0 H H0 (upd H p o) :=
  ⟨Same.refl _, same_new h, fun b hb => .inl hb, s.trans (same_new h)⟩
section
variable {X : Ky} {Γ : VL.Env} {σ : St} {H0 H H0' H' : Hp}
theorem Grow.ste (g : Grow H0 H H0' H') : StE Γ σ H0 H Γ H0' H' :=
  ⟨g.fr, fun b h => (g.nf b h).elim .inl fun z => .inr (.inl z), fun b o h _ => g.sm b o h, fun _ o h => ⟨o, h⟩, fun b h => by
    cases q : H b with
    | none => exact absurd q h
    | some o => rw [g.sm b o q]; simp⟩
theorem RepO.mono (s : Same H0 H0') {o : Own} {ho : HO} (h : RepO H0 o ho) : RepO H0' o ho := by
  cases o with
  | lst ds =>
    cases ho with
    | lst vs => exact VdAll.mono s ds vs h
    | _ => exact h
  | dk kvs =>
    cases ho with
    | dK ps => exact Paired.mapP (show Paired _ kvs ps from h) fun p q z => ⟨z.1, Vd.mono s _ _ z.2⟩
    | _ => exact h
  | dt kvs =>
    cases ho with
    | dT ps => exact Paired.mapP (show Paired _ kvs ps from h) fun p q z => ⟨z.1, Vd.mono s _ _ z.2⟩
    | _ => exact h
theorem Rep.grow (r : Rep X Γ H0 σ H) (g : Grow H0 H H0' H') : Rep X Γ H0' σ H' where
  len := r.len
  same := g.s2
  va := fun i d e => let ⟨v, h1, h2⟩ := r.va i d e; ⟨v, h1, Vd.mono g.fr d v h2⟩
  ow := fun i o e => by
    obtain ⟨a, ho, h1, h2, h3, h4⟩ := r.ow i o e
    refine ⟨a, ho, h1, ?_, g.sm _ _ h3, h4.mono g.fr⟩
    cases q : H0' a with
    | none => rfl
    | some u =>
      rcases g.nf a (by rw [q]; simp) with z | z
      · exact absurd h2 z
      · rw [h3] at z; cases z
  inj := r.inj
  xc := r.xc
  sc := fun i ns e => let ⟨a, h1, h2⟩ := r.sc i ns e; ⟨a, h1, g.fr.seq h2⟩
end

/-! ### an operation by its data -/
/-- what comes of an operation: a datum that stands, or a new list that is nobody's -/
def OdQ (H0 H : Hp) (o : Od) (Q : VK) : Prop := ∀ v H0' H', Grow H0 H H0' H' → RepOd H [] H0' H' o v → Q v H'
theorem OdQ.datum {H0 H : Hp} {d : D} {Q : VK} (s : Same H0 H) (h : OdQ H0 H (.d d) Q) {v : V} (q : Vd H0 v d) : Q v H := h v H0 H (Grow.refl s) q
theorem OdQ.grown {H0 H H0' H' : Hp} {d : D} {Q : VK} (h : OdQ H0 H (.d d) Q) (g : Grow H0 H H0' H') {v : V} (q : Vd H0' v d) : Q v H' := h v H0' H' g q
theorem OdQ.lst {H0 H : Hp} {ds : List D} {vs : List V} {Q : VK} (s : Same H0 H) (h : OdQ H0 H (.fl ds) Q) {p : Addr} (n : H p = none) (q : VdAll H0 vs ds) : Q (.ref p) (upd H p (.lst vs)) :=
  h _ H0 _ (Grow.tmp s n) ⟨p, vs, rfl, n, s.free n, upd_same, q⟩
theorem OdQ.tup {H0 H : Hp} {ds : List D} {vs : List V} {Q : VK} (s : Same H0 H) (h : OdQ H0 H (.d (.tuple ds)) Q) {p : Addr} (n : H p = none) (q : VdAll H0 vs ds) : Q (.ref p) (upd H p (.tup vs)) :=
  h _ _ _ (Grow.new s n) (.tup upd_same (VdAll.mono (same_new (s.free n)) ds vs q))
theorem RepOd.from {Hs Hs' : Hp} {σ : St} {H0 H : Hp} {o : Od} {v : V} (n : ∀ b, Hs b = none → Hs' b = none) (h : RepOd Hs [] H0 H o v) : RepOd Hs' σ H0 H o v := by
  cases o with
  | d d => exact h
  | rf i => cases h
  | fl ds =>
    obtain ⟨p, vs, e, h1, h2⟩ := h
    exact ⟨p, vs, e, n p h1, h2⟩
def rOp (g : D → D → Option Od) : R2 := fun x y H Q => ∃ H0 dx dy o, Same H0 H ∧ SV H0 H x dx ∧ SV H0 H y dy ∧ g dx dy = some o ∧ OdQ H0 H o Q
abbrev OpD (X : Cx) (f : Value → Value → Sem Value) (g : D → D → Option Od) : Prop := OpR X f (rOp g)
def rCall (g : List D → Option Od) : List V → Hp → VK → Prop := fun vs H Q => ∃ H0 ds o, Same H0 H ∧ Paired (fun d v => SV H0 H v d) ds vs ∧ g ds = some o ∧ OdQ H0 H o Q
abbrev CallD (X : Cx) (f : Value) (g : List D → Option Od) : Prop := CallR X f (rCall g)
end VL

/-! VC: operations, comparisons, built-ins, by their data. -/
namespace VL
open PySem PySem.Spec PyProof.Rows L2
section
variable {X : Cx}

theorem opd_add : OpD X (binaryOp .Add) (fun a b => (addD a b).map odN) := by
  intro pins s σ H x y v u Q I rx ry h
  obtain ⟨H0, dx, dy, o, sm, hx, hy, e, q⟩ := h
  obtain ⟨d, e1, rfl⟩ := Option.map_eq_some_iff.mp e
  cases dx <;> cases dy <;> simp only [addD, reduceCtorEq] at e1
  · rename_i i j
    cases e1
    exact op_add pins s σ H x y v u Q I rx ry ⟨i, j, hx.int, hy.int, q.datum sm (.int _)⟩
  · rename_i a b
    split at e1 <;> cases e1
    rename_i hz
    exact op_add_str pins s σ H x y v u Q I rx ry ⟨a, b, hx.str, hy.str, by rw [sizeLine_eq]; exact hz, q.datum sm (.str _)⟩
  · rename_i xs ys
    split at e1 <;> cases e1
    rename_i hz
    obtain ⟨a, vs, rfl, ea, qa⟩ := hx.list sm
    obtain ⟨b, ws, rfl, eb, qb⟩ := hy.list sm
    exact op_cat pins s σ H _ _ v u Q I rx ry ⟨a, b, vs, ws, rfl, rfl, ea, eb, by rw [sizeLine_eq, qa.length, qb.length]; exact hz, fun p hp => q.lst sm hp (qa.append qb)⟩
  · rename_i xs ys
    split at e1 <;> cases e1
    rename_i hz
    obtain ⟨a, vs, rfl, ea, qa⟩ := hx.tuple sm
    obtain ⟨b, ws, rfl, eb, qb⟩ := hy.tuple sm
    refine op_catA pins s σ H _ _ v u Q I rx ry ⟨a, b, vs, ws, rfl, rfl, SqT.of ea, SqT.of eb, by rw [sizeLine_eq, qa.length, qb.length]; exact hz, ?_⟩
    have new : ∀ p, H p = none → Q (.ref p) (upd H p (.tup (vs ++ ws))) := fun p hp => q.tup sm hp (qa.append qb)
    have lft : ys = [] → Vd H0 (.ref a) (.tuple xs) → Q (.ref a) H := fun e2 z => q.datum sm (by rw [e2, List.append_nil]; exact z)
    have rgt : xs = [] → Vd H0 (.ref b) (.tuple ys) → Q (.ref b) H := fun e2 z => q.datum sm (by rw [e2, List.nil_append]; exact z)
    have vx : Vd H0 (.ref a) (.tuple xs) := by
      rcases hx with hx | ⟨_, _, _, _, z, _⟩
      · exact hx
      · cases z
    have vy : Vd H0 (.ref b) (.tuple ys) := by
      rcases hy with hy | ⟨_, _, _, _, z, _⟩
      · exact hy
      · cases z
    have n1 : ws = [] → ys = [] := fun z => by
      have := qb.length
      rw [z] at this
      exact List.length_eq_zero_iff.mp this.symm
    have n2 : vs = [] → xs = [] := fun z => by
      have := qa.length
      rw [z] at this
      exact List.length_eq_zero_iff.mp this.symm
    first
      | exact ⟨fun z => rgt (n2 z) vy, fun _ z => lft (n1 z) vx, fun _ _ => new⟩
      | exact ⟨fun z => lft (n1 z) vx, fun z => rgt (n2 z) vy, fun _ _ => new⟩
      | exact ⟨fun z => rgt (n2 z) vy, fun z => lft (n1 z) vx, fun _ _ => new⟩
theorem opd_sub : OpD X (binaryOp .Sub) (fun a b => (subD a b).map odN) := by
  intro pins s σ H x y v u Q I rx ry h
  obtain ⟨H0, dx, dy, o, sm, hx, hy, e, q⟩ := h
  obtain ⟨d, e1, rfl⟩ := Option.map_eq_some_iff.mp e
  cases dx <;> cases dy <;> simp only [subD, reduceCtorEq] at e1
  rename_i i j
  cases e1
  exact op_sub pins s σ H x y v u Q I rx ry ⟨i, j, hx.int, hy.int, q.datum sm (.int _)⟩
theorem small64_iff {a : Int} (h : small64 a = true) : -(2 ^ 64) < a ∧ a < 2 ^ 64 := by
  unfold small64 at h
  simp only [Bool.and_eq_true, decide_eq_true_eq] at h
  exact ⟨by have := h.1; omega, by have := h.2; omega⟩
theorem op_mul_str : OpR X (binaryOp .Mult) (fun x y H Q => ∃ a k, x = .str a ∧ y = .int k ∧ MulOk a k ∧ Q (.str (Txt.mul a k)) H) := by
  intro pins s σ H x y v u Q I rx ry h
  obtain ⟨a, k, rfl, rfl, hz, q⟩ := h
  obtain ⟨t, rfl⟩ := rx
  obtain ⟨t', rfl⟩ := ry
  exact SB.mul hz fun t' tk => ⟨.str (Txt.mul a k), H, I.tok _, ⟨_, rfl⟩, q⟩
theorem mulOk_of {a : Str} {k : Int} (h1 : -1000000 ≤ k) (h2 : k < 1000000) (h3 : a.length * k.toNat ≤ SZ) : MulOk a k := by
  refine ⟨?_, fun h4 _ => ?_, fun h4 _ => ?_⟩
  · rw [decide_eq_false (by omega), decide_eq_false (by omega)]; rfl
  · have h5 : (a.length : Int) * k ≤ 16777216 := by
      have h6 : ((a.length * k.toNat : Nat) : Int) ≤ 16777216 := by
        have : a.length * k.toNat ≤ 16777216 := h3
        omega
      rw [Int.natCast_mul, Int.toNat_of_nonneg (by omega)] at h6
      exact h6
    have h7 : (a.length : Int) ≤ (2 ^ 63 - 1) / k := (Int.le_ediv_iff_mul_le (by omega)).mpr (by omega)
    omega
  · unfold Builtin.Str.tooLong
    rw [sizeLine_eq]
    exact decide_eq_false (by have : a.length * k.toNat ≤ 16777216 := h3; omega)
theorem opd_mul : OpD X (binaryOp .Mult) (fun a b => (mulD a b).map odN) := by
  intro pins s σ H x y v u Q I rx ry h
  obtain ⟨H0, dx, dy, o, sm, hx, hy, e, q⟩ := h
  obtain ⟨d, e1, rfl⟩ := Option.map_eq_some_iff.mp e
  cases dx <;> cases dy <;> simp only [mulD, reduceCtorEq] at e1
  · rename_i i j
    split at e1 <;> cases e1
    rename_i hz
    rw [Bool.or_eq_true] at hz
    exact op_mul pins s σ H x y v u Q I rx ry ⟨i, j, hx.int, hy.int, hz.elim (fun z => .inl (small64_iff z)) (fun z => .inr (small64_iff z)), q.datum sm (.int _)⟩
  · rename_i a k
    split at e1 <;> cases e1
    rename_i hz
    simp only [Bool.and_eq_true, decide_eq_true_eq] at hz
    exact op_mul_str pins s σ H x y v u Q I rx ry ⟨a, k, hx.str, hy.int, mulOk_of hz.1.1 hz.1.2 hz.2, q.datum sm (.str _)⟩
  · rename_i xs k
    split at e1 <;> cases e1
    rename_i hz
    simp only [Bool.and_eq_true, decide_eq_true_eq] at hz
    obtain ⟨a, vs, rfl, ea, qa⟩ := hx.list sm
    exact op_rep pins s σ H _ _ v u Q I rx ry ⟨a, k, vs, rfl, hy.int, ea, by have := hz.1.1; omega, by have := hz.1.2; omega, by rw [sizeLine_eq, qa.length]; exact hz.2, fun p hp => q.lst sm hp (qa.rep _)⟩
theorem opd_fdiv : OpD X (binaryOp .FloorDiv) (fun a b => (fdivD a b).map odN) := by
  intro pins s σ H x y v u Q I rx ry h
  obtain ⟨H0, dx, dy, o, sm, hx, hy, e, q⟩ := h
  obtain ⟨d, e1, rfl⟩ := Option.map_eq_some_iff.mp e
  cases dx <;> cases dy <;> simp only [fdivD, reduceCtorEq] at e1
  rename_i i j
  split at e1 <;> cases e1
  rename_i hz
  simp only [Bool.and_eq_true, decide_eq_true_eq, bne_iff_ne, ne_eq] at hz
  exact op_fdivN pins s σ H x y v u Q I rx ry ⟨i, j, hx.int, hy.int, hz, q.datum sm (.int _)⟩
theorem opd_mod : OpD X (binaryOp .Mod) (fun a b => (modD a b).map odN) := by
  intro pins s σ H x y v u Q I rx ry h
  obtain ⟨H0, dx, dy, o, sm, hx, hy, e, q⟩ := h
  obtain ⟨d, e1, rfl⟩ := Option.map_eq_some_iff.mp e
  cases dx <;> cases dy <;> simp only [modD, reduceCtorEq] at e1
  rename_i i j
  split at e1 <;> cases e1
  rename_i hz
  simp only [bne_iff_ne, ne_eq] at hz
  exact op_modN pins s σ H x y v u Q I rx ry ⟨i, j, hx.int, hy.int, hz, q.datum sm (.int _)⟩
theorem opd_pow : OpD X (binaryOp .Pow) (fun a b => (powD a b).map odN) := by
  intro pins s σ H x y v u Q I rx ry h
  obtain ⟨H0, dx, dy, o, sm, hx, hy, e, q⟩ := h
  obtain ⟨d, e1, rfl⟩ := Option.map_eq_some_iff.mp e
  cases dx <;> cases dy <;> simp only [powD, reduceCtorEq] at e1
  rename_i i j
  split at e1 <;> cases e1
  rename_i hz
  simp only [Bool.and_eq_true, decide_eq_true_eq] at hz
  exact op_pow pins s σ H x y v u Q I rx ry ⟨i, j, hx.int, hy.int, ⟨hz.1.1, hz.1.2, by have := hz.2; omega⟩, q.datum sm (.int _)⟩
theorem opd_bin (op : Operator) : OpD X (binaryOp op) (fun a b => (binD op a b).map odN) := by
  cases op
  case Add => exact opd_add
  case Sub => exact opd_sub
  case Mult => exact opd_mul
  case FloorDiv => exact opd_fdiv
  case Mod => exact opd_mod
  case Pow => exact opd_pow
  all_goals
    intro pins s σ H x y v u Q I rx ry h
    obtain ⟨H0, dx, dy, o, sm, hx, hy, e, q⟩ := h
    cases e

/-! ### comparisons -/
theorem SV.reads {pins : List (Addr × Obj)} {σ : St} {H H0 : Hp} {s : Shared} {v : V} {d : D} {u : Value} (I : Inv X pins σ H s) (sm : Same H0 H) (h : SV H0 H v d) (r : RelV v u) : ∃ as, Reads s.heap u d as :=
  Dp.reads I d v u (Vd.dp d v (h.vd sm)) r
def bO (o : Option Bool) : Option Od := o.map fun k => .d (.bool k)
theorem opd_bool {f : Value → Value → Sem Value} {g : D → D → Option Bool} (h : ∀ (pins : List (Addr × Obj)) (s : Shared) (σ : St) (H H0 : Hp) (x y : V) (v u : Value) (dx dy : D) (k : Bool) (Q : VK), Inv X pins σ H s → RelV x v → RelV y u → Same H0 H → SV H0 H x dx → SV H0 H y dy → g dx dy = some k → Q (.bl k) H →
    wpAny (model X.prog X.w) X.A (f v u) (EP X pins σ Q) X.xe s) : OpD X f (fun a b => bO (g a b)) := by
  intro pins s σ H x y v u Q I rx ry hh
  obtain ⟨H0, dx, dy, o, sm, hx, hy, e, q⟩ := hh
  obtain ⟨k, e1, rfl⟩ := Option.map_eq_some_iff.mp e
  exact h pins s σ H H0 x y v u dx dy k Q I rx ry sm hx hy e1 (q.datum sm (.bl k))
theorem eqD_gen {a b : D} {k : Bool} (h : eqD a b = some k) : (∃ i j, a = .int i ∧ b = .int j ∧ k = (i == j)) ∨ (∃ i j, a = .str i ∧ b = .str j ∧ k = decide (i = j)) ∨ (∃ i j, a = .bool i ∧ b = .bool j ∧ k = (i == j)) ∨ (SeqAt.shaped a = true ∧ SeqAt.shaped b = true ∧ k = PyData.eqv a b) := by
  unfold eqD at h
  split at h
  · exact .inl ⟨_, _, rfl, rfl, (Option.some.inj h).symm⟩
  · exact .inr (.inl ⟨_, _, rfl, rfl, (Option.some.inj h).symm⟩)
  · exact .inr (.inr (.inl ⟨_, _, rfl, rfl, (Option.some.inj h).symm⟩))
  · split at h
    · rename_i hz
      rw [Bool.and_eq_true] at hz
      exact .inr (.inr (.inr ⟨hz.1, hz.2, (Option.some.inj h).symm⟩))
    · cases h
theorem opd_eq (hu : X.A.units + 64 < cLine) : OpD X (compareOp .Eq) (fun a b => bO (eqD a b)) := by
  refine opd_bool fun pins s σ H H0 x y v u dx dy k Q I rx ry sm hx hy e q => ?_
  rcases eqD_gen e with ⟨i, j, rfl, rfl, rfl⟩ | ⟨i, j, rfl, rfl, rfl⟩ | ⟨i, j, rfl, rfl, rfl⟩ | ⟨h1, h2, rfl⟩
  · rw [hx.int] at rx; rw [hy.int] at ry
    exact op_eq pins s σ H _ _ v u Q I rx ry ⟨rfl, by rw [dec_int]; exact q⟩
  · rw [hx.str] at rx; rw [hy.str] at ry
    refine op_eq pins s σ H _ _ v u Q I rx ry ⟨rfl, ?_⟩
    rw [show decide (V.str i = V.str j) = decide (i = j) by simp]
    exact q
  · rw [hx.bool] at rx; rw [hy.bool] at ry
    exact op_eq pins s σ H _ _ v u Q I rx ry ⟨rfl, by rw [dec_bl]; exact q⟩
  · exact op_eqD hu pins s σ H x y v u Q I rx ry ⟨dx, dy, Vd.dp _ _ (hx.vd sm), Vd.dp _ _ (hy.vd sm), h1, h2, q⟩
theorem notO_some {o : Option Bool} {k : Bool} (h : notO o = some k) : ∃ j, o = some j ∧ k = !j := by
  unfold notO at h
  cases o with
  | none => cases h
  | some j => exact ⟨j, rfl, (Option.some.inj h).symm⟩
theorem opd_ne (hu : X.A.units + 64 < cLine) : OpD X (compareOp .NotEq) (fun a b => bO (notO (eqD a b))) := by
  refine opd_bool fun pins s σ H H0 x y v u dx dy k Q I rx ry sm hx hy e q => ?_
  obtain ⟨k', e', rfl⟩ := notO_some e
  rcases eqD_gen e' with ⟨i, j, rfl, rfl, rfl⟩ | ⟨i, j, rfl, rfl, rfl⟩ | ⟨i, j, rfl, rfl, rfl⟩ | ⟨h1, h2, rfl⟩
  · rw [hx.int] at rx; rw [hy.int] at ry
    exact op_ne pins s σ H _ _ v u Q I rx ry ⟨rfl, by rw [dec_int]; exact q⟩
  · rw [hx.str] at rx; rw [hy.str] at ry
    refine op_ne pins s σ H _ _ v u Q I rx ry ⟨rfl, ?_⟩
    rw [show decide (V.str i = V.str j) = decide (i = j) by simp]
    exact q
  · rw [hx.bool] at rx; rw [hy.bool] at ry
    exact op_ne pins s σ H _ _ v u Q I rx ry ⟨rfl, by rw [dec_bl]; exact q⟩
  · exact op_neD hu pins s σ H x y v u Q I rx ry ⟨dx, dy, Vd.dp _ _ (hx.vd sm), Vd.dp _ _ (hy.vd sm), h1, h2, q⟩
theorem cmpOk_iff {a b : D} (h : cmpOk a b = true) : PySem.W.alike a b = true ∧ a ≠ .none ∧ a.depth ≤ 60 := by
  unfold cmpOk at h
  simp only [Bool.and_eq_true, decide_eq_true_eq] at h
  refine ⟨h.1.1, fun z => ?_, h.2⟩
  subst z
  exact Bool.noConfusion h.1.2
theorem room_cmp {A : Around} {a b : D} (hu : A.units + 64 < cLine) (h : a.depth ≤ 60) : A.units + min a.depth b.depth < cLine := by
  have := Nat.min_le_left a.depth b.depth
  omega
theorem room_cmp' {A : Around} {a b : D} (hu : A.units + 64 < cLine) (h : a.depth ≤ 60) : A.units + min b.depth a.depth < cLine := by
  have := Nat.min_le_right b.depth a.depth
  omega
theorem fin_b {pins : List (Addr × Obj)} {σ : St} {H : Hp} {s : Shared} {Q : VK} {k : Bool} (I : Inv X pins σ H s) (q : Q (.bl k) H) : EP X pins σ Q (.bool k) s := ⟨.bl k, H, I, rfl, q⟩
theorem opd_lt (hu : X.A.units + 64 < cLine) : OpD X (compareOp .Lt) (fun a b => bO (ltD a b)) := by
  refine opd_bool fun pins s σ H H0 x y v u dx dy k Q I rx ry sm hx hy e q => ?_
  unfold ltD at e
  split at e
  · cases e
    exact op_lt pins s σ H _ _ v u Q I rx ry ⟨_, _, hx.int, hy.int, q⟩
  · split at e <;> cases e
    rename_i hz
    obtain ⟨h1, h2, h3⟩ := cmpOk_iff hz
    obtain ⟨as, ra⟩ := hx.reads I sm rx
    obtain ⟨bs, rb⟩ := hy.reads I sm ry
    exact PySem.W.lt_data ra rb h1 h2 (room_cmp hu h3) (fin_b I q)
theorem opd_le (hu : X.A.units + 64 < cLine) : OpD X (compareOp .LtE) (fun a b => bO (leD a b)) := by
  refine opd_bool fun pins s σ H H0 x y v u dx dy k Q I rx ry sm hx hy e q => ?_
  unfold leD at e
  split at e
  · cases e
    exact op_le pins s σ H _ _ v u Q I rx ry ⟨_, _, hx.int, hy.int, q⟩
  · split at e <;> cases e
    rename_i hz
    obtain ⟨h1, h2, h3⟩ := cmpOk_iff hz
    obtain ⟨as, ra⟩ := hx.reads I sm rx
    obtain ⟨bs, rb⟩ := hy.reads I sm ry
    exact PySem.W.le_data ra rb h1 h2 (room_cmp hu h3) (fin_b I q)
theorem opd_gt (hu : X.A.units + 64 < cLine) : OpD X (compareOp .Gt) (fun a b => bO (gtD a b)) := by
  refine opd_bool fun pins s σ H H0 x y v u dx dy k Q I rx ry sm hx hy e q => ?_
  unfold gtD at e
  split at e
  · cases e
    exact op_gt pins s σ H _ _ v u Q I rx ry ⟨_, _, hx.int, hy.int, q⟩
  · split at e <;> cases e
    rename_i hz
    obtain ⟨h1, h2, h3⟩ := cmpOk_iff hz
    obtain ⟨as, ra⟩ := hx.reads I sm rx
    obtain ⟨bs, rb⟩ := hy.reads I sm ry
    exact PySem.W.gt_data ra rb h1 h2 (room_cmp hu h3) (fin_b I q)
theorem opd_ge (hu : X.A.units + 64 < cLine) : OpD X (compareOp .GtE) (fun a b => bO (geD a b)) := by
  refine opd_bool fun pins s σ H H0 x y v u dx dy k Q I rx ry sm hx hy e q => ?_
  unfold geD at e
  split at e
  · cases e
    exact op_ge pins s σ H _ _ v u Q I rx ry ⟨_, _, hx.int, hy.int, q⟩
  · split at e <;> cases e
    rename_i hz
    obtain ⟨h1, h2, h3⟩ := cmpOk_iff hz
    obtain ⟨as, ra⟩ := hx.reads I sm rx
    obtain ⟨bs, rb⟩ := hy.reads I sm ry
    exact PySem.W.ge_data ra rb h1 h2 (room_cmp hu h3) (fin_b I q)
def noneB : D → Bool
  | .none => true
  | _ => false
theorem isD_gen {a b : D} {k : Bool} (h : isD a b = some k) : (b = .none ∧ k = noneB a) ∨ ∃ i j, a = .bool i ∧ b = .bool j ∧ k = (i == j) := by
  cases b with
  | none => cases a <;> exact .inl ⟨rfl, (Option.some.inj h).symm⟩
  | bool j =>
    cases a with
    | bool i => exact .inr ⟨i, j, rfl, rfl, (Option.some.inj h).symm⟩
    | _ => cases h
  | _ => cases a <;> cases h
theorem SV.is_none {H0 H : Hp} {x : V} {a : D} (h : SV H0 H x a) : decide (x = .non) = noneB a := by
  rcases h with h | ⟨_, _, _, rfl, rfl, _⟩
  · cases h <;> simp [noneB]
  · simp [noneB]
theorem opd_is : OpD X (compareOp .Is) (fun a b => bO (isD a b)) := by
  refine opd_bool fun pins s σ H H0 x y v u dx dy k Q I rx ry sm hx hy e q => ?_
  rcases isD_gen e with ⟨rfl, rfl⟩ | ⟨i, j, rfl, rfl, rfl⟩
  · exact op_isN pins s σ H _ _ v u Q I rx ry ⟨hy.non, by rw [hx.is_none]; exact q⟩
  · refine op_isBl pins s σ H _ _ v u Q I rx ry ⟨i, j, hx.bool, hy.bool, ?_⟩
    rw [show decide (i = j) = (i == j) by cases i <;> cases j <;> rfl]
    exact q
theorem opd_isnot : OpD X (compareOp .IsNot) (fun a b => bO (notO (isD a b))) := by
  refine opd_bool fun pins s σ H H0 x y v u dx dy k Q I rx ry sm hx hy e q => ?_
  obtain ⟨k', e', rfl⟩ := notO_some e
  rcases isD_gen e' with ⟨rfl, rfl⟩ | ⟨i, j, rfl, rfl, rfl⟩
  · exact op_notN pins s σ H _ _ v u Q I rx ry ⟨hy.non, by rw [hx.is_none]; exact q⟩
  · refine op_notBl pins s σ H _ _ v u Q I rx ry ⟨i, j, hx.bool, hy.bool, ?_⟩
    rw [show decide (i = j) = (i == j) by cases i <;> cases j <;> rfl]
    exact q
theorem str_one {x : Str} (h : x.length = 1) : ∃ c, x = ⟨#[c]⟩ := by
  obtain ⟨⟨l⟩⟩ := x
  match l, h with
  | [c], _ => exact ⟨c, rfl⟩
theorem inD_gen {a b : D} {k : Bool} (h : inD a b = some k) : (∃ ds, b = .list ds ∧ SeqAt.shaped a = true ∧ SeqAt.shaped (.list ds) = true ∧ k = ds.any fun z => PyData.eqv z a) ∨
    (∃ ds, b = .tuple ds ∧ SeqAt.shaped a = true ∧ SeqAt.shaped (.tuple ds) = true ∧ k = ds.any fun z => PyData.eqv z a) ∨ ∃ c t, a = .str ⟨#[c]⟩ ∧ b = .str t ∧ k = decide (c ∈ t.cps.toList) := by
  unfold inD at h
  split at h
  · split at h
    · rename_i hz
      rw [Bool.and_eq_true] at hz
      exact .inl ⟨_, rfl, hz.1, hz.2, (Option.some.inj h).symm⟩
    · cases h
  · split at h
    · rename_i hz
      rw [Bool.and_eq_true] at hz
      exact .inr (.inl ⟨_, rfl, hz.1, hz.2, (Option.some.inj h).symm⟩)
    · cases h
  · rename_i t
    cases a with
    | str x =>
      dsimp only at h
      split at h
      · rename_i hz
        obtain ⟨c, rfl⟩ := str_one hz
        refine .inr (.inr ⟨c, t, rfl, rfl, ?_⟩)
        have h' := (Option.some.inj h).symm
        rw [h']
        simp
      · cases h
    | _ => cases h
  · cases h
theorem opd_in (hu : X.A.units + 65 < cLine) : OpD X (compareOp .In) (fun a b => bO (inD a b)) := by
  refine opd_bool fun pins s σ H H0 x y v u dx dy k Q I rx ry sm hx hy e q => ?_
  rcases inD_gen e with ⟨ds, rfl, h1, h2, rfl⟩ | ⟨ds, rfl, h1, h2, rfl⟩ | ⟨c, t, rfl, rfl, rfl⟩
  · exact op_inD hu pins s σ H _ _ v u Q I rx ry ⟨dx, ds, Vd.dp _ _ (hx.vd sm), Vd.dp _ _ (hy.vd sm), h1, h2, q⟩
  · obtain ⟨as, ra⟩ := hx.reads I sm rx
    obtain ⟨bs, rb⟩ := hy.reads I sm ry
    exact SeqAt.in_tuple_reads rb ra (SeqAt.canLay_of_shaped h2) (SeqAt.canLay_of_shaped h1) (room_in_shaped h1 hu) (fin_b I q)
  · exact op_in_sign pins s σ H _ _ v u Q I rx ry ⟨c, t, hx.str, hy.str, q⟩
theorem opd_notin (hu : X.A.units + 65 < cLine) : OpD X (compareOp .NotIn) (fun a b => bO (notO (inD a b))) := by
  refine opd_bool fun pins s σ H H0 x y v u dx dy k Q I rx ry sm hx hy e q => ?_
  obtain ⟨k', e', rfl⟩ := notO_some e
  rcases inD_gen e' with ⟨ds, rfl, h1, h2, rfl⟩ | ⟨ds, rfl, h1, h2, rfl⟩ | ⟨c, t, rfl, rfl, rfl⟩
  · exact op_notInD hu pins s σ H _ _ v u Q I rx ry ⟨dx, ds, Vd.dp _ _ (hx.vd sm), Vd.dp _ _ (hy.vd sm), h1, h2, q⟩
  · obtain ⟨as, ra⟩ := hx.reads I sm rx
    obtain ⟨bs, rb⟩ := hy.reads I sm ry
    exact SeqAt.notIn_tuple_reads rb ra (SeqAt.canLay_of_shaped h2) (SeqAt.canLay_of_shaped h1) (room_in_shaped h1 hu) (fin_b I q)
  · exact op_notIn_sign pins s σ H _ _ v u Q I rx ry ⟨c, t, hx.str, hy.str, q⟩
theorem opd_cmp (hu : X.A.units + 65 < cLine) (op : CmpOp) : OpD X (compareOp op) (fun a b => bO (cmpD op a b)) := by
  have hu' : X.A.units + 64 < cLine := by omega
  cases op
  case Eq => exact opd_eq hu'
  case NotEq => exact opd_ne hu'
  case Lt => exact opd_lt hu'
  case LtE => exact opd_le hu'
  case Gt => exact opd_gt hu'
  case GtE => exact opd_ge hu'
  case Is => exact opd_is
  case IsNot => exact opd_isnot
  case In => exact opd_in hu
  case NotIn => exact opd_notin hu
end
end VL

/-! VD: sorting, items, slices, truth, built-in functions and types, by their data. -/
namespace VL
open PySem PySem.Spec PyProof.Rows L2

/-! ### insertion is the stable sort -/
theorem le_total : PySem.W.TotalLe leBy := PySem.W.sortLe_total (listOrd itemOrd) false (fun d : D => PySem.W.keyToks d)
theorem ins_perm (x : D) : ∀ l : List D, (insBy x l).Perm (x :: l)
  | [] => .refl _
  | y :: r => by
    unfold insBy
    split
    · exact ((ins_perm x r).cons y).trans (.swap x y r)
    · exact .refl _
theorem sort_perm : ∀ l : List D, (sortD l).Perm l
  | [] => .refl _
  | x :: r => (ins_perm x (sortD r)).trans ((sort_perm r).cons x)
theorem ins_pair (x : D) : ∀ l : List D, l.Pairwise (fun a b => leBy a b = true) → (insBy x l).Pairwise (fun a b => leBy a b = true)
  | [], _ => List.pairwise_singleton _ _
  | y :: r, h => by
    obtain ⟨h1, h2⟩ := List.pairwise_cons.mp h
    unfold insBy
    split
    · rename_i hlt
      refine List.pairwise_cons.mpr ⟨fun z hz => ?_, ins_pair x r h2⟩
      rcases List.mem_cons.mp ((ins_perm x r).mem_iff.mp hz) with e | hz
      · subst e
        rcases le_total.total y z with q | q
        · exact q
        · unfold leBy at q
          rw [hlt] at q
          cases q
      · exact h1 z hz
    · rename_i hlt
      have hxy : leBy x y = true := by
        unfold leBy
        cases q : PySem.W.dataLt y x with
        | true => exact absurd q hlt
        | false => rfl
      refine List.pairwise_cons.mpr ⟨fun z hz => ?_, h⟩
      rcases List.mem_cons.mp hz with e | hz
      · rw [e]; exact hxy
      · exact le_total.trans x y z hxy (h1 z hz)
theorem sort_pair : ∀ l : List D, (sortD l).Pairwise (fun a b => leBy a b = true)
  | [] => List.Pairwise.nil
  | x :: r => ins_pair x _ (sort_pair r)
theorem ins_filter (x c : D) : ∀ l : List D, (insBy x l).filter (PySem.W.sameRank leBy c) = (x :: l).filter (PySem.W.sameRank leBy c)
  | [] => rfl
  | y :: r => by
    unfold insBy
    split
    · rename_i hlt
      have ih := ins_filter x c r
      by_cases hx : PySem.W.sameRank leBy c x = true
      · have hy : ¬ PySem.W.sameRank leBy c y = true := fun hy => by
          unfold PySem.W.sameRank at hx hy
          rw [Bool.and_eq_true] at hx hy
          have := le_total.trans x c y hx.2 hy.1
          unfold leBy at this
          rw [hlt] at this
          cases this
        rw [List.filter_cons_of_neg hy, ih, List.filter_cons_of_pos hx, List.filter_cons_of_pos hx, List.filter_cons_of_neg hy]
      · rw [List.filter_cons_of_neg hx] at ih
        rw [List.filter_cons_of_neg hx]
        by_cases hy : PySem.W.sameRank leBy c y = true
        · rw [List.filter_cons_of_pos hy, List.filter_cons_of_pos hy, ih]
        · rw [List.filter_cons_of_neg hy, List.filter_cons_of_neg hy, ih]
    · rfl
theorem sort_filter (c : D) : ∀ l : List D, (sortD l).filter (PySem.W.sameRank leBy c) = l.filter (PySem.W.sameRank leBy c)
  | [] => rfl
  | x :: r => by
    have h := ins_filter x c (sortD r)
    have ih := sort_filter c r
    show (insBy x (sortD r)).filter _ = _
    rw [h]
    by_cases hx : PySem.W.sameRank leBy c x = true
    · rw [List.filter_cons_of_pos hx, List.filter_cons_of_pos hx, ih]
    · rw [List.filter_cons_of_neg hx, List.filter_cons_of_neg hx, ih]
theorem sort_eq (l : List D) : sortD l = l.mergeSort leBy := PySem.W.sort_unique le_total (sort_pair l) fun c => sort_filter c l

section
variable {X : Cx}
theorem pairs_of {H0 : Hp} : ∀ {vs : List V} {ds : List D}, VdAll H0 vs ds → ∃ bs : List (V × D), bs.map (·.1) = vs ∧ bs.map (·.2) = ds ∧ ∀ p ∈ bs, Vd H0 p.1 p.2
  | _, _, .nil => ⟨[], rfl, rfl, fun _ h => nomatch h⟩
  | _, _, .cons (v := v) (d := d) a b => by
    obtain ⟨bs, h1, h2, h3⟩ := pairs_of b
    refine ⟨(v, d) :: bs, by rw [List.map_cons, h1], by rw [List.map_cons, h2], fun p hp => ?_⟩
    rcases List.mem_cons.mp hp with e | hp
    · subst e; exact a
    · exact h3 p hp
theorem of_pairs {H0 : Hp} : ∀ bs : List (V × D), (∀ p ∈ bs, Vd H0 p.1 p.2) → VdAll H0 (bs.map (·.1)) (bs.map (·.2))
  | [], _ => .nil
  | p :: r, h => .cons (h p List.mem_cons_self) (of_pairs r fun q hq => h q (List.mem_cons_of_mem _ hq))
theorem each_vals : ∀ {bs : List (V × D)} {us : List Value}, Vals (bs.map (·.1)) us → PySem.W.EachIs (fun v (b : V × D) => RelV b.1 v) us bs
  | [], _, h => by cases h; exact .nil
  | p :: r, _, h => by
    cases h with
    | cons a b => exact .cons a (each_vals b)
theorem vals_each : ∀ {bs : List (V × D)} {us : List Value}, PySem.W.EachIs (fun v (b : V × D) => RelV b.1 v) us bs → Vals (bs.map (·.1)) us
  | _, _, .nil => .nil
  | _, _, .cons a b => .cons a (vals_each b)
theorem each_and {α β : Type} {P Q : α → β → Prop} : ∀ {xs : List α} {ys : List β}, PySem.W.EachIs P xs ys → (∀ x, ∀ y ∈ ys, P x y → Q x y) → PySem.W.EachIs Q xs ys
  | _, _, .nil, _ => .nil
  | _, _, .cons a b, h => .cons (h _ _ List.mem_cons_self a) (each_and b fun x y hy => h x y (List.mem_cons_of_mem _ hy))
theorem depth_le : ∀ {ds : List D} {d : D}, d ∈ ds → d.depth ≤ PyData.depthAll ds
  | x :: r, d, h => by
    rw [PyData.depthAll]
    rcases List.mem_cons.mp h with e | h
    · rw [e]; exact Nat.le_max_left _ _
    · exact Nat.le_trans (depth_le h) (Nat.le_max_right _ _)
theorem sortable_iff {ds : List D} (h : sortable ds = true) : PySem.W.AllAlike ds ∧ PySem.W.Sortable ds ∧ ∀ d ∈ ds, d.depth ≤ 60 := by
  unfold sortable at h
  rw [Bool.and_eq_true] at h
  obtain ⟨h1, h2⟩ := h
  refine ⟨fun a ha b hb => List.all_eq_true.mp (List.all_eq_true.mp h2 a ha) b hb, ?_, ?_⟩
  · cases ds with
    | nil => exact .inr fun d hd => nomatch hd
    | cons x r =>
      dsimp only at h1
      rw [Bool.and_eq_true] at h1
      have h1 := h1.1
      cases x with
      | none => cases h1
      | dict _ => cases h1
      | tuple ts =>
        refine .inl fun d hd => ?_
        have := List.all_eq_true.mp h1 d hd
        cases d with
        | tuple ws =>
          cases ws with
          | nil => cases this
          | cons y ys => exact ⟨y, ys, rfl⟩
        | _ => cases this
      | _ =>
        refine .inr fun d hd => ?_
        have := List.all_eq_true.mp h1 d hd
        refine ⟨fun z => ?_, fun xs z => ?_⟩
        · subst z; cases this
        · subst z; cases this
  · intro d hd
    cases ds with
    | nil => exact nomatch hd
    | cons x r =>
      dsimp only at h1
      rw [Bool.and_eq_true] at h1
      exact Nat.le_trans (depth_le hd) (of_decide_eq_true h1.2)
theorem call_sorted (hu : X.A.units + 64 < cLine) {pins : List (Addr × Obj)} {s : Shared} {σ : St} {H H0 : Hp} {a : Addr} {vs : List V} {ds : List D} {us : List Value} {Q : VK} (I : Inv X pins σ H s) (r : Vals [V.ref a] us) (sm : Same H0 H) (e : H a = some (.lst vs)) (q : VdAll H0 vs ds)
    (hz : ds.length ≤ SZ) (hs : sortable ds = true) (h : OdQ H0 H (.fl (sortD ds)) Q) : wpAny (model X.prog X.w) X.A (call (.builtin "sorted") us) (EP X pins σ Q) X.xe s := by
  obtain ⟨h1, h2, h3⟩ := sortable_iff hs
  obtain ⟨bs, rfl, rfl, hb⟩ := pairs_of q
  obtain ⟨its, rv, hl, _⟩ := I.list (SqL.of e)
  rw [Vals.ref1 r]
  have er : PySem.W.EachIs (fun v (b : V × D) => ∃ as, Reads s.heap v b.2 as) its bs := each_and (each_vals rv) fun u b hb' ru => Dp.reads I b.2 b.1 u (Vd.dp _ _ (Vd.mono sm _ _ (hb b hb'))) ru
  refine PySem.W.sorted_data (enc := fun b : V × D => b.2) hl.isList (each_vals rv) er h1 h2 (by rw [sizeLine_eq]; rw [List.length_map] at hz; exact hz) (fun b hb' => by
    have := h3 b.2 (List.mem_map.mpr ⟨b, hb', rfl⟩)
    omega) fun out hlen ho => ?_
  obtain ⟨ep, he'⟩ := PyProof.Rows.sortedAll_at s.heap its out.toArray
  have ev := vals_each ho
  have hmap : (bs.mergeSort (PySem.W.dataLe false fun b : V × D => b.2)).map (·.2) = sortD (bs.map (·.2)) := by
    rw [sort_eq]
    exact PySem.W.sort_maps (fun b : V × D => b.2) fun _ _ _ _ => rfl
  have hlen' : ((bs.mergeSort (PySem.W.dataLe false fun b : V × D => b.2)).map (·.1)).length ≤ sizeLine := by
    rw [List.length_map, List.length_mergeSort, sizeLine_eq]
    rw [List.length_map] at hz
    exact hz
  have hn : H (s.heap.objs.size + 1) = none := I.hok.fresh (Nat.le_succ _)
  refine ⟨.ref _, upd H (s.heap.objs.size + 1) (.lst ((bs.mergeSort (PySem.W.dataLe false fun b : V × D => b.2)).map (·.1))), I.laid (t' := s.toks) (fun _ _ => PyProof.Rows.sortedAll_old) (Nat.le_succ _) ⟨hlen', out, ep, ev, he'⟩, rfl, ?_⟩
  refine OdQ.lst sm h hn ?_
  rw [← hmap]
  exact of_pairs _ fun p hp => hb p ((List.mergeSort_perm bs _).mem_iff.mp hp)

/-! ### items, slices -/
theorem atI_vd {H : Hp} {vs : List V} {ds : List D} {i : Int} {d : D} (q : VdAll H vs ds) (h : atI ds i = some d) : ∃ v, atI vs i = some v ∧ Vd H v d := by
  unfold atI at h ⊢
  rw [q.length]
  cases e : ixN ds.length i with
  | none => rw [e] at h; cases h
  | some j =>
    rw [e] at h
    obtain ⟨v, h1, h2⟩ := q.get' (show ds[j]? = some d from h)
    exact ⟨v, h1, h2⟩
theorem ixd (X : Cx) : IxR X (rOp fun a b => (idxD a b).map Od.d) := by
  have base := ix_seq (X := X)
  intro value slice pins s σ H x y v u Q I rx ry h
  refine base value slice pins s σ H x y v u Q I rx ry ?_
  obtain ⟨H0, dx, dy, o, sm, hx, hy, e, q⟩ := h
  obtain ⟨d, e1, rfl⟩ := Option.map_eq_some_iff.mp e
  cases dx <;> cases dy <;> simp only [idxD, reduceCtorEq] at e1
  · rename_i z i
    split at e1
    · rename_i hz
      obtain ⟨c, e2, rfl⟩ := Option.map_eq_some_iff.mp e1
      exact .inr (.inr ⟨z, i, c, hx.str, hy.int, by rw [sizeLine_eq]; exact hz, e2, q.datum sm (.str _)⟩)
    · cases e1
  · rename_i ds i
    obtain ⟨a, vs, rfl, ea, qa⟩ := hx.list sm
    obtain ⟨w, h1, h2⟩ := atI_vd qa e1
    exact .inl ⟨a, vs, i, w, rfl, hy.int, SqL.of ea, h1, q.datum sm h2⟩
  · rename_i ds i
    obtain ⟨a, vs, rfl, ea, qa⟩ := hx.tuple sm
    obtain ⟨w, h1, h2⟩ := atI_vd qa e1
    exact .inr (.inl ⟨a, vs, i, w, rfl, hy.int, SqT.of ea, h1, q.datum sm h2⟩)
theorem cut_vd {H : Hp} {vs : List V} {ds : List D} (lo hi : Option Int) (q : VdAll H vs ds) : VdAll H (cutV vs lo hi) (cutL ds lo hi) := by
  unfold cutV cutL
  rw [q.length]
  exact (q.drop _).take _
def rSl (K : PySem.W.Frag) : V → Option Int → Option Int → Hp → VK → Prop := fun x lo hi H Q => ∃ H0 dx o, Same H0 H ∧ SV H0 H x dx ∧ (sliceD dx lo hi).map odN = some o ∧ OdQ H0 H o Q
theorem sld (X : Cx) : SlR X (rSl X.K) := by
  have base := (sl_list (X := X)).or sl_str
  intro pins s σ H x v vl vu lo hi sl Q I rx hs pl pu h
  refine base pins s σ H x v vl vu lo hi sl Q I rx hs pl pu ?_
  obtain ⟨H0, dx, o, sm, hx, e, q⟩ := h
  obtain ⟨d, e1, rfl⟩ := Option.map_eq_some_iff.mp e
  cases dx <;> simp only [sliceD, reduceCtorEq] at e1
  · rename_i z
    split at e1 <;> cases e1
    rename_i hz
    exact .inr ⟨z, hx.str, by rw [sizeLine_eq]; exact hz, q.datum sm (.str _)⟩
  · rename_i ds
    cases e1
    obtain ⟨a, vs, rfl, ea, qa⟩ := hx.list sm
    exact .inl ⟨a, vs, rfl, SqL.of ea, fun p hp => q.lst sm hp (cut_vd lo hi qa)⟩

/-! ### truth -/
theorem truv {H0 H : Hp} {v : V} {d : D} {k : Bool} (K : PySem.W.Frag) (sm : Same H0 H) (h : SV H0 H v d) (e : truthD d = some k) : TruV K v H k := by
  cases d with
  | none => rw [h.non]; cases e; rfl
  | bool b => rw [h.bool]; cases e; rfl
  | int i => rw [h.int]; cases e; rfl
  | str z =>
    rw [h.str]
    simp only [truthD] at e
    split at e <;> cases e
    rename_i hz
    exact ⟨by rw [sizeLine_eq]; exact hz, rfl⟩
  | list ds =>
    obtain ⟨a, vs, rfl, ea, qa⟩ := h.list sm
    cases e
    refine .inl ⟨vs, SqL.of ea, ?_⟩
    cases qa <;> rfl
  | tuple ds =>
    obtain ⟨a, vs, rfl, ea, qa⟩ := h.tuple sm
    cases e
    refine .inr (.inl ⟨vs, SqT.of ea, ?_⟩)
    cases qa <;> rfl
  | dict _ => cases e

/-! ### built-in functions -/
def rCall1 (b : Bf) : List V → Hp → VK → Prop := rCall fun ds => (bfD b ds).map odN
theorem paired1 {P : D → V → Prop} {d : D} {vs : List V} (h : Paired P [d] vs) : ∃ v, vs = [v] ∧ P d v := by
  cases h with
  | cons a b => cases b; exact ⟨_, rfl, a⟩
theorem paired2 {P : D → V → Prop} {d e : D} {vs : List V} (h : Paired P [d, e] vs) : ∃ v u, vs = [v, u] ∧ P d v ∧ P e u := by
  cases h with
  | cons a b =>
    cases b with
    | cons c f => cases f; exact ⟨_, _, rfl, a, c⟩
theorem bf1 {f : Value} {b : Bf} (h : ∀ (pins : List (Addr × Obj)) (s : Shared) (σ : St) (H H0 : Hp) (v : V) (us : List Value) (d : D) (r : D) (Q : VK), Inv X pins σ H s → Vals [v] us → Same H0 H → SV H0 H v d → bfD b [d] = some r → OdQ H0 H (odN r) Q → wpAny (model X.prog X.w) X.A (call f us) (EP X pins σ Q) X.xe s)
    (h2 : ∀ (pins : List (Addr × Obj)) (s : Shared) (σ : St) (H H0 : Hp) (v w : V) (us : List Value) (d e : D) (r : D) (Q : VK), Inv X pins σ H s → Vals [v, w] us → Same H0 H → SV H0 H v d → SV H0 H w e → bfD b [d, e] = some r → OdQ H0 H (odN r) Q → wpAny (model X.prog X.w) X.A (call f us) (EP X pins σ Q) X.xe s)
    (h3 : bfD b [] = none) (h4 : ∀ x y z r, bfD b (x :: y :: z :: r) = none) : CallR X f (rCall1 b) := by
  intro pins s σ H vs us Q I r hh
  obtain ⟨H0, ds, o, sm, hp, e, q⟩ := hh
  obtain ⟨d, e1, rfl⟩ := Option.map_eq_some_iff.mp e
  match ds, hp, e1 with
  | [], _, e1 => rw [h3] at e1; cases e1
  | [a], hp, e1 =>
    obtain ⟨v, rfl, hv⟩ := paired1 hp
    exact h pins s σ H H0 v us a d Q I r sm hv e1 q
  | [a, b], hp, e1 =>
    obtain ⟨v, w, rfl, hv, hw⟩ := paired2 hp
    exact h2 pins s σ H H0 v w us a b d Q I r sm hv hw e1 q
  | x :: y :: z :: r, _, e1 => rw [h4] at e1; cases e1
theorem bf_len : CallR X (.builtin "len") (rCall1 .len) := by
  refine bf1 (fun pins s σ H H0 v us d r Q I rv sm hv e q => ?_) (fun pins s σ H H0 v w us d e r Q I rv sm hv hw e1 q => ?_) rfl (fun x y z r => by cases x <;> first | rfl | (cases y <;> rfl))
  · cases d <;> simp only [bfD, reduceCtorEq] at e
    · split at e <;> cases e
      rename_i hz
      rw [hv.str] at rv
      exact call_len pins s σ H _ us Q I rv ⟨_, _, rfl, ⟨by rw [sizeLine_eq]; exact hz, rfl⟩, q.datum sm (.int _)⟩
    · cases e
      obtain ⟨a, ws, rfl, ea, qa⟩ := hv.list sm
      exact call_len pins s σ H _ us Q I rv ⟨_, _, rfl, .inl ⟨ws, SqL.of ea, rfl⟩, by rw [qa.length]; exact q.datum sm (.int _)⟩
    · cases e
      obtain ⟨a, ws, rfl, ea, qa⟩ := hv.tuple sm
      exact call_len pins s σ H _ us Q I rv ⟨_, _, rfl, .inr ⟨ws, SqT.of ea, rfl⟩, by rw [qa.length]; exact q.datum sm (.int _)⟩
  · cases d <;> cases e <;> simp [bfD] at e1
theorem bf_abs : CallR X (.builtin "abs") (rCall1 .abs) := by
  refine bf1 (fun pins s σ H H0 v us d r Q I rv sm hv e q => ?_) (fun pins s σ H H0 v w us d e r Q I rv sm hv hw e1 q => ?_) rfl (fun x y z r => by cases x <;> first | rfl | (cases y <;> rfl))
  · cases d <;> simp only [bfD, reduceCtorEq] at e
    cases e
    exact call_abs pins s σ H _ us Q I rv ⟨_, by rw [hv.int], q.datum sm (.int _)⟩
  · cases d <;> cases e <;> simp [bfD] at e1
theorem bf_int : CallR X (.type "int") (rCall1 .int) := by
  refine bf1 (fun pins s σ H H0 v us d r Q I rv sm hv e q => ?_) (fun pins s σ H H0 v w us d e r Q I rv sm hv hw e1 q => ?_) rfl (fun x y z r => by cases x <;> first | rfl | (cases y <;> rfl))
  · cases d <;> simp only [bfD, reduceCtorEq] at e
    · cases e
      exact call_int1 pins s σ H _ us Q I rv (.inr ⟨_, by rw [hv.bool], q.datum sm (.int _)⟩)
    · cases e
      exact call_int1 pins s σ H _ us Q I rv (.inl ⟨_, by rw [hv.int], q.datum sm (.int _)⟩)
  · cases d <;> cases e <;> simp [bfD] at e1
theorem bf_bool : CallR X (.type "bool") (rCall1 .bool) := by
  refine bf1 (fun pins s σ H H0 v us d r Q I rv sm hv e q => ?_) (fun pins s σ H H0 v w us d e r Q I rv sm hv hw e1 q => ?_) rfl (fun x y z r => by cases x <;> first | rfl | (cases y <;> rfl))
  · cases d <;> simp only [bfD, reduceCtorEq] at e
    · cases e
      exact call_bool1 pins s σ H _ us Q I rv (.inr ⟨_, by rw [hv.bool], q.datum sm (.bl _)⟩)
    · cases e
      exact call_bool1 pins s σ H _ us Q I rv (.inl ⟨_, by rw [hv.int], q.datum sm (.bl _)⟩)
    · cases e
      obtain ⟨a, ws, rfl, ea, qa⟩ := hv.list sm
      exact call_boolL pins s σ H _ us Q I rv ⟨a, ws, rfl, SqL.of ea, by
        have := q.datum sm (.bl _)
        cases qa <;> exact this⟩
  · cases d <;> cases e <;> simp [bfD] at e1
theorem bf_str : CallR X (.type "str") (rCall1 .str) := by
  refine bf1 (fun pins s σ H H0 v us d r Q I rv sm hv e q => ?_) (fun pins s σ H H0 v w us d e r Q I rv sm hv hw e1 q => ?_) rfl (fun x y z r => by cases x <;> first | rfl | (cases y <;> rfl))
  · cases d <;> simp only [bfD, reduceCtorEq] at e
    · split at e <;> cases e
      rename_i hz
      exact call_str_int pins s σ H _ us Q I rv ⟨_, by rw [hv.int], hz, q.datum sm (.str _)⟩
    · cases e
      exact SkE.call_str_str pins s σ H _ us Q I rv ⟨_, by rw [hv.str], q.datum sm (.str _)⟩
  · cases d <;> cases e <;> simp [bfD] at e1
theorem bf_list : CallR X (.type "list") (rCall1 .list) := by
  refine bf1 (fun pins s σ H H0 v us d r Q I rv sm hv e q => ?_) (fun pins s σ H H0 v w us d e r Q I rv sm hv hw e1 q => ?_) rfl (fun x y z r => by cases x <;> first | rfl | (cases y <;> rfl))
  · cases d <;> simp only [bfD, reduceCtorEq] at e
    · cases e
      obtain ⟨a, ws, rfl, ea, qa⟩ := hv.list sm
      exact call_list_of pins s σ H _ us Q I rv ⟨a, ws, rfl, .inl (SqL.of ea), fun l hl => q.lst sm hl qa⟩
    · cases e
      obtain ⟨a, ws, rfl, ea, qa⟩ := hv.tuple sm
      exact call_list_of pins s σ H _ us Q I rv ⟨a, ws, rfl, .inr (SqT.of ea), fun l hl => q.lst sm hl qa⟩
  · cases d <;> cases e <;> simp [bfD] at e1
theorem bf_tuple : CallR X (.type "tuple") (rCall1 .tuple) := by
  refine bf1 (fun pins s σ H H0 v us d r Q I rv sm hv e q => ?_) (fun pins s σ H H0 v w us d e r Q I rv sm hv hw e1 q => ?_) rfl (fun x y z r => by cases x <;> first | rfl | (cases y <;> rfl))
  · cases d <;> simp only [bfD, reduceCtorEq] at e
    · cases e
      obtain ⟨a, ws, rfl, ea, qa⟩ := hv.list sm
      exact call_tuple_of pins s σ H _ us Q I rv ⟨a, ws, rfl, .inl ⟨SqL.of ea, fun l hl => q.tup sm hl qa⟩⟩
    · cases e
      have hv' := hv
      obtain ⟨a, ws, rfl, ea, qa⟩ := hv.tuple sm
      refine call_tuple_of pins s σ H _ us Q I rv ⟨a, ws, rfl, .inr ⟨SqT.of ea, ?_⟩⟩
      rcases hv' with z | ⟨_, _, _, _, z, _⟩
      · exact q.datum sm z
      · cases z
  · cases d <;> cases e <;> simp [bfD] at e1
theorem bf_sum (hc : X.calm = true) : CallR X (.builtin "sum") (rCall1 .sum) := by
  refine bf1 (fun pins s σ H H0 v us d r Q I rv sm hv e q => ?_) (fun pins s σ H H0 v w us d e r Q I rv sm hv hw e1 q => ?_) rfl (fun x y z r => by cases x <;> first | rfl | (cases y <;> rfl))
  · cases d <;> simp only [bfD, reduceCtorEq] at e
    obtain ⟨ns, e1, rfl⟩ := Option.map_eq_some_iff.mp e
    obtain ⟨a, ws, rfl, ea, qa⟩ := hv.list sm
    exact cr_sum hc pins s σ H _ us Q I rv ⟨a, ns, rfl, SqL.of (by rw [← qa.ints e1]; exact ea), q.datum sm (.int _)⟩
  · cases d <;> cases e <;> simp [bfD] at e1
theorem fold_max : ∀ (r : List Int) (x m : Int), m ∈ x :: r → (∀ y ∈ x :: r, y ≤ m) → r.foldl (fun a b => if b > a then b else a) x = m
  | [], x, m, h, _ => by
    rcases List.mem_cons.mp h with e | h
    · exact e.symm
    · cases h
  | y :: r, x, m, h, hl => by
    rw [List.foldl_cons]
    have hx := hl x List.mem_cons_self
    have hy := hl y (List.mem_cons_of_mem _ List.mem_cons_self)
    refine fold_max r _ m ?_ ?_
    · by_cases c : y > x
      · rw [if_pos c]
        rcases List.mem_cons.mp h with e | h
        · omega
        · exact h
      · rw [if_neg c]
        rcases List.mem_cons.mp h with e | h
        · rw [e]; exact List.mem_cons_self
        · rcases List.mem_cons.mp h with e | h
          · have : x = m := by omega
            rw [this]; exact List.mem_cons_self
          · exact List.mem_cons_of_mem _ h
    · intro z hz
      rcases List.mem_cons.mp hz with e | hz
      · subst e
        split <;> assumption
      · exact hl z (List.mem_cons_of_mem _ (List.mem_cons_of_mem _ hz))
theorem fold_min : ∀ (r : List Int) (x m : Int), m ∈ x :: r → (∀ y ∈ x :: r, m ≤ y) → r.foldl (fun a b => if b < a then b else a) x = m
  | [], x, m, h, _ => by
    rcases List.mem_cons.mp h with e | h
    · exact e.symm
    · cases h
  | y :: r, x, m, h, hl => by
    rw [List.foldl_cons]
    have hx := hl x List.mem_cons_self
    have hy := hl y (List.mem_cons_of_mem _ List.mem_cons_self)
    refine fold_min r _ m ?_ ?_
    · by_cases c : y < x
      · rw [if_pos c]
        rcases List.mem_cons.mp h with e | h
        · omega
        · exact h
      · rw [if_neg c]
        rcases List.mem_cons.mp h with e | h
        · rw [e]; exact List.mem_cons_self
        · rcases List.mem_cons.mp h with e | h
          · have : x = m := by omega
            rw [this]; exact List.mem_cons_self
          · exact List.mem_cons_of_mem _ h
    · intro z hz
      rcases List.mem_cons.mp hz with e | hz
      · subst e
        split <;> assumption
      · exact hl z (List.mem_cons_of_mem _ (List.mem_cons_of_mem _ hz))
theorem bf_max (hc : X.calm = true) : CallR X (.builtin "max") (rCall1 .max) := by
  refine bf1 (fun pins s σ H H0 v us d r Q I rv sm hv e q => ?_) (fun pins s σ H H0 v w us d e r Q I rv sm hv hw e1 q => ?_) rfl (fun x y z r => by cases x <;> first | rfl | (cases y <;> rfl))
  · cases d <;> simp only [bfD, reduceCtorEq] at e
    obtain ⟨m, e1, rfl⟩ := Option.map_eq_some_iff.mp e
    obtain ⟨ns, e2, e3⟩ := Option.bind_eq_some_iff.mp e1
    obtain ⟨a, ws, rfl, ea, qa⟩ := hv.list sm
    cases ns with
    | nil => cases e3
    | cons x r =>
      refine cr_max hc pins s σ H _ us Q I rv ⟨a, x :: r, rfl, SqL.of (by rw [← qa.ints e2]; exact ea), Nat.succ_pos _, fun k h1 h2 => ?_⟩
      have e4 : r.foldl (fun a b => if b > a then b else a) x = m := Option.some.inj e3
      rw [fold_max r x k h1 h2] at e4
      subst e4
      exact q.datum sm (.int _)
  · cases d <;> cases e <;> simp only [bfD, reduceCtorEq] at e1
    cases e1
    exact call_max2 hc pins s σ H _ us Q I rv ⟨_, _, by rw [hv.int, hw.int], q.datum sm (.int _)⟩
theorem bf_min (hc : X.calm = true) : CallR X (.builtin "min") (rCall1 .min) := by
  refine bf1 (fun pins s σ H H0 v us d r Q I rv sm hv e q => ?_) (fun pins s σ H H0 v w us d e r Q I rv sm hv hw e1 q => ?_) rfl (fun x y z r => by cases x <;> first | rfl | (cases y <;> rfl))
  · cases d <;> simp only [bfD, reduceCtorEq] at e
    split at e
    · rename_i ns e2
      obtain ⟨m, e3, rfl⟩ := Option.map_eq_some_iff.mp e
      obtain ⟨a, ws, rfl, ea, qa⟩ := hv.list sm
      cases ns with
      | nil => cases e3
      | cons x r =>
        refine cr_min hc pins s σ H _ us Q I rv ⟨a, x :: r, rfl, SqL.of (by rw [← qa.ints e2]; exact ea), Nat.succ_pos _, fun k h1 h2 => ?_⟩
        have e4 : r.foldl (fun a b => if b < a then b else a) x = m := Option.some.inj e3
        rw [fold_min r x k h1 h2] at e4
        subst e4
        exact q.datum sm (.int _)
    · cases e
  · cases d <;> cases e <;> simp only [bfD, reduceCtorEq] at e1
    cases e1
    exact call_min2 hc pins s σ H _ us Q I rv ⟨_, _, by rw [hv.int, hw.int], q.datum sm (.int _)⟩
theorem bf_sorted (hu : X.A.units + 64 < cLine) : CallR X (.builtin "sorted") (rCall1 .sorted) := by
  refine bf1 (fun pins s σ H H0 v us d r Q I rv sm hv e q => ?_) (fun pins s σ H H0 v w us d e r Q I rv sm hv hw e1 q => ?_) rfl (fun x y z r => by cases x <;> first | rfl | (cases y <;> rfl))
  · cases d <;> simp only [bfD, reduceCtorEq] at e
    split at e <;> cases e
    rename_i hz
    rw [Bool.and_eq_true, decide_eq_true_eq] at hz
    obtain ⟨a, ws, rfl, ea, qa⟩ := hv.list sm
    exact call_sorted hu I rv sm ea qa hz.1 hz.2 q
  · cases d <;> cases e <;> simp [bfD] at e1

/-! ### methods -/
def rMtv (m : Mv) : V → List V → Hp → VK → Prop := fun x xs H Q => ∃ H0 d ds o, Same H0 H ∧ SV H0 H x d ∧ Paired (fun d v => SV H0 H v d) ds xs ∧ (mvD m d ds).map Od.d = some o ∧ OdQ H0 H o Q
theorem find_ok (d : D) : ∀ (ds : List D) (n j : Nat), findI d ds n = some j → ∃ i z, j = n + i ∧ ds[i]? = some z ∧ PyData.eqv z d = true ∧ ∀ (m : Nat) (z' : D), m < i → ds[m]? = some z' → PyData.eqv z' d = false
  | [], _, _, h => by cases h
  | x :: r, n, j, h => by
    unfold findI at h
    split at h
    · rename_i hx
      cases h
      exact ⟨0, x, rfl, rfl, hx, fun m z' hm => absurd hm (Nat.not_lt_zero _)⟩
    · rename_i hx
      obtain ⟨i, z, h1, h2, h3, h4⟩ := find_ok d r (n + 1) j h
      refine ⟨i + 1, z, by omega, h2, h3, fun m z' hm hz => ?_⟩
      cases m with
      | zero =>
        have e : x = z' := Option.some.inj hz
        subst e
        simpa using hx
      | succ m => exact h4 m z' (by omega) hz
theorem mv_gen {id : String} {m : Mv} (h : ∀ (pins : List (Addr × Obj)) (s : Shared) (σ : St) (H H0 : Hp) (x w : V) (v : Value) (us : List Value) (d e r : D) (Q : VK), Inv X pins σ H s → RelV x v → Vals [w] us → Same H0 H → SV H0 H x d → SV H0 H w e → mv1 m d e = some r → OdQ H0 H (.d r) Q →
    wpAny (model X.prog X.w) X.A (call (.builtin id) (v :: us)) (EP X pins σ Q) X.xe s) : MtR X id (rMtv m) := by
  intro pins s σ H x xs v us Q I rx rxs hh
  obtain ⟨H0, d, ds, o, sm, hx, hp, e, q⟩ := hh
  obtain ⟨r, e1, rfl⟩ := Option.map_eq_some_iff.mp e
  match ds, hp, e1 with
  | [], _, e1 => cases e1
  | _ :: _ :: _, _, e1 => cases e1
  | [d'], hp, e1 =>
    obtain ⟨w, rfl, hw⟩ := paired1 hp
    exact h pins s σ H H0 x w v us d d' r Q I rx rxs sm hx hw e1 q
theorem mv_count : MtR X "list.count" (rMtv .count) := by
  refine mv_gen fun pins s σ H H0 x w v us d e r Q I rx rxs sm hx hw e1 q => ?_
  cases d <;> cases e <;> simp only [mv1, countD, reduceCtorEq] at e1
  obtain ⟨ns, e2, rfl⟩ := Option.map_eq_some_iff.mp e1
  obtain ⟨a, ws, rfl, ea, qa⟩ := hx.list sm
  exact mt_lcount pins s σ H _ _ v us Q I rx rxs ⟨a, ns, _, rfl, by rw [hw.int], SqL.of (by rw [← qa.ints e2]; exact ea), q.datum sm (.int _)⟩
theorem mv_index (hu : X.A.units + 65 < cLine) : MtR X "list.index" (rMtv .index) := by
  refine mv_gen fun pins s σ H H0 x w v us d e r Q I rx rxs sm hx hw e1 q => ?_
  cases d <;> simp only [mv1, indexD, reduceCtorEq] at e1
  rename_i es
  split at e1 <;> first | cases e1 | skip
  rename_i hz
  rw [Bool.and_eq_true] at hz
  obtain ⟨j, e2, rfl⟩ := Option.map_eq_some_iff.mp e1
  obtain ⟨i, z, h1, h2, h3, h4⟩ := find_ok e es 0 j e2
  rw [Nat.zero_add] at h1
  subst h1
  have hv := hx.vd sm
  obtain ⟨a, ws, rfl, ea, qa⟩ := hx.list sm
  exact mt_indexD hu pins s σ H _ _ v us Q I rx rxs ⟨a, w, e, es, j, z, rfl, rfl, Vd.dp _ _ hv, Vd.dp _ _ (hw.vd sm), hz.1, hz.2, h2, h3, h4, q.datum sm (.int _)⟩
theorem mv_join : MtR X "str.join" (rMtv .join) := by
  refine mv_gen fun pins s σ H H0 x w v us d e r Q I rx rxs sm hx hw e1 q => ?_
  cases d <;> cases e <;> simp only [mv1, joinD, reduceCtorEq] at e1
  rename_i a es
  split at e1 <;> first | cases e1 | skip
  rename_i ys e2
  split at e1 <;> cases e1
  rename_i hz
  obtain ⟨p, ws, rfl, ea, qa⟩ := hw.list sm
  exact mt_join pins s σ H _ _ v us Q I rx rxs ⟨a, p, ys, hx.str, rfl, .inl (SqL.of (by rw [← qa.strs e2]; exact ea)), hz, q.datum sm (.str _)⟩
end
end VL

/-! VE: the rules of expressions. -/
namespace VL
open PySem PySem.Spec PyProof.Rows L2
section
variable {X : Cx} {W : WX} {a b c e : Expr} {fa fb fc : M Od} {pos : Pos}

/-! ### names, constants -/
theorem v_name {i : Nat} {x : Str} (hN : X.N[i]? = some x) (hv : Vis X.env.scope x) (hd : (x == ("__debug__" : Str)) = false) (hcd : (x == ("__classdict__" : Str)) = false) : PE X (.Name x pos) (tE (ky X) W (vr i)) := by
  refine (pe_var hN hv hd hcd).imp fun σ H Q h => ?_
  obtain ⟨Γ, H0, r, h⟩ := h
  unfold sem vr at h
  cases g : gt Γ i with
  | va d =>
    rw [g] at h
    obtain ⟨v, h1, h2⟩ := r.va i d g
    exact ⟨v, h1, h _ _ r StE.refl v h2⟩
  | no => rw [g] at h; exact False.elim h
  | ow o =>
    rw [g] at h
    obtain ⟨p, ho, h1, _⟩ := r.ow i o g
    exact ⟨_, h1, h _ _ r StE.refl _ h1⟩
  | xc k =>
    rw [g] at h
    obtain ⟨p, h1, _⟩ := r.xc i k g
    exact ⟨_, h1, h _ _ r StE.refl _ h1⟩
  | sc ns =>
    rw [g] at h
    obtain ⟨p, h1, _⟩ := r.sc i ns g
    exact ⟨_, h1, h _ _ r StE.refl _ h1⟩
theorem v_const {d : D} {v : V} (h : PE X e (tC v)) (hd : ∀ H, Vd H v d) : PE X e (tE (ky X) W (kd d)) := by
  refine h.imp fun σ H Q h => ?_
  obtain ⟨Γ, H0, r, h⟩ := h
  exact h _ _ r StE.refl v (hd H0)

/-! ### operations -/
def opE (g : D → D → Option Od) (a b : M Od) : M Od := bnd a fun x => bnd b fun y => bnd (soft x) fun dx => bnd (soft y) fun dy => bnd (ofO (g dx dy)) ret
theorem ofO_map {α β : Type} (o : Option α) (h : α → β) : bnd (ofO o) (fun r => ret (h r)) = bnd (ofO (o.map h)) ret := by
  funext Γ
  cases o <;> rfl
theorem bin2_eq (f : D → D → Option D) (a b : M Od) : bin2 f a b = opE (fun x y => (f x y).map odN) a b := by
  unfold bin2 opE
  simp only [ofO_map]
theorem lift2_eq (f : D → D → Option D) (a b : M Od) : lift2 f a b = opE (fun x y => (f x y).map Od.d) a b := by
  unfold lift2 opE
  simp only [ofO_map]
theorem bl2_eq (f : D → D → Option Bool) (a b : M Od) : lift2 (bl2 f) a b = opE (fun x y => bO (f x y)) a b := by
  rw [lift2_eq]
  unfold bl2 bO
  simp only [Option.map_map]
  rfl
theorem two {g : D → D → Option Od} {σ : St} {H : Hp} {Q : VK} (h : tE (ky X) W (opE g fa fb) σ H Q) : tOp (rOp g) (tE (ky X) W fa) (tE (ky X) W fb) σ H Q := by
  obtain ⟨Γ, H0, r0, h⟩ := h
  refine ⟨Γ, H0, r0, (sem.bnd h).mono fun oa Γ1 H01 H1 r1 s1 h1 v qv => ?_⟩
  refine ⟨Γ1, H01, r1, (sem.bnd h1).mono fun ob Γ2 H02 H2 r2 s2 h2 u qu => ?_⟩
  have qv2 := qv.step r0 s1 s2
  obtain ⟨dx, hx, h3⟩ := sem.soft r2 qv2 (sem.bnd h2)
  obtain ⟨dy, hy, h4⟩ := sem.soft r2 qu (sem.bnd h3)
  obtain ⟨o, e, h5⟩ := sem.ofO r2 (sem.bnd h4)
  refine ⟨H02, dx, dy, o, r2.same, hx, hy, e, fun w H03 H3 g' q => ?_⟩
  exact h5 _ _ (r2.grow g') g'.ste w (q.from fun b hb => (s1.trans s2).new hb)
theorem v_bin {op : Operator} (ha : PE X a (tE (ky X) W fa)) (hb : PE X b (tE (ky X) W fb)) : PE X (.BinOp a op b pos) (tE (ky X) W (bin2 (binD op) fa fb)) := by
  refine (pe_op (opd_bin op) ha hb).imp fun σ H Q h => ?_
  rw [bin2_eq] at h
  exact two h
theorem v_ix (ha : PE X a (tE (ky X) W fa)) (hb : PE X b (tE (ky X) W fb)) (hs : PlainIx b) : PE X (.Subscript a b pos) (tE (ky X) W (lift2 idxD fa fb)) := by
  refine (pe_ix (ixd X) ha hb hs).imp fun σ H Q h => ?_
  rw [lift2_eq] at h
  exact two h
theorem v_cmp (hu : X.A.units + 65 < cLine) {op : CmpOp} (ha : PE X a (tE (ky X) W fa)) (hb : PE X b (tE (ky X) W fb)) (hm : behindInMarks op b = false) : PE X (.Compare a [op] [b] pos) (tE (ky X) W (lift2 (bl2 (cmpD op)) fa fb)) := by
  refine (pe_cmpR (opd_cmp hu op) ha hb hm).imp fun σ H Q h => ?_
  rw [bl2_eq] at h
  exact two h
/-- one operand -/
theorem one {g : D → Option Od} {σ : St} {H : Hp} {Q : VK} {R : V → Hp → Prop} (h : tE (ky X) W (bnd fa fun x => bnd (soft x) fun d => bnd (ofO (g d)) ret) σ H Q)
    (k : ∀ v H0 H1 d o, Same H0 H1 → SV H0 H1 v d → g d = some o → OdQ H0 H1 o Q → R v H1) : tE (ky X) W fa σ H R := by
  obtain ⟨Γ, H0, r0, h⟩ := h
  refine ⟨Γ, H0, r0, (sem.bnd h).mono fun oa Γ1 H01 H1 r1 s1 h1 v qv => ?_⟩
  obtain ⟨dx, hx, h3⟩ := sem.soft r1 qv (sem.bnd h1)
  obtain ⟨o, e, h5⟩ := sem.ofO r1 (sem.bnd h3)
  exact k v H01 H1 dx o r1.same hx e fun w H03 H3 g' q => h5 _ _ (r1.grow g') g'.ste w (q.from fun b hb => s1.new hb)
theorem lift1_eq (f : D → Option D) (a : M Od) : lift1 f a = bnd a fun x => bnd (soft x) fun d => bnd (ofO ((f d).map Od.d)) ret := by
  unfold lift1
  simp only [ofO_map]
theorem v_neg (ha : PE X a (tE (ky X) W fa)) : PE X (.UnaryOp .USub a pos) (tE (ky X) W (lift1 negD fa)) := by
  refine (pe_un un_neg ha).imp fun σ H Q h => ?_
  rw [lift1_eq] at h
  refine one h fun v H0 H1 d o sm hv e q => ?_
  obtain ⟨r, e1, rfl⟩ := Option.map_eq_some_iff.mp e
  cases d <;> simp only [negD, reduceCtorEq] at e1
  cases e1
  exact ⟨_, hv.int, q.datum sm (.int _)⟩

/-! ### truth -/
/-- a test that gives b -/
theorem oneT {σ : St} {H : Hp} {Q : Bool → Hp → Prop} {R : V → Hp → Prop} {g : D → Option Bool} (h : tT (ky X) W (bnd fa fun x => bnd (soft x) fun d => ofO (g d)) σ H Q)
    (k : ∀ v H0 H1 d o, Same H0 H1 → SV H0 H1 v d → g d = some o → Q o H1 → R v H1) : tE (ky X) W fa σ H R := by
  obtain ⟨Γ, H0, r0, h⟩ := h
  refine ⟨Γ, H0, r0, (sem.bnd h).mono fun oa Γ1 H01 H1 r1 s1 h1 v qv => ?_⟩
  obtain ⟨dx, hx, h3⟩ := sem.soft r1 qv (sem.bnd h1)
  obtain ⟨o, e, h5⟩ := sem.ofO r1 h3
  exact k v H01 H1 dx o r1.same hx e h5
theorem v_tru (ha : PE X a (tE (ky X) W fa)) (he : ∀ whole, isTrue a X.env whole = (do let v ← whole; standAt a.pos; holding [v] (truthy v))) : PT X a (tT (ky X) W (truE fa)) := by
  refine (pt_truth ha he).imp fun σ H Q h => ?_
  exact oneT h fun v H0 H1 d o sm hv e q => ⟨o, truv X.K sm hv e, q⟩
theorem v_notE (ha : PE X a (tE (ky X) W fa)) : PE X (.UnaryOp .Not a pos) (tE (ky X) W (notE fa)) := by
  refine (pe_notT ha).imp fun σ H Q h => ?_
  obtain ⟨Γ, H0, r0, h⟩ := h
  show tE (ky X) W fa σ H _
  refine ⟨Γ, H0, r0, (sem.bnd h).mono fun oa Γ1 H01 H1 r1 s1 h1 v qv => ?_⟩
  obtain ⟨dx, hx, h3⟩ := sem.soft r1 qv (sem.bnd h1)
  obtain ⟨o, e, h5⟩ := sem.ofO r1 (sem.bnd h3)
  exact ⟨o, truv X.K r1.same hx e, h5 _ _ r1 StE.refl _ (.bl _)⟩
/-- a comparison as a test -/
theorem v_valT (hu : X.A.units + 65 < cLine) {op : CmpOp} (ha : PE X a (tE (ky X) W fa)) (hb : PE X b (tE (ky X) W fb)) (hm : behindInMarks op b = false) : PT X (.Compare a [op] [b] pos) (tT (ky X) W (valT (lift2 (bl2 (cmpD op)) fa fb))) := by
  refine (pt_cmpR (opd_cmp hu op) ha hb hm).imp fun σ H Q h => ?_
  have h' : tE (ky X) W (lift2 (bl2 (cmpD op)) fa fb) σ H (fun v H' => ∃ k, v = .bl k ∧ Q k H') := oneT h fun v H0 H1 d o sm hv e q => by
    cases d <;> simp only [boolOf, reduceCtorEq] at e
    cases e
    exact ⟨_, hv.bool, q⟩
  rw [bl2_eq] at h'
  exact two h'
theorem v_andT {rest : List Expr} {t u : M Bool} (ha : PT X a (tT (ky X) W t)) (hb : PW X (.BoolOp .And (b :: rest) pos) (tT (ky X) W u)) : PW X (.BoolOp .And (a :: b :: rest) pos) (tT (ky X) W (andT t u)) := by
  refine (pw_and ha hb).imp fun σ H Q h => ?_
  obtain ⟨Γ, H0, r0, h⟩ := h
  refine ⟨Γ, H0, r0, (sem.bnd h).mono fun k Γ1 H01 H1 r1 s1 h1 => ?_⟩
  cases k with
  | true => exact iteT ⟨Γ1, H01, r1, h1⟩
  | false => exact iteF (h1 _ _ r1 StE.refl)
theorem v_orT {rest : List Expr} {t u : M Bool} (ha : PT X a (tT (ky X) W t)) (hb : PW X (.BoolOp .Or (b :: rest) pos) (tT (ky X) W u)) : PW X (.BoolOp .Or (a :: b :: rest) pos) (tT (ky X) W (orT t u)) := by
  refine (pw_or ha hb).imp fun σ H Q h => ?_
  obtain ⟨Γ, H0, r0, h⟩ := h
  refine ⟨Γ, H0, r0, (sem.bnd h).mono fun k Γ1 H01 H1 r1 s1 h1 => ?_⟩
  cases k with
  | true => exact iteT (h1 _ _ r1 StE.refl)
  | false => exact iteF ⟨Γ1, H01, r1, h1⟩
theorem v_notT {t : M Bool} (ha : PT X a (tT (ky X) W t)) : PT X (.UnaryOp .Not a pos) (tT (ky X) W (notT t)) := by
  refine (pt_not ha).imp fun σ H Q h => ?_
  obtain ⟨Γ, H0, r0, h⟩ := h
  exact ⟨Γ, H0, r0, (sem.bnd h).mono fun k Γ1 H01 H1 r1 s1 h1 => h1 _ _ r1 StE.refl⟩
theorem v_ifE {t : M Bool} (hc : PT X c (tT (ky X) W t)) (ha : PE X a (tE (ky X) W fa)) (hb : PE X b (tE (ky X) W fb)) : PE X (.IfExp c a b pos) (tE (ky X) W (ifT t fa fb)) := by
  refine (pe_ifExp hc ha hb).imp fun σ H Q h => ?_
  obtain ⟨Γ, H0, r0, h⟩ := h
  refine ⟨Γ, H0, r0, (sem.bnd h).mono fun k Γ1 H01 H1 r1 s1 h1 => ?_⟩
  cases k with
  | true => exact iteT ⟨Γ1, H01, r1, h1.mono fun o Γ2 H02 H2 r2 s2 k v q => k v (q.back fun b hb => s1.new hb)⟩
  | false => exact iteF ⟨Γ1, H01, r1, h1.mono fun o Γ2 H02 H2 r2 s2 k v q => k v (q.back fun b hb => s1.new hb)⟩
/-- and, or as values -/
theorem v_andE {rest : List Expr} (ha : PE X a (tE (ky X) W fa)) (hb : PE X (.BoolOp .And (b :: rest) pos) (tE (ky X) W fb)) : PE X (.BoolOp .And (a :: b :: rest) pos) (tE (ky X) W (andE fa fb)) := by
  refine (pe_and ha hb).imp fun σ H Q h => ?_
  obtain ⟨Γ, H0, r0, h⟩ := h
  refine ⟨Γ, H0, r0, (sem.bnd h).mono fun oa Γ1 H01 H1 r1 s1 h1 v qv => ?_⟩
  obtain ⟨dx, hx, h3⟩ := sem.soft r1 qv (sem.bnd h1)
  obtain ⟨k, e, h5⟩ := sem.ofO r1 (sem.bnd h3)
  cases dx <;> simp only [boolOf, reduceCtorEq] at e
  cases e
  refine ⟨k, hx.bool, ?_⟩
  cases k with
  | true => exact iteT ⟨Γ1, H01, r1, h5.mono fun o Γ2 H02 H2 r2 s2 k v q => k v (q.back fun b hb => s1.new hb)⟩
  | false => exact iteF (h5 _ _ r1 StE.refl _ (.bl _))
theorem v_orE {rest : List Expr} (ha : PE X a (tE (ky X) W fa)) (hb : PE X (.BoolOp .Or (b :: rest) pos) (tE (ky X) W fb)) : PE X (.BoolOp .Or (a :: b :: rest) pos) (tE (ky X) W (orE fa fb)) := by
  refine (pe_or ha hb).imp fun σ H Q h => ?_
  obtain ⟨Γ, H0, r0, h⟩ := h
  refine ⟨Γ, H0, r0, (sem.bnd h).mono fun oa Γ1 H01 H1 r1 s1 h1 v qv => ?_⟩
  obtain ⟨dx, hx, h3⟩ := sem.soft r1 qv (sem.bnd h1)
  obtain ⟨k, e, h5⟩ := sem.ofO r1 (sem.bnd h3)
  cases dx <;> simp only [boolOf, reduceCtorEq] at e
  cases e
  refine ⟨k, hx.bool, ?_⟩
  cases k with
  | true => exact iteT (h5 _ _ r1 StE.refl _ (.bl _))
  | false => exact iteF ⟨Γ1, H01, r1, h5.mono fun o Γ2 H02 H2 r2 s2 k v q => k v (q.back fun b hb => s1.new hb)⟩

/-! ### chains -/
theorem chain_body {f g : D → D → Option Bool} {σ : St} {H : Hp} {Q : VK} (h : tE (ky X) W (chainE f g fa fb fc) σ H Q) :
    tChain (rOp fun x y => bO (f x y)) (rOp fun x y => bO (g x y)) (tE (ky X) W fa) (tE (ky X) W fb) (tE (ky X) W fc) σ H Q := by
  obtain ⟨Γ, H0, r0, h⟩ := h
  refine ⟨Γ, H0, r0, (sem.bnd h).mono fun oa Γ1 H01 H1 r1 s1 h1 v qv => ?_⟩
  refine ⟨Γ1, H01, r1, (sem.bnd h1).mono fun ob Γ2 H02 H2 r2 s2 h2 u qu => ?_⟩
  have qv2 := qv.step r0 s1 s2
  obtain ⟨dx, hx, h3⟩ := sem.soft r2 qv2 (sem.bnd h2)
  obtain ⟨dy, hy, h4⟩ := sem.soft r2 qu (sem.bnd h3)
  obtain ⟨k, e, h5⟩ := sem.ofO r2 (sem.bnd h4)
  refine ⟨H02, dx, dy, .d (.bool k), r2.same, hx, hy, by show (f dx dy).map _ = _; rw [e]; rfl, fun w H03 H3 g' q => ?_⟩
  have q' : Vd H03 w (.bool k) := q
  cases q'
  refine ⟨k, rfl, ?_⟩
  have r3 := r2.grow g'
  have s3 : StE Γ2 σ H02 H2 Γ2 H03 H3 := g'.ste
  cases k with
  | false => exact iteF (h5 _ _ r3 s3 _ (.bl _))
  | true =>
    refine iteT ?_
    rw [if_pos rfl] at h5
    have h6 : sem (ky X) W (bnd fc fun z => bnd (soft ob) fun dy => bnd (soft z) fun dz => bnd (ofO (g dy dz)) fun r => ret (.d (.bool r))) Γ2 H03 σ H3 (fun o _ H0' H' => ∀ v, RepOd H σ H0' H' o v → Q v H') := by
      unfold sem at h5 ⊢
      split at h5
      · exact fun H0' H' r s => h5 _ _ r (s3.trans s)
      · exact fun C H0' H' e r s => h5 C _ _ e r (s3.trans s)
      · exact h5
    refine ⟨Γ2, H03, r3, (sem.bnd h6).mono fun oc Γ4 H04 H4 r4 s4 h7 z qz => ?_⟩
    have qu2 := qu.step r1 s2 (s3.trans s4)
    obtain ⟨dy', hy', h8⟩ := sem.soft r4 qu2 (sem.bnd h7)
    obtain ⟨dz, hz, h9⟩ := sem.soft r4 qz (sem.bnd h8)
    obtain ⟨k2, e2, h10⟩ := sem.ofO r4 (sem.bnd h9)
    refine ⟨H04, dy', dz, .d (.bool k2), r4.same, hy', hz, by show (g dy' dz).map _ = _; rw [e2]; rfl, fun w H05 H5 g5 q5 => ?_⟩
    have q5' : Vd H05 w (.bool k2) := q5
    cases q5'
    first
      | exact h10 _ _ (r4.grow g5) g5.ste _ (.bl _)
      | exact ⟨_, rfl, h10 _ _ (r4.grow g5) g5.ste _ (.bl _)⟩
end
end VL

/-! VF: argument lists, displays, built-in calls, slices, isinstance. -/
namespace VL
open PySem PySem.Spec PyProof.Rows L2
section
variable {X : Cx} {W : WX} {a b c e : Expr} {es : List Expr} {fa fb fc : M Od} {fs : List (M Od)} {pos : Pos}
/-- no star -/
def noStar : Expr → Bool
  | .Starred _ _ => false
  | _ => true
theorem star_cons (h : noStar e = true) (env : PySem.Env) : starEach (e :: es) env = (false, eval e env) :: starEach es env := by
  cases e <;> first | rfl | cases h
theorem back_star {p : Pos} {env : PySem.Env} : ∀ {es : List Expr}, es.all noStar = true → (backTo p (starEach es env)).any (·.1) = false
  | [], _ => by rfl
  | e :: r, h => by
    rw [List.all_cons, Bool.and_eq_true] at h
    rw [star_cons h.1]
    exact back_star (es := r) h.2
theorem v_nil : PA X [] (tA (ky X) W (argsE [])) := pa_nil.imp fun σ H Q h => by
  obtain ⟨Γ, H0, r, h⟩ := h
  exact sem.ret r h [] rfl
theorem v_cons (ha : PE X e (tE (ky X) W fa)) (hr : PA X es (tA (ky X) W (argsE fs))) (hs : noStar e = true) : PA X (e :: es) (tA (ky X) W (argsE (fa :: fs))) := by
  refine (pa_cons ha hr (star_cons hs _)).imp fun σ H Q h => ?_
  obtain ⟨Γ, H0, r0, h⟩ := h
  refine ⟨Γ, H0, r0, (sem.bnd h).mono fun oa Γ1 H01 H1 r1 s1 h1 v qv => ?_⟩
  refine ⟨Γ1, H01, r1, (sem.bnd h1).mono fun os Γ2 H02 H2 r2 s2 h2 vs qs => ?_⟩
  exact sem.ret r2 h2 _ ⟨v, vs, rfl, qv.step r0 s1 s2, qs.back fun b hb => s1.new hb⟩
theorem v_list (h : PA X es (tA (ky X) W (argsE fs))) : PE X (.List es pos) (tE (ky X) W (listE fs)) := by
  refine (pe_lst h).imp fun σ H Q h => ?_
  obtain ⟨Γ, H0, r0, h⟩ := h
  refine ⟨Γ, H0, r0, (sem.bndS h).mono fun os Γ1 H01 H1 r1 s1 h1 vs qv => ?_⟩
  obtain ⟨ds, Γ2, H02, r2, s2, sm, hvs, h2⟩ := hards_ok r0 r1 s1 qv.weak h1
  by_cases hz : ds.length ≤ SZ
  · rw [if_pos hz] at h2
    refine ⟨by rw [sizeLine_eq, hvs.length]; exact hz, fun p hp => ?_⟩
    exact h2 _ _ (r2.grow (Grow.tmp r2.same hp)) (s2.trans (Grow.tmp r2.same hp).ste) _ ⟨p, vs, rfl, s1.new hp, r2.same.free hp, upd_same, hvs⟩
  · rw [if_neg hz] at h2
    exact False.elim h2
theorem v_tup {k : Nat} (h : PA X es (tA (ky X) W (argsE fs))) : PE X (.Tuple es k pos) (tE (ky X) W (tupE fs)) := by
  refine (pe_tup h).imp fun σ H Q h => ?_
  obtain ⟨Γ, H0, r0, h⟩ := h
  refine ⟨Γ, H0, r0, (sem.bndS h).mono fun os Γ1 H01 H1 r1 s1 h1 vs qv => ?_⟩
  obtain ⟨ds, Γ2, H02, r2, s2, sm, hvs, h2⟩ := hards_ok r0 r1 s1 qv.weak h1
  by_cases hz : ds.length ≤ SZ
  · rw [if_pos hz] at h2
    refine ⟨by rw [sizeLine_eq, hvs.length]; exact hz, fun p hp => ?_⟩
    exact h2 _ _ (r2.grow (Grow.new r2.same hp)) (s2.trans (Grow.new r2.same hp).ste) _ (.tup upd_same (VdAll.mono (same_new (r2.same.free hp)) _ _ hvs))
  · rw [if_neg hz] at h2
    exact False.elim h2
theorem softs_ok {β : Type} {Γ : VL.Env} {σ : St} {H0 H Hs : Hp} {K : β → VL.Env → Hp → Hp → Prop} (r : Rep (ky X) Γ H0 σ H) : ∀ {os : List Od} {vs : List V} {f : List D → M β}, RepOds Hs σ H0 H os vs → sem (ky X) W (bnd (softs os) f) Γ H0 σ H K →
    ∃ ds, Paired (fun d v => SV H0 H v d) ds vs ∧ sem (ky X) W (f ds) Γ H0 σ H K
  | [], vs, f, q, h => by
    have q' : vs = [] := q
    subst q'
    exact ⟨[], .nil, h⟩
  | o :: os, vs, f, q, h => by
    obtain ⟨v, t, e, q1, q2⟩ := q
    subst e
    unfold softs at h
    rw [bnd_assoc] at h
    obtain ⟨d, hd, h1⟩ := sem.soft r q1 (sem.bnd h)
    rw [bnd_assoc] at h1
    obtain ⟨ds, hds, h2⟩ := softs_ok r (f := fun xs => bnd (ret (d :: xs)) f) q2 h1
    exact ⟨d :: ds, .cons hd hds, h2⟩
theorem bf_body {b : Bf} {σ : St} {H : Hp} {Q : VK} (h : tE (ky X) W (bfE b fs) σ H Q) : tA (ky X) W (argsE fs) σ H fun vs H1 => rCall1 b vs H1 Q := by
  obtain ⟨Γ, H0, r0, h⟩ := h
  refine ⟨Γ, H0, r0, (sem.bnd h).mono fun os Γ1 H01 H1 r1 s1 h1 vs qv => ?_⟩
  obtain ⟨ds, hp, h2⟩ := softs_ok r1 qv h1
  obtain ⟨d, e, h3⟩ := sem.ofO r1 (sem.bnd h2)
  exact ⟨H01, ds, odN d, r1.same, hp, by show (bfD b ds).map odN = _; rw [e]; rfl, fun w H03 H3 g' q => h3 _ _ (r1.grow g') g'.ste w (q.from fun b hb => s1.new hb)⟩
theorem v_bfB {f : Str} {id : String} {b : Bf} {p : Pos} (hc : CallR X (.builtin id) (rCall1 b)) (hg : Gl X f) (hm : X.mg f = none) (hv : bootBuiltins f = some (.builtin id)) (hn : f ≠ "__name__") (hd : (f == ("__debug__" : Str)) = false)
    (ha : PA X (e :: es) (tA (ky X) W (argsE fs))) (hs : (e :: es).all noStar = true) : PE X (.Call (.Name f p) (e :: es) [] pos) (tE (ky X) W (bfE b fs)) := by
  rw [List.all_cons, Bool.and_eq_true] at hs
  exact (pe_callB hc hg hm hv ha hn hd (star_cons hs.1 _) (back_star hs.2)).imp fun σ H Q h => bf_body h
theorem v_bfT {f : Str} {id : String} {b : Bf} {p : Pos} (hc : CallR X (.type id) (rCall1 b)) (hg : Gl X f) (hm : X.mg f = none) (hv : bootBuiltins f = some (.type id)) (hn : f ≠ "__name__") (hd : (f == ("__debug__" : Str)) = false)
    (ha : PA X (e :: es) (tA (ky X) W (argsE fs))) (hs : (e :: es).all noStar = true) : PE X (.Call (.Name f p) (e :: es) [] pos) (tE (ky X) W (bfE b fs)) := by
  rw [List.all_cons, Bool.and_eq_true] at hs
  exact (pe_callTy hc hg hm hv ha hn hd (star_cons hs.1 _) (back_star hs.2)).imp fun σ H Q h => bf_body h
/-- list(script) -/
theorem v_listScr {i : Nat} {p : Pos} {x : Str} {px : Pos} (hN : X.N[i]? = some x) (hv : Vis X.env.scope x) (hd : (x == ("__debug__" : Str)) = false) (hcd : (x == ("__classdict__" : Str)) = false) (hg : Gl X "list") (hm : X.mg "list" = none) :
    PE X (.Call (.Name "list" p) [.Name x px] [] pos) (tE (ky X) W (listScr i)) := by
  refine (pe_callTy call_list_of hg hm (by first | rfl | decide +kernel) (pa_cons (pe_var hN hv hd hcd) pa_nil (star_cons rfl _)) (by decide) (by decide) (star_cons rfl _) (back_star rfl)).imp fun σ H Q h => ?_
  obtain ⟨Γ, H0, r, h⟩ := h
  unfold sem listScr at h
  cases g : gt Γ i with
  | sc ns =>
    rw [g] at h
    obtain ⟨p, h1, h2⟩ := r.sc i ns g
    refine ⟨.ref p, h1, p, ns.map V.int, rfl, .inl (r.same.seq h2), fun l hl => ?_⟩
    exact h _ _ (r.grow (Grow.tmp r.same hl)) (Grow.tmp r.same hl).ste _ ⟨l, _, rfl, hl, r.same.free hl, upd_same, VdAll.ofInts ns⟩
  | _ => rw [g] at h; exact False.elim h

/-! ### slices -/
def tO (X : Ky) (W : WX) (f : M (Option Int)) : TO := fun σ H Q => ∃ Γ H0, Rep X Γ H0 σ H ∧ sem X W f Γ H0 σ H fun o _ _ H' => Q o H'
theorem _root_.L2.PO.imp {X : Cx} {e : Option Expr} {t t' : TO} (h : PO X e t) (k : ∀ σ H Q, t' σ H Q → t σ H Q) : PO X e t' := ⟨fun pins s σ H Q I q => h.run pins s σ H Q I (k σ H Q q)⟩
theorem sem.int {Γ : VL.Env} {σ : St} {H0 H Hs : Hp} {o : Od} {v : V} {β : Type} {f : Int → M β} {K : β → VL.Env → Hp → Hp → Prop} (r : Rep (ky X) Γ H0 σ H) (q : RepOd Hs σ H0 H o v)
    (h : sem (ky X) W (VL.bnd (VL.bnd (VL.soft o) fun d => match d with | .int i => VL.ret i | _ => VL.bad) f) Γ H0 σ H K) : ∃ i, v = .int i ∧ sem (ky X) W (f i) Γ H0 σ H K := by
  rw [bnd_assoc] at h
  obtain ⟨d, hd, h1⟩ := sem.soft r q (sem.bnd h)
  cases d with
  | int i => exact ⟨i, hd.int, h1⟩
  | _ => exact False.elim h1
theorem v_partN : PO X none (tO (ky X) W partN) := po_none.imp fun σ H Q h => by
  obtain ⟨Γ, H0, r, h⟩ := h
  exact sem.ret r h
theorem v_partE (ha : PE X a (tE (ky X) W fa)) : PO X (some a) (tO (ky X) W (partE fa)) := by
  refine (po_some ha).imp fun σ H Q h => ?_
  obtain ⟨Γ, H0, r0, h⟩ := h
  unfold partE intE at h
  rw [bnd_assoc] at h
  refine ⟨Γ, H0, r0, (sem.bnd h).mono fun oa Γ1 H01 H1 r1 s1 h1 v qv => ?_⟩
  obtain ⟨i, e, h2⟩ := sem.int r1 qv h1
  exact ⟨i, e, sem.ret r1 h2⟩
theorem v_slice {lo hi : Option Expr} {fl fh : M (Option Int)} {p2 : Pos} (ha : PE X a (tE (ky X) W fa)) (hl : PO X lo (tO (ky X) W fl)) (hh : PO X hi (tO (ky X) W fh)) : PE X (.Subscript a (.Slice lo hi none p2) pos) (tE (ky X) W (sliceE fa fl fh)) := by
  refine (pe_slice (sld X) ha hl hh).imp fun σ H Q h => ?_
  obtain ⟨Γ, H0, r0, h⟩ := h
  refine ⟨Γ, H0, r0, (sem.bnd h).mono fun oa Γ1 H01 H1 r1 s1 h1 v qv => ?_⟩
  refine ⟨Γ1, H01, r1, (sem.bnd h1).mono fun l Γ2 H02 H2 r2 s2 h2 => ?_⟩
  refine ⟨Γ2, H02, r2, (sem.bnd h2).mono fun u Γ3 H03 H3 r3 s3 h3 => ?_⟩
  have qv2 := qv.step r0 s1 (s2.trans s3)
  obtain ⟨dx, hx, h4⟩ := sem.soft r3 qv2 (sem.bnd h3)
  obtain ⟨d, e, h5⟩ := sem.ofO r3 (sem.bnd h4)
  exact ⟨H03, dx, odN d, r3.same, hx, by rw [e]; rfl, fun w H04 H4 g' q => h5 _ _ (r3.grow g') g'.ste w (q.from fun b hb => ((s1.trans s2).trans s3).new hb)⟩

/-! ### isinstance -/
def tyD : D → Option String
  | .none => some "NoneType"
  | .bool _ => some "bool"
  | .int _ => some "int"
  | .str _ => some "str"
  | .list _ => some "list"
  | .tuple _ => some "tuple"
  | .dict _ => none
theorem SV.ty {H0 H : Hp} {v : V} {d : D} (K : PySem.W.Frag) (sm : Same H0 H) (h : SV H0 H v d) {t : String} (e : tyD d = some t) : TyX K H v (.type t) := by
  cases d with
  | none => cases e; rw [h.non]; exact .base .non
  | bool b => cases e; rw [h.bool]; exact .base (.bl b)
  | int b => cases e; rw [h.int]; exact .base (.int b)
  | str b => cases e; rw [h.str]; exact .base (.str b)
  | list ds =>
    cases e
    obtain ⟨p, vs, rfl, e, _⟩ := h.list sm
    exact .base (.lst e)
  | tuple ds =>
    cases e
    obtain ⟨p, vs, rfl, e, _⟩ := h.tuple sm
    exact .base (.tup e)
  | dict _ => cases e
theorem kits : ∀ a ∈ ["NoneType", "bool", "int", "str", "list", "tuple"], ∀ b ∈ ["bool", "int", "str", "list", "tuple"], kitB a b = some (decide (a = b) || (decide (a = "bool") && decide (b = "int"))) := by decide +kernel
theorem isBt_kit {K : PySem.W.Frag} {d : D} {n : String} {k : Bool} (h : isBt d n = some k) : ∃ t, tyD d = some t ∧ PySem.W.kitOne K (.type t) (.type n) = some k := by
  cases d <;> simp only [isBt] at h
  · split at h
    · rename_i hn
      cases h
      refine ⟨_, rfl, kit_ty ?_⟩
      rcases hn with rfl | rfl | rfl | rfl | rfl <;> first | exact kits "NoneType" (by decide) _ (by decide) | skip
    · cases h
  · split at h
    · rename_i hn
      cases h
      refine ⟨_, rfl, kit_ty ?_⟩
      rcases hn with rfl | rfl <;> exact kits "bool" (by decide) _ (by decide)
    · split at h
      · rename_i hn
        cases h
        refine ⟨_, rfl, kit_ty ?_⟩
        rcases hn with rfl | rfl | rfl <;> exact kits "bool" (by decide) _ (by decide)
      · cases h
  all_goals first | (cases h; done) | skip
  all_goals
    split at h
    · rename_i hn
      cases h
      subst hn
      refine ⟨_, rfl, kit_ty ?_⟩
      exact kits _ (by decide) _ (by decide)
    · split at h
      · rename_i hn
        cases h
        refine ⟨_, rfl, kit_ty ?_⟩
        rcases hn with rfl | rfl | rfl | rfl <;> exact kits _ (by decide) _ (by decide)
      · cases h
theorem v_isins {T : Str} {n : String} {p p2 : Pos} (hT : bootBuiltins T = some (.type n)) (hg : Gl X "isinstance") (hm : X.mg "isinstance" = none) (hgT : Gl X T) (hmT : X.mg T = none) (hnT : T ≠ "__name__") (hdT : (T == ("__debug__" : Str)) = false)
    (ha : PE X a (tE (ky X) W fa)) (hs : noStar a = true) : PE X (.Call (.Name "isinstance" p) [a, .Name T p2] [] pos) (tE (ky X) W (isinsE fa n)) := by
  have hpT : PE X (.Name T p2) (tC (.ty n)) := pe_bltn hgT hmT hT rfl hnT hdT
  refine (pe_callB call_isi hg hm (by first | rfl | decide +kernel) (pa_cons ha (pa_cons hpT pa_nil (star_cons rfl _)) (star_cons hs _)) (by decide) (by decide) (star_cons hs _) (back_star rfl)).imp fun σ H Q h => ?_
  have h' : tE (ky X) W (isinsE fa n) σ H Q := h
  unfold isinsE at h'
  rw [lift1_eq] at h'
  refine one h' fun v H0 H1 d o sm hv e q => ?_
  obtain ⟨r, e1, rfl⟩ := Option.map_eq_some_iff.mp e
  obtain ⟨k, e2, rfl⟩ := Option.map_eq_some_iff.mp e1
  obtain ⟨t, e3, e4⟩ := isBt_kit (K := X.K) e2
  exact ⟨v, .ty n, .type t, .type n, k, rfl, by constructor, hv.ty X.K sm e3, e4, q.datum sm (.bl _)⟩
theorem v_isins2 {T T' : Str} {n n' : String} {p p2 p3 p4 : Pos} {k2 : Nat} (hT : bootBuiltins T = some (.type n)) (hT' : bootBuiltins T' = some (.type n')) (hg : Gl X "isinstance") (hm : X.mg "isinstance" = none) (hgT : Gl X T) (hmT : X.mg T = none) (hnT : T ≠ "__name__") (hdT : (T == ("__debug__" : Str)) = false)
    (hgT' : Gl X T') (hmT' : X.mg T' = none) (hnT' : T' ≠ "__name__") (hdT' : (T' == ("__debug__" : Str)) = false) (ha : PE X a (tE (ky X) W fa)) (hs : noStar a = true) : PE X (.Call (.Name "isinstance" p) [a, .Tuple [.Name T p2, .Name T' p3] k2 p4] [] pos) (tE (ky X) W (isins2E fa n n')) := by
  have hpT : PE X (.Name T p2) (tC (.ty n)) := pe_bltn hgT hmT hT rfl hnT hdT
  have hpT' : PE X (.Name T' p3) (tC (.ty n')) := pe_bltn hgT' hmT' hT' rfl hnT' hdT'
  refine (pe_callB call_isiT hg hm (by first | rfl | decide +kernel) (pa_cons ha (pa_cons (pe_tup (pa_cons hpT (pa_cons hpT' pa_nil (star_cons rfl _)) (star_cons rfl _))) pa_nil (star_cons rfl _)) (star_cons hs _)) (by decide) (by decide) (star_cons hs _) (back_star rfl)).imp fun σ H Q h => ?_
  have h' : tE (ky X) W (isins2E fa n n') σ H Q := h
  unfold isins2E at h'
  rw [lift1_eq] at h'
  refine one h' fun v H0 H1 d o sm hv e q => ?_
  obtain ⟨r, e1, rfl⟩ := Option.map_eq_some_iff.mp e
  split at e1 <;> cases e1
  rename_i x y ex ey
  obtain ⟨t, e3, e4⟩ := isBt_kit (K := X.K) ex
  obtain ⟨t', e3', e4'⟩ := isBt_kit (K := X.K) ey
  rw [e3] at e3'
  cases e3'
  refine ⟨by rw [sizeLine_eq]; exact (by decide : 2 ≤ 16777216), fun tp htp => ?_⟩
  have g := Grow.tmp (o := .tup [.ty n, .ty n']) sm htp
  have hv' : SV H0 (upd H1 tp (.tup [.ty n, .ty n'])) v d := by
    rcases hv with hv | ⟨a1, vs, ds, rfl, rfl, ea, qa⟩
    · exact .inl hv
    · exact .inr ⟨a1, vs, ds, rfl, rfl, g.sm _ _ ea, qa⟩
  refine ⟨v, tp, [.ty n, .ty n'], .type t, [.type n, .type n'], x || y, rfl, upd_same, .cons (by constructor) (.cons (by constructor) .nil), hv'.ty X.K g.s2 e3, ?_, ?_⟩
  · refine kitAny_cons e4 (fun hx => ?_) (fun hx => by rw [hx]; rfl)
    refine kitAny_cons e4' (fun hy => by rw [hx, hy]; rfl) (fun hy => by rw [hy]; simp)
  · exact q _ _ _ g (.bl _)
end
end VL

/-! VG: what a def promises; calls; methods. -/
namespace VL
open PySem PySem.Spec PyProof.Rows L2

/-! ### arguments -/
def RepArg (K : PySem.W.Frag) (H0 H : Hp) : Slot → V → Prop
  | .va d, v => Vd H0 v d
  | .sc ns, v => ∃ a, v = .ref a ∧ SqL K H0 a (ns.map V.int)
  | .ow o, v => ∃ a ho, v = .ref a ∧ H0 a = none ∧ H a = some ho ∧ RepO H0 o ho
  | _, _ => False
def RepArgs (K : PySem.W.Frag) (H0 H : Hp) : List Slot → List V → Prop
  | [], vs => vs = []
  | s :: r, vs => ∃ v t, vs = v :: t ∧ RepArg K H0 H s v ∧ RepArgs K H0 H r t
def isOwS : Slot → Bool
  | .ow _ => true
  | _ => false
/-- what a def may have done: A is its own argument (the first one, if it is handed in to be changed) -/
structure FnSt (A : Addr → Prop) (H0 H H0' H' : Hp) : Prop where
  fr : Same H0 H0'
  s2 : Same H0' H'
  nf : ∀ b, H0' b ≠ none → H0 b ≠ none ∨ H b = none
  ke : ∀ b o, H b = some o → ¬ A b → H' b = some o
  dm : ∀ b, H b ≠ none → H' b ≠ none
def argA : List Slot → List V → Addr → Prop
  | .ow _ :: _, .ref a :: _, b => b = a
  | _, _, _ => False
def OutOk (H0' H' : Hp) : List Slot → List V → List Slot → Prop
  | .ow _ :: _, .ref a :: _, out => ∃ o ho, out = [.ow o] ∧ H' a = some ho ∧ RepO H0' o ho
  | _, _, _ => True
def RepRs (H H0' H' : Hp) (r : Rs) (v : V) : Prop := RepOd H [] H0' H' (odR r) v
/-- the promise: R what the def does with its arguments -/
def spF (K : PySem.W.Frag) (mg : Str → Option Value) (np : Nat) (R : List Slot → R1) : Sp := fun vs H Q E => ∃ H0 args, Same H0 H ∧ vs.length = np ∧ RepArgs K H0 H args vs ∧ (args.drop 1).all (fun s => !isOwS s) = true ∧ match R args with
  | .ok r out => ∀ v H0' H', FnSt (argA args vs) H0 H H0' H' → OutOk H0' H' args vs out → RepRs H H0' H' r v → Q v H'
  | .ex c out => ∀ C H0' H', mg c = some (.ref C) → FnSt (argA args vs) H0 H H0' H' → OutOk H0' H' args vs out → E (.ref C) none H'
  | .bad => False
/-- a def of the table, up to k calls deep -/
structure Fk (P : Program) (w : World) (K : PySem.W.Frag) (mg : Str → Option Value) (base : Heap) (k : Nat) (f : Str) (sg : Sig) (R : List Slot → R1) : Prop where
  ex : ∃ (a : Addr) (fd : FuncData) (ps : List Str), mg f = some (.ref a) ∧ PySem.W.keepIn K (.ref a) = true ∧ FnOk P w K mg base (L2N.CX P w) k a fd ps (spF K mg sg.np R) ∧
    ∀ n, n ≤ sg.np → sg.np ≤ n + sg.dfl.length → ∃ dvs ds, Vals dvs ds ∧ Binds K fd ps ds ∧ dvs.length = sg.np - n ∧ ∀ H, VdAll H dvs (sg.dfl.drop (sg.dfl.length + n - sg.np))

section
variable {X : Cx} {W : WX} {a b c e : Expr} {es : List Expr} {fa fb fc : M Od} {fs : List (M Od)} {pos : Pos}
theorem RepArg.keep {K : PySem.W.Frag} {H0 H H01 : Hp} {s : Slot} {v : V} (n : isOwS s = false) (sm : Same H0 H01) (h : RepArg K H0 H s v) : RepArg K H01 H s v := by
  cases s with
  | va d => exact Vd.mono sm d v h
  | sc ns => obtain ⟨a, h1, h2⟩ := h; exact ⟨a, h1, sm.seq h2⟩
  | ow o => cases n
  | _ => exact h
theorem RepArgs.keep {K : PySem.W.Frag} {H0 H H01 : Hp} (sm : Same H0 H01) : ∀ {ss : List Slot} {vs : List V}, ss.all (fun s => !isOwS s) = true → RepArgs K H0 H ss vs → RepArgs K H01 H ss vs
  | [], _, _, h => h
  | s :: r, _, n, ⟨v, t, e, h1, h2⟩ => by
    rw [List.all_cons, Bool.and_eq_true] at n
    exact ⟨v, t, e, h1.keep (by simpa using n.1) sm, RepArgs.keep sm n.2 h2⟩
theorem RepArgs.append {K : PySem.W.Frag} {H0 H : Hp} : ∀ {ss : List Slot} {vs : List V} {ts : List Slot} {ws : List V}, RepArgs K H0 H ss vs → RepArgs K H0 H ts ws → RepArgs K H0 H (ss ++ ts) (vs ++ ws)
  | [], _, _, _, h, q => by
    have h' : _ = [] := h
    subst h'
    exact q
  | s :: r, _, _, _, ⟨v, t, e, h1, h2⟩, q => by
    subst e
    exact ⟨v, t ++ _, rfl, h1, RepArgs.append h2 q⟩
theorem RepArgs.length {K : PySem.W.Frag} {H0 H : Hp} : ∀ {ss : List Slot} {vs : List V}, RepArgs K H0 H ss vs → vs.length = ss.length
  | [], _, h => by
    have h' : _ = [] := h
    subst h'
    rfl
  | s :: r, _, ⟨v, t, e, h1, h2⟩ => by
    subst e
    rw [List.length_cons, List.length_cons, RepArgs.length h2]
theorem RepArgs.data {K : PySem.W.Frag} {H0 H : Hp} : ∀ {ds : List D} {vs : List V}, VdAll H0 vs ds → RepArgs K H0 H (ds.map .va) vs
  | _, _, .nil => rfl
  | _, _, .cons a b => ⟨_, _, rfl, a, RepArgs.data b⟩
theorem noOw_va : ∀ ds : List D, (ds.map Slot.va).all (fun s => !isOwS s) = true
  | [] => rfl
  | d :: r => by rw [List.map_cons, List.all_cons, noOw_va r]; rfl
/-- handing one argument on -/
theorem hardSlot_ok {Y : Ky} {β : Type} {Γs Γ : VL.Env} {σ : St} {H0s Hs H0 H : Hp} {o : Od} {v : V} {f : Slot → M β} {K : β → VL.Env → Hp → Hp → Prop} (r : Rep Y Γ H0 σ H) (s : StE Γs σ H0s Hs Γ H0 H) (q : RepW Hs σ H0 H o v) (rs : Rep Y Γs H0s σ Hs)
    (h : semS Y W Γs H0s σ Hs (VL.bnd (VL.hardSlot o) f Γ) K) : ∃ y Γ1 H01, VL.hardSlot o Γ = .ok y Γ1 ∧ Rep Y Γ1 H01 σ H ∧ StE Γs σ H0s Hs Γ1 H01 H ∧ Same H0 H01 ∧ isOwS y = false ∧ RepArg Y.K H01 H y v ∧ (∀ p vs, H p = some (.lst vs) → (H0 p = none ∨ H0 p = some (.lst vs)) → (H01 p = none ∨ H01 p = some (.lst vs))) ∧ semS Y W Γs H0s σ Hs (f y Γ1) K := by
  have viaHard : (∀ i ns, o = .rf i → gt Γ i ≠ .sc ns) → ∃ y Γ1 H01, VL.hardSlot o Γ = .ok y Γ1 ∧ Rep Y Γ1 H01 σ H ∧ StE Γs σ H0s Hs Γ1 H01 H ∧ Same H0 H01 ∧ isOwS y = false ∧ RepArg Y.K H01 H y v ∧ (∀ p vs, H p = some (.lst vs) → (H0 p = none ∨ H0 p = some (.lst vs)) → (H01 p = none ∨ H01 p = some (.lst vs))) ∧ semS Y W Γs H0s σ Hs (f y Γ1) K := by
    intro hn
    have e : VL.hardSlot o Γ = VL.bnd (VL.hard o) (fun d => ret (Slot.va d)) Γ := by
      unfold VL.hardSlot VL.hard VL.bnd
      cases o with
      | d d => rfl
      | fl ds => rfl
      | rf i =>
        dsimp only
        cases g : gt Γ i with
        | sc ns => exact absurd g (hn i ns rfl)
        | ow o => cases o <;> rfl
        | _ => rfl
    have h' : semS Y W Γs H0s σ Hs (VL.bnd (VL.hard o) (fun d => f (.va d)) Γ) K := by
      have e2 : VL.bnd (VL.hardSlot o) f Γ = VL.bnd (VL.hard o) (fun d => f (.va d)) Γ := by
        unfold VL.bnd
        rw [e]
        unfold VL.bnd
        cases VL.hard o Γ <;> rfl
      rw [← e2]
      exact h
    obtain ⟨d, Γ1, H01, e1, r1, s1, sm, hv, k, h1⟩ := hard_ok r s q rs h'
    refine ⟨.va d, Γ1, H01, ?_, r1, s1, sm, rfl, hv, k, h1⟩
    rw [e]
    unfold VL.bnd
    rw [e1]
    rfl
  cases o with
  | rf i =>
    cases g : gt Γ i with
    | sc ns =>
      obtain ⟨p, e1, e2⟩ := r.sc i ns g
      have q' : σ[i]? = some (some v) := q
      rw [q'] at e1
      cases e1
      have e : VL.hardSlot (.rf i) Γ = .ok (.sc ns) Γ := by unfold VL.hardSlot; simp only [g]
      exact ⟨.sc ns, Γ, H0, e, r, s, Same.refl _, rfl, ⟨p, rfl, e2⟩, fun _ _ _ h => h, semS.bnd e h⟩
    | _ => exact viaHard fun j ns z => by cases z; rw [g]; simp
  | _ => exact viaHard fun j ns z => by cases z
theorem hardSlots_ok {Y : Ky} {β : Type} {Γs : VL.Env} {σ : St} {H0s Hs : Hp} (rs : Rep Y Γs H0s σ Hs) {H : Hp} {K : β → VL.Env → Hp → Hp → Prop} : ∀ {os : List Od} {vs : List V} {f : List Slot → M β} {Γ : VL.Env} {H0 : Hp}, Rep Y Γ H0 σ H → StE Γs σ H0s Hs Γ H0 H → RepWs Hs σ H0 H os vs →
    semS Y W Γs H0s σ Hs (VL.bnd (VL.hardSlots os) f Γ) K → ∃ ys Γ1 H01, VL.hardSlots os Γ = .ok ys Γ1 ∧ Rep Y Γ1 H01 σ H ∧ StE Γs σ H0s Hs Γ1 H01 H ∧ Same H0 H01 ∧ ys.all (fun s => !isOwS s) = true ∧ RepArgs Y.K H01 H ys vs ∧ semS Y W Γs H0s σ Hs (f ys Γ1) K
  | [], vs, f, Γ, H0, r, s, q, h => by
    have q' : vs = [] := q
    subst q'
    exact ⟨[], Γ, H0, rfl, r, s, Same.refl _, rfl, rfl, h⟩
  | o :: os, vs, f, Γ, H0, r, s, q, h => by
    obtain ⟨v, t, e, q1, q2⟩ := q
    subst e
    unfold VL.hardSlots at h
    rw [bnd_assoc] at h
    obtain ⟨y, Γ1, H01, e1, r1, s1, sm, ny, hy, k, h1⟩ := hardSlot_ok r s q1 rs h
    rw [bnd_assoc] at h1
    obtain ⟨ys, Γ2, H02, e2, r2, s2, sm2, nys, hys, h2⟩ := hardSlots_ok rs (f := fun xs => VL.bnd (VL.ret (y :: xs)) f) r1 s1 (q2.keep sm k) h1
    refine ⟨y :: ys, Γ2, H02, ?_, r2, s2, sm.trans sm2, ?_, ⟨v, t, rfl, hy.keep ny sm2, hys⟩, h2⟩
    · unfold VL.hardSlots VL.bnd
      rw [e1]
      dsimp only
      rw [e2]
      rfl
    · rw [List.all_cons, ny, nys]; rfl
theorem semS_ok {Y : Ky} {α β : Type} {Γs Γ : VL.Env} {σ : St} {H0s Hs : Hp} {f : R α} {g : α → VL.Env → R β} {K : β → VL.Env → Hp → Hp → Prop} (h : semS Y W Γs H0s σ Hs (match f with | .ok a Γ' => g a Γ' | _ => .bad) K) : ∃ a Γ', f = .ok a Γ' ∧ semS Y W Γs H0s σ Hs (g a Γ') K := by
  cases f with
  | ok a Γ' => exact ⟨a, Γ', rfl, h⟩
  | ex c Γ' => exact False.elim h
  | bad => exact False.elim h

/-- behind a call that changed what slot i owns -/
theorem Rep.io {Y : Ky} {Γ : VL.Env} {σ : St} {H0 H H0' H' : Hp} {i : Nat} {o o' : Own} {p : Addr} {ho : HO} (r : Rep Y Γ H0 σ H) (g : gt Γ i = .ow o) (e : σ[i]? = some (some (.ref p))) (t : FnSt (fun b => b = p) H0 H H0' H') (h1 : H' p = some ho) (h2 : RepO H0' o' ho) :
    Rep Y (st Γ i (.ow o')) H0' σ H' where
  len := by rw [len_st]; exact r.len
  same := t.s2
  va := fun j d h => by
    rw [gt_st] at h
    split at h
    · cases h
    · obtain ⟨v, h1, h2⟩ := r.va j d h
      exact ⟨v, h1, Vd.mono t.fr d v h2⟩
  ow := fun j u h => by
    rw [gt_st] at h
    split at h
    · rename_i hj
      cases h
      obtain ⟨q, hq, e1, e2, e3, _⟩ := r.ow i o g
      rw [e] at e1
      cases e1
      refine ⟨p, ho, by rw [hj.1]; exact e, ?_, h1, h2⟩
      cases q : H0' p with
      | none => rfl
      | some z =>
        rcases t.nf p (by rw [q]; simp) with z | z
        · exact absurd e2 z
        · rw [e3] at z; cases z
    · rename_i hj
      obtain ⟨a, hoa, e1, e2, e3, e4⟩ := r.ow j u h
      have ne : a ≠ p := fun z => hj ⟨r.inj j i u o p h g (z ▸ e1) e, gt_lt (by rw [g]; simp)⟩
      refine ⟨a, hoa, e1, ?_, t.ke _ _ e3 ne, e4.mono t.fr⟩
      cases q : H0' a with
      | none => rfl
      | some z =>
        rcases t.nf a (by rw [q]; simp) with z | z
        · exact absurd e2 z
        · rw [e3] at z; cases z
  inj := fun j k u u' q h1 h2 e1 e2 => by
    have up : ∀ j u, gt (st Γ i (.ow o')) j = .ow u → ∃ u', gt Γ j = .ow u' := fun j u h => by
      rw [gt_st] at h
      split at h
      · rename_i hj
        exact ⟨o, by rw [hj.1]; exact g⟩
      · exact ⟨u, h⟩
    obtain ⟨w, hw⟩ := up j u h1
    obtain ⟨w', hw'⟩ := up k u' h2
    exact r.inj j k w w' q hw hw' e1 e2
  xc := fun j d h => by
    rw [gt_st] at h
    split at h
    · cases h
    · exact r.xc j d h
  sc := fun j ns h => by
    rw [gt_st] at h
    split at h
    · cases h
    · obtain ⟨a, h1, h2⟩ := r.sc j ns h
      exact ⟨a, h1, t.fr.seq h2⟩
theorem StE.io {Γ : VL.Env} {σ : St} {H0 H H0' H' : Hp} {i : Nat} {o o' : Own} {p : Addr} (g : gt Γ i = .ow o) (e : σ[i]? = some (some (.ref p))) (t : FnSt (fun b => b = p) H0 H H0' H') : StE Γ σ H0 H (st Γ i (.ow o')) H0' H' :=
  ⟨t.fr, fun b hb => (t.nf b hb).elim .inl fun z => .inr (.inl z), fun b u hb n => t.ke b u hb fun z => n (z ▸ ⟨i, o, g, e⟩), fun j u h => by
    rw [gt_st] at h
    split at h
    · rename_i hj
      exact ⟨o, by rw [hj.1]; exact g⟩
    · exact ⟨u, h⟩, t.dm⟩

theorem v_call {k : Nat} {f : Str} {sg : Sig} {F : FT} {p : Pos} (fk : Fk X.prog X.w X.K X.mg X.base k f sg (F f)) (hr : Room k X.A) (tk : L2N.Takes X W) (hg : Gl X f) (hd : (f == ("__debug__" : Str)) = false)
    (ha : PA X (e :: es) (tA (ky X) W (argsE fs))) (hs : (e :: es).all noStar = true) (hn : (e :: es).length ≤ sg.np) (hn2 : sg.np ≤ (e :: es).length + sg.dfl.length) (hlen : fs.length = (e :: es).length) : PE X (.Call (.Name f p) (e :: es) [] pos) (tE (ky X) W (callE F f sg fs)) := by
  rw [List.all_cons, Bool.and_eq_true] at hs
  obtain ⟨a, fd, ps, hm, hk, F1, hb⟩ := fk.ex
  obtain ⟨dvs, ds, hv, hbn, hdl, hvd⟩ := hb _ hn hn2
  refine (pe_callSD F1 hr hg hm hk hbn hv (fun σ => L2N.passAt tk σ) ha hd (star_cons hs.1 _) (back_star hs.2)).imp fun σ H Q h => ?_
  obtain ⟨Γ, H0, r0, h⟩ := h
  refine ⟨Γ, H0, r0, (sem.bndS h).mono' fun os Γ1 H01 H1 eos r1 s1 h1 vs qv => ?_⟩
  have olen : ∀ (fs : List (M Od)) (Γ Γ1 : VL.Env) (os : List Od), argsE fs Γ = .ok os Γ1 → os.length = fs.length := by
    intro fs
    induction fs with
    | nil => intro Γ Γ1 os e; cases e; rfl
    | cons f r ih =>
      intro Γ Γ1 os e
      unfold argsE bnd at e
      cases q : f Γ with
      | ok x Γ2 =>
        rw [q] at e
        dsimp only at e
        cases q2 : argsE r Γ2 with
        | ok xs Γ3 =>
          rw [q2] at e
          cases e
          rw [List.length_cons, List.length_cons, ih _ _ _ q2]
        | ex c g => rw [q2] at e; cases e
        | bad => rw [q2] at e; cases e
      | ex c g => rw [q] at e; cases e
      | bad => rw [q] at e; cases e
  have hos := olen fs Γ Γ1 os eos
  show spF X.K X.mg sg.np (F f) (vs ++ dvs) H1 Q (WE W σ)
  have hvl : ∀ {os : List Od} {vs : List V}, RepOds H σ H01 H1 os vs → vs.length = os.length := by
    intro os
    induction os with
    | nil => intro vs h; have h' : vs = [] := h; subst h'; rfl
    | cons o r ih => intro vs ⟨v, t, e, _, h2⟩; subst e; rw [List.length_cons, List.length_cons, ih h2]
  have hvs := hvl qv
  by_cases io : sg.io = true
  · rw [if_pos io] at h1
    cases os with
    | nil => exact False.elim h1
    | cons o r =>
      cases o with
      | rf i =>
        dsimp only at h1
        obtain ⟨v, t, ev, q1, q2⟩ := qv
        subst ev
        obtain ⟨ys, Γ2, H02, _, r2, s2, sm, nys, hys, h3⟩ := hardSlots_ok r0 r1 s1 (RepOds.weak q2) h1
        unfold callIo at h3
        have lys : ys.length + 1 = (e :: es).length := by
          have := hys.length
          simp only [List.length_cons] at hvs hos
          omega
        rw [lys] at h3
        cases g : gt Γ2 i with
        | ow o =>
          rw [g] at h3
          dsimp only at h3
          obtain ⟨pa, ho, e1, e2, e3, e4⟩ := r2.ow i o g
          have q1' : σ[i]? = some (some v) := q1
          rw [q1'] at e1
          cases e1
          refine ⟨H02, .ow o :: (ys ++ dflS sg (e :: es).length), r2.same, ?_, ⟨_, _, rfl, ⟨pa, ho, rfl, e2, e3, e4⟩, hys.append (RepArgs.data (hvd H02))⟩, ?_, ?_⟩
          · rw [List.length_append, hdl, hvs, hos, hlen]; omega
          · show (ys ++ _).all _ = true
            unfold dflS
            rw [List.all_append, nys, noOw_va]; rfl
          · revert h3
            cases F f (.ow o :: (ys ++ dflS sg (e :: es).length)) with
            | ok rr out =>
              intro h3 v' H0' H' t' ho' hr'
              obtain ⟨o', ho2, eo, h5, h6⟩ := (show ∃ o ho, out = [.ow o] ∧ H' pa = some ho ∧ RepO H0' o ho from ho')
              subst eo
              have t2 : FnSt (fun b => b = pa) H02 H1 H0' H' := t'
              exact h3 _ _ (r2.io g q1' t2 h5 h6) (s2.trans (StE.io g q1' t2)) _ (RepOd.from (fun b hb => s1.new hb) hr')
            | ex c out =>
              intro h3 C H0' H' hC t' ho'
              obtain ⟨o', ho2, eo, h5, h6⟩ := (show ∃ o ho, out = [.ow o] ∧ H' pa = some ho ∧ RepO H0' o ho from ho')
              subst eo
              have t2 : FnSt (fun b => b = pa) H02 H1 H0' H' := t'
              exact h3 C _ _ hC (r2.io g q1' t2 h5 h6) (s2.trans (StE.io g q1' t2))
            | bad => intro h3; exact False.elim h3
        | _ => rw [g] at h3; exact False.elim h3
      | _ => exact False.elim h1
  · rw [if_neg io] at h1
    obtain ⟨ys, Γ2, H02, _, r2, s2, sm, nys, hys, h3⟩ := hardSlots_ok r0 r1 s1 qv.weak h1
    unfold callPl at h3
    have lys : ys.length = (e :: es).length := by
      have := hys.length
      omega
    rw [lys] at h3
    have nall : (ys ++ dflS sg (e :: es).length).all (fun s => !isOwS s) = true := by
      unfold dflS
      rw [List.all_append, nys, noOw_va]; rfl
    have noA : ∀ b, ¬ argA (ys ++ dflS sg (e :: es).length) (vs ++ dvs) b := by
      intro b hb
      revert hb nall
      generalize ys ++ dflS sg (e :: es).length = args
      intro this hb
      unfold argA at hb
      split at hb
      · rw [List.all_cons] at this; cases this
      · exact hb
    have grow : ∀ {H0' H' : Hp}, FnSt (argA (ys ++ dflS sg (e :: es).length) (vs ++ dvs)) H02 H1 H0' H' → Grow H02 H1 H0' H' := fun t => ⟨t.fr, fun b o hb => t.ke b o hb (noA b), t.nf, t.s2⟩
    refine ⟨H02, ys ++ dflS sg (e :: es).length, r2.same, ?_, hys.append (RepArgs.data (hvd H02)), ?_, ?_⟩
    · rw [List.length_append, hdl, hvs, hos, hlen]; omega
    · exact List.all_eq_true.mpr fun s hs => List.all_eq_true.mp nall s (List.mem_of_mem_drop hs)
    · revert h3
      cases F f (ys ++ dflS sg (e :: es).length) with
      | ok rr out =>
        intro h3 v' H0' H' t' ho' hr'
        exact h3 _ _ (r2.grow (grow t')) (s2.trans (grow t').ste) _ (RepOd.from (fun b hb => s1.new hb) hr')
      | ex c out =>
        intro h3 C H0' H' hC t' ho'
        exact h3 C _ _ hC (r2.grow (grow t')) (s2.trans (grow t').ste)
      | bad => intro h3; exact False.elim h3
end
end VL

/-! VH: methods; what is walked. -/
namespace VL
open PySem PySem.Spec PyProof.Rows L2
section
variable {X : Cx} {W : WX} {a b c e o : Expr} {es : List Expr} {fa fb fc : M Od} {fs : List (M Od)} {pos : Pos}

/-! ### methods of an owned list -/
def rMt (m : Mt) : V → List V → Hp → VK → Prop := fun x xs H Q => ∃ p vs H0 ds es d ds', x = .ref p ∧ H p = some (.lst vs) ∧ Same H0 H ∧ H0 p = none ∧ VdAll H0 vs ds ∧ VdAll H0 xs es ∧ mtL m ds es = some (d, ds') ∧ ∀ v ws, Vd H0 v d → VdAll H0 ws ds' → Q v (upd H p (.lst ws))
theorem mt1 {es : List D} {xs : List V} {H0 : Hp} {d : D} (h : VdAll H0 xs es) (e : es = [d]) : ∃ v, xs = [v] ∧ Vd H0 v d := by
  subst e
  cases h with
  | cons a b => cases b; exact ⟨_, rfl, a⟩
theorem mtd_append : MtR X "list.append" (rMt .append) := by
  intro pins s σ H x xs v us Q I rx rxs h
  obtain ⟨p, vs, H0, ds, es, d, ds', rfl, ep, sm, n0, q, qe, e, k⟩ := h
  have e : mtAppend ds es = some (d, ds') := e
  unfold mtAppend at e
  split at e
  · split at e <;> cases e
    rename_i hz
    obtain ⟨w, rfl, hw⟩ := mt1 qe rfl
    exact mt_append pins s σ H _ _ v us Q I rx rxs ⟨p, vs, w, rfl, rfl, ep, by rw [sizeLine_eq, q.length]; exact hz, k _ _ .non (q.append (.cons hw .nil))⟩
  · cases e
theorem mtd_extend : MtR X "list.extend" (rMt .extend) := by
  intro pins s σ H x xs v us Q I rx rxs h
  obtain ⟨p, vs, H0, ds, es, d, ds', rfl, ep, sm, n0, q, qe, e, k⟩ := h
  have e : mtExtend ds es = some (d, ds') := e
  unfold mtExtend at e
  split at e
  · split at e <;> cases e
    rename_i hz
    obtain ⟨w, rfl, hw⟩ := mt1 qe rfl
    cases hw with
    | lst eb qb => exact mt_extend pins s σ H _ _ v us Q I rx rxs ⟨p, _, vs, _, rfl, rfl, ep, sm _ _ eb, by rw [sizeLine_eq, q.length, qb.length]; exact hz, k _ _ .non (q.append qb)⟩
  · cases e
theorem mtd_insert : MtR X "list.insert" (rMt .insert) := by
  intro pins s σ H x xs v us Q I rx rxs h
  obtain ⟨p, vs, H0, ds, es, d, ds', rfl, ep, sm, n0, q, qe, e, k⟩ := h
  have e : mtInsert ds es = some (d, ds') := e
  unfold mtInsert at e
  split at e
  · split at e <;> cases e
    rename_i hz
    simp only [Bool.and_eq_true, decide_eq_true_eq] at hz
    cases qe with
    | cons h1 h2 =>
      cases h1
      cases h2 with
      | cons h3 h4 =>
        cases h4
        exact mt_insert pins s σ H _ _ v us Q I rx rxs ⟨p, vs, _, _, rfl, rfl, ep, by rw [sizeLine_eq, q.length]; exact hz.1.1, hz.1.2, by have := hz.2; omega, k _ _ .non (by
          rw [List.append_assoc]
          exact (q.take _).append (.cons h3 (q.drop _)))⟩
  · cases e
theorem mtd_pop : MtR X "list.pop" (rMt .pop) := by
  intro pins s σ H x xs v us Q I rx rxs h
  obtain ⟨p, vs, H0, ds, es, d, ds', rfl, ep, sm, n0, q, qe, e, k⟩ := h
  have e : mtPop ds es = some (d, ds') := e
  unfold mtPop at e
  split at e
  · split at e <;> cases e
    rename_i hz
    cases qe
    obtain ⟨w, h1, h2⟩ := q.get' hz
    exact mt_pop pins s σ H _ _ v us Q I rx rxs ⟨p, vs, w, rfl, rfl, ep, by rw [q.length]; exact h1, k _ _ h2 q.dropLast⟩
  · cases e
/-- what slot i owns is written anew -/
theorem Rep.write {Y : Ky} {Γ : VL.Env} {σ : St} {H0 H : Hp} {i : Nat} {o o' : Own} {p : Addr} {ho : HO} (r : Rep Y Γ H0 σ H) (g : gt Γ i = .ow o) (e : σ[i]? = some (some (.ref p))) (n0 : H0 p = none) (h2 : RepO H0 o' ho) :
    Rep Y (st Γ i (.ow o')) H0 σ (upd H p ho) ∧ StE Γ σ H0 H (st Γ i (.ow o')) H0 (upd H p ho) := by
  have t : FnSt (fun b => b = p) H0 H H0 (upd H p ho) := ⟨Same.refl _, fun b u hb => by rw [upd_ne (ne_of_none hb n0)]; exact r.same b u hb, fun b hb => .inl hb, fun b u hb n => by rw [upd_ne n]; exact hb, fun b hb => by
    by_cases eb : b = p
    · subst eb; rw [upd_same]; simp
    · rw [upd_ne eb]; exact hb⟩
  exact ⟨r.io g e t upd_same h2, StE.io g e t⟩
theorem mtd : ∀ m : Mt, MtR X (match m with | .append => "list.append" | .extend => "list.extend" | .insert => "list.insert" | .pop => "list.pop") (rMt m)
  | .append => mtd_append
  | .extend => mtd_extend
  | .insert => mtd_insert
  | .pop => mtd_pop
theorem mt_body {i : Nat} {m : Mt} {σ : St} {H : Hp} {Q : VK} (h : tE (ky X) W (mtE i m fs) σ H Q) : tBM X.K "list" (rMt m) (tVar i) (tA (ky X) W (argsE fs)) σ H Q := by
  obtain ⟨Γ, H0, r0, h⟩ := h
  by_cases hl : isLst (gt Γ i) = true
  · have h' : sem (ky X) W (bnd (argsE fs) fun xs => bnd (hards xs) (mtG i m)) Γ H0 σ H (fun o _ H0' H' => ∀ v, RepOd H σ H0' H' o v → Q v H') := by
      unfold sem mtE at h
      rw [if_pos hl] at h
      exact h
    cases g : gt Γ i with
    | ow o =>
      cases o with
      | lst ds0 =>
        obtain ⟨p, ho, e1, e2, e3, e4⟩ := r0.ow i _ g
        cases ho with
        | lst vs0 =>
          refine ⟨.ref p, e1, .inl ⟨rfl, vs0, SqL.of e3⟩, Γ, H0, r0, (sem.bndS h').mono fun os Γ1 H01 H1 r1 s1 h1 vs qv => ?_⟩
          obtain ⟨es, Γ2, H02, r2, s2, sm, hvs, h2⟩ := hards_ok r0 r1 s1 qv.weak h1
          unfold mtG at h2
          cases g2 : gt Γ2 i with
          | ow o2 =>
            rw [g2] at h2
            cases o2 with
            | lst ds =>
              obtain ⟨p', ho', e1', e2', e3', e4'⟩ := r2.ow i _ g2
              rw [e1] at e1'
              cases e1'
              cases ho' with
              | lst ws =>
                dsimp only at h2
                cases em : mtL m ds es with
                | none => rw [em] at h2; exact False.elim h2
                | some r =>
                  obtain ⟨d, ds'⟩ := r
                  rw [em] at h2
                  refine ⟨p, ws, H02, ds, es, d, ds', rfl, e3', r2.same, e2', e4', hvs, em, fun v us hv hus => ?_⟩
                  obtain ⟨r3, s3⟩ := r2.write (o' := .lst ds') (ho := .lst us) g2 e1 e2' hus
                  exact h2 _ _ r3 (s2.trans s3) v hv
              | _ => exact False.elim e4'
            | _ => exact False.elim h2
          | _ => rw [g2] at h2; exact False.elim h2
        | _ => exact False.elim e4
      | _ => rw [g] at hl; cases hl
    | _ => rw [g] at hl; cases hl
  · unfold sem mtE at h
    rw [if_neg hl] at h
    exact False.elim h
theorem name_base {x : Str} {px : Pos} {m : Str} {env : PySem.Env} {t : Sem Value} : attributeBase (.Name x px) m env t = t := rfl
theorem few_ok {p : Pos} {env : PySem.Env} : ∀ {es : List Expr}, es.all noStar = true → (backTo p (starEach es env)).all (fun x => !x.1) = true
  | [], _ => by rfl
  | e :: r, h => by
    rw [List.all_cons, Bool.and_eq_true] at h
    rw [star_cons h.1]
    exact few_ok (es := r) h.2
theorem few_all {p : Pos} {env : PySem.Env} {es : List Expr} (h : es.all noStar = true) (hl : es.length < 30) : ((backTo p (starEach es env)).all (fun x => !x.1) && (backToKw p (keywordEach [] env)).all (fun x => x.1.isSome)
      && decide (es.length + ([] : List Keyword).length + (if ([] : List Keyword).isEmpty then 0 else 1) < 30)) = true := by
  rw [few_ok h]
  show (true && true && decide (es.length + 0 + 0 < 30)) = true
  simpa using hl
theorem v_mt {x : Str} {px ap : Pos} {i : Nat} {m : Mt} {nm : Str} {id : String} (pa : PlainAttrs "list") (slot : PySem.Slot "list" nm id) (hty : typeOf (.builtin id) = pure (.type "method_descriptor")) (hm : MtR X id (rMt m))
    (hN : X.N[i]? = some x) (hv : Vis X.env.scope x) (hd : (x == ("__debug__" : Str)) = false) (hcd : (x == ("__classdict__" : Str)) = false) (ha : PA X (e :: es) (tA (ky X) W (argsE fs))) (hs : (e :: es).all noStar = true) (hl : (e :: es).length < 30) (hp : (ap.endLine == pos.line) = true) :
    PE X (.Call (.Attribute (.Name x px) nm ap) (e :: es) [] pos) (tE (ky X) W (mtE i m fs)) := by
  have hs' := hs
  rw [List.all_cons, Bool.and_eq_true] at hs
  exact (pe_bm pa slot hty hm (pe_var hN hv hd hcd) ha name_base (few_all hs' hl) hp (star_cons hs.1 _) (back_star hs.2)).imp fun σ H Q h => mt_body h
theorem v_mt0 {x : Str} {px ap : Pos} {i : Nat} {m : Mt} {nm : Str} {id : String} (pa : PlainAttrs "list") (slot : PySem.Slot "list" nm id) (hty : typeOf (.builtin id) = pure (.type "method_descriptor")) (hm : MtR X id (rMt m))
    (hN : X.N[i]? = some x) (hv : Vis X.env.scope x) (hd : (x == ("__debug__" : Str)) = false) (hcd : (x == ("__classdict__" : Str)) = false) (hp : (ap.endLine == pos.line) = true) :
    PE X (.Call (.Attribute (.Name x px) nm ap) [] [] pos) (tE (ky X) W (mtE i m [])) := by
  refine (pe_bm0 pa slot hty hm (pe_var hN hv hd hcd) name_base hp).imp fun σ H Q h => ?_
  obtain ⟨v, h1, h2, Γ, H0, r0, h3⟩ := mt_body h
  exact ⟨v, h1, h2, sem.ret r0 h3 [] rfl⟩
/-! ### methods that change nothing -/
def notSup : Expr → Bool
  | .Call (.Name _ _) [] [] _ => false
  | _ => true
theorem sup_base {m : Str} {env : PySem.Env} {t : Sem Value} (h : notSup o = true) : attributeBase o m env t = t := by
  unfold attributeBase
  split
  · cases h
  · rfl
theorem mv_body {m : Mv} {T : String} {σ : St} {H : Hp} {Q : VK} (hT : ∀ d, mvT m d = true → ∀ H0 H v, Same H0 H → SV H0 H v d → tyV X.K T v H) (h : tE (ky X) W (mvE m fa fs) σ H Q) :
    tBM X.K T (rMtv m) (tE (ky X) W fa) (tA (ky X) W (argsE fs)) σ H Q := by
  obtain ⟨Γ, H0, r0, h⟩ := h
  refine ⟨Γ, H0, r0, (sem.bnd h).mono fun oa Γ1 H01 H1 r1 s1 h1 v qv => ?_⟩
  obtain ⟨d0, hx0, h2⟩ := sem.soft r1 qv (sem.bnd h1)
  by_cases ht : mvT m d0 = true
  · rw [if_pos ht] at h2
    refine ⟨hT d0 ht _ _ _ r1.same hx0, Γ1, H01, r1, (sem.bnd h2).mono fun os Γ2 H02 H2 r2 s2 h3 vs qs => ?_⟩
    have qv2 := qv.step r0 s1 s2
    obtain ⟨d, hx, h4⟩ := sem.soft r2 qv2 (sem.bnd h3)
    obtain ⟨ds, hp, h5⟩ := softs_ok r2 qs h4
    obtain ⟨r, e, h6⟩ := sem.ofO r2 (sem.bnd h5)
    exact ⟨H02, d, ds, .d r, r2.same, hx, hp, by rw [e]; rfl, fun w H03 H3 g' q => h6 _ _ (r2.grow g') g'.ste w (q.from fun b hb => (s1.trans s2).new hb)⟩
  · rw [if_neg ht] at h2
    exact False.elim h2
theorem mv_list {m : Mv} (hm : m = .count ∨ m = .index) : ∀ d, mvT m d = true → ∀ H0 H v, Same H0 H → SV H0 H v d → tyV X.K "list" v H := by
  intro d h H0 H v sm q
  rcases hm with rfl | rfl <;> cases d <;> first | cases h | skip
  all_goals
    obtain ⟨a, vs, rfl, e, _⟩ := q.list sm
    exact .inl ⟨rfl, vs, SqL.of e⟩
theorem mv_str : ∀ d, mvT .join d = true → ∀ H0 H v, Same H0 H → SV H0 H v d → tyV X.K "str" v H := by
  intro d h H0 H v sm q
  cases d <;> first | cases h | skip
  rw [q.str]
  exact rfl
theorem v_mv {ap : Pos} {m : Mv} {T : String} {nm : Str} {id : String} (hT : ∀ d, mvT m d = true → ∀ H0 H v, Same H0 H → SV H0 H v d → tyV X.K T v H) (pa : PlainAttrs T) (slot : PySem.Slot T nm id) (hty : typeOf (.builtin id) = pure (.type "method_descriptor")) (hm : MtR X id (rMtv m))
    (ho : PE X o (tE (ky X) W fa)) (hb : notSup o = true) (ha : PA X (e :: es) (tA (ky X) W (argsE fs))) (hs : (e :: es).all noStar = true) (hl : (e :: es).length < 30) (hp : (ap.endLine == pos.line) = true) :
    PE X (.Call (.Attribute o nm ap) (e :: es) [] pos) (tE (ky X) W (mvE m fa fs)) := by
  have hs' := hs
  rw [List.all_cons, Bool.and_eq_true] at hs
  exact (pe_bm pa slot hty hm ho ha (sup_base hb) (few_all hs' hl) hp (star_cons hs.1 _) (back_star hs.2)).imp fun σ H Q h => mv_body hT h

/-! ### what is walked -/
/-- what stays as it was: all but what is owned -/
def StayA (Γ : VL.Env) (σ : St) (H : Hp) (Hx : Hp) : Prop := ∀ b o, H b = some o → ¬ Ow Γ σ b → Hx b = some o
/-- .. and all that was there from the start (Γs, H0s, Hs) without being ours -/
def Stay (Γs : VL.Env) (H0s Hs : Hp) (Γ : VL.Env) (σ : St) (H : Hp) (Hx : Hp) : Prop := ∀ b o, H b = some o → ¬ Ow Γ σ b → (Hs b = none ∨ H0s b ≠ none ∨ Ow Γs σ b) → Hx b = some o
theorem StayA.stay {Γs Γ : VL.Env} {H0s Hs H Hx : Hp} {σ : St} (h : StayA Γ σ H Hx) : Stay Γs H0s Hs Γ σ H Hx := fun b o e n _ => h b o e n
def lockS (l : Option Nat) (Γ : VL.Env) : VL.Env := match l with
  | none => Γ
  | some i => st Γ i .no
def YD (ds : List D) (H0 : Hp) : Nat → Hp → V → Hp → Prop := fun i H x H' => H' = H ∧ ∃ d, ds[i]? = some d ∧ Vd H0 x d
def tI (Y : Ky) (W : WX) (f : M Itm) : TI := fun σ H R => ∃ Γ H0, Rep Y Γ H0 σ H ∧ sem Y W f Γ H0 σ H fun im Γ' H0' H' => ∀ J G, L2.Walk J im.ds.length G (YD im.ds H0') → (∀ Hx, Stay Γ H0 H (lockS im.lock Γ') σ H' Hx → G Hx) → R J H'
theorem _root_.L2.PI.imp {X : Cx} {tg e : Expr} {t t' : TI} (h : PI X tg e t) (k : ∀ σ H Q, t' σ H Q → t σ H Q) : PI X tg e t' := ⟨fun pins s σ H Q I q => h.run pins s σ H Q I (k σ H Q q)⟩
theorem _root_.L2.PI.or {X : Cx} {tg e : Expr} {t t' : TI} (h : PI X tg e t) (h' : PI X tg e t') : PI X tg e (fun σ H R => t σ H R ∨ t' σ H R) := ⟨fun pins s σ H Q I q => q.elim (h.run pins s σ H Q I) (h'.run pins s σ H Q I)⟩
/-- a list that is read softly stays under what Stay says, with its slot locked -/
theorem soft_stay {Y : Ky} {Γs Γ : VL.Env} {σ : St} {H0s Hs H0 H : Hp} {od : Od} {a : Addr} {ho : HO} (rs : Rep Y Γs H0s σ Hs) (r : Rep Y Γ H0 σ H) (s : StE Γs σ H0s Hs Γ H0 H) (q : RepOd Hs σ H0 H od (.ref a)) (e : H a = some ho) {d : D} {Γ' : VL.Env} (hs : soft od Γ = .ok d Γ') {Hx : Hp} (st : Stay Γs H0s Hs (lockS (odLock od) Γ) σ H Hx) : Hx a = some ho := by
  have fz : H0 a ≠ none → Hs a = none ∨ H0s a ≠ none ∨ Ow Γs σ a := fun h => by
    rcases s.nf a h with z | z | z
    · exact .inr (.inl z)
    · exact .inl z
    · exact .inr (.inr z)
  refine st a ho e ?_ ?_
  rotate_left
  · cases od with
    | d d =>
      have q' : Vd H0 (.ref a) d := q
      refine fz ?_
      cases q' with
      | lst e1 _ => rw [e1]; simp
      | tup e1 _ => rw [e1]; simp
    | fl ds =>
      obtain ⟨p, vs, ep, h1, h2, h3, h4⟩ := q
      cases ep
      exact .inl h1
    | rf i =>
      have q' : σ[i]? = some (some (.ref a)) := q
      unfold soft at hs
      dsimp only at hs
      cases g : gt Γ i with
      | ow o => exact .inr (.inr (s.ow a ⟨i, o, g, q'⟩))
      | va d =>
        refine fz ?_
        obtain ⟨w, e1, e2⟩ := r.va i d g
        rw [q'] at e1
        cases e1
        cases e2 with
        | lst e1 _ => rw [e1]; simp
        | tup e1 _ => rw [e1]; simp
      | _ => rw [g] at hs; cases hs
  cases od with
  | d d =>
    rintro h
    obtain ⟨h0, _⟩ := r.own h
    have q' : Vd H0 (.ref a) d := q
    cases q' with
    | lst e1 _ => rw [e1] at h0; cases h0
    | tup e1 _ => rw [e1] at h0; cases h0
  | fl ds =>
    rintro h
    obtain ⟨p, vs, ep, h1, h2, h3, h4⟩ := q
    cases ep
    obtain ⟨_, o, e1⟩ := rs.own (s.ow _ h)
    rw [h1] at e1
    cases e1
  | rf i =>
    have q' : σ[i]? = some (some (.ref a)) := q
    unfold soft at hs
    dsimp only at hs
    cases g : gt Γ i with
    | ow o => exact not_ow r g q' (fun o z => nomatch z)
    | va d =>
      rintro h
      obtain ⟨j, o, h1, h2⟩ := h
      rw [show lockS (odLock (.rf i)) Γ = VL.st Γ i .no from rfl, gt_st] at h1
      split at h1
      · cases h1
      · obtain ⟨h0, _⟩ := r.own ⟨j, o, h1, h2⟩
        obtain ⟨w, e1, e2⟩ := r.va i d g
        rw [q'] at e1
        cases e1
        cases e2 with
        | lst e1 _ => rw [e1] at h0; cases h0
        | tup e1 _ => rw [e1] at h0; cases h0
    | _ => rw [g] at hs; cases hs
theorem sem.softK {Y : Ky} {β : Type} {Γ : VL.Env} {σ : St} {H0 H : Hp} {od : Od} {d : D} {f : D → M β} {K : β → VL.Env → Hp → Hp → Prop} (r : Rep Y Γ H0 σ H) (e : VL.soft od Γ = .ok d Γ) (h : sem Y W (VL.bnd (VL.soft od) f) Γ H0 σ H K) : sem Y W (f d) Γ H0 σ H K := by
  have h' := sem.bnd h
  unfold sem at h'
  rw [e] at h'
  exact h' _ _ r StE.refl
theorem soft_same {od : Od} {d : D} {Γ Γ' : VL.Env} (e : soft od Γ = .ok d Γ') : Γ' = Γ := by
  unfold soft at e
  split at e
  · cases e; rfl
  · cases e; rfl
  · split at e <;> cases e <;> rfl
theorem v_it {tg : Expr} (ha : PE X a (tE (ky X) W fa)) : PI X tg a (tI (ky X) W (itE fa)) := by
  refine (((pi_list (tg := tg) ha).or (pi_tup ha)).or (pi_str ha)).imp fun σ H R h => ?_
  obtain ⟨Γ, H0, r0, h⟩ := h
  have hb := sem.bnd h
  -- which of the three it is, is read off beforehand
  cases q1 : fa Γ with
  | ok od Γ1 =>
    cases q2 : soft od Γ1 with
    | ok d Γ2 =>
      have e2 := soft_same q2
      subst e2
      have lift : ∀ {P : V → Hp → Prop}, (∀ H01 H1 v, Rep (ky X) Γ2 H01 σ H1 → StE Γ σ H0 H Γ2 H01 H1 → RepOd H σ H01 H1 od v → SV H01 H1 v d →
          sem (ky X) W (bnd (ofO (seqOf d)) fun ds => ret (⟨ds, odLock od⟩ : Itm)) Γ2 H01 σ H1 (fun im Γ' H0' H' => ∀ J G, L2.Walk J im.ds.length G (YD im.ds H0') → (∀ Hx, Stay Γ H0 H (lockS im.lock Γ') σ H' Hx → G Hx) → R J H') → P v H1) → tE (ky X) W fa σ H P := by
        intro P hP
        refine ⟨Γ, H0, r0, hb.mono' fun od' Γ1' H01 H1 eq r1 s1 h1 v qv => ?_⟩
        rw [q1] at eq
        cases eq
        exact hP H01 H1 v r1 s1 qv (sem.softE r1 qv q2).1 (sem.softK r1 q2 h1)
      cases d with
      | list ds =>
        refine .inl (.inl (lift fun H01 H1 v r1 s1 qv hv h3 => ?_))
        obtain ⟨p, vs, rfl, e, hvs⟩ := hv.list r1.same
        refine ⟨p, rfl, ⟨vs, SqL.of e⟩, ?_⟩
        refine h3 _ _ r1 StE.refl _ _ (by
          show L2.Walk _ ds.length _ _
          rw [← hvs.length]
          exact walk_list.mono (fun _ g => g) fun i Hh x Hh' hi g y => ⟨y.1, hvs.get y.2⟩) fun Hx st => ?_
        exact SqL.of (soft_stay r0 r1 s1 qv e q2 st)
      | tuple ds =>
        refine .inl (.inr (lift fun H01 H1 v r1 s1 qv hv h3 => ?_))
        obtain ⟨p, vs, rfl, e, hvs⟩ := hv.tuple r1.same
        refine ⟨p, rfl, ⟨vs, SqT.of e⟩, ?_⟩
        refine h3 _ _ r1 StE.refl _ _ (by
          show L2.Walk _ ds.length _ _
          rw [← hvs.length]
          exact walk_tup.mono (fun _ g => g) fun i Hh x Hh' hi g y => ⟨y.1, hvs.get y.2⟩) fun Hx st => ?_
        exact SqT.of (soft_stay r0 r1 s1 qv e q2 st)
      | str z =>
        refine .inr (lift fun H01 H1 v r1 s1 qv hv h3 => ?_)
        refine ⟨z, hv.str, ?_⟩
        refine h3 _ _ r1 StE.refl _ (fun _ => True) (by
          show L2.Walk _ (z.cps.toList.map fun c => PyData.str ⟨#[c]⟩).length _ _
          rw [List.length_map, Array.length_toList]
          refine walk_str.mono (fun _ g => g) fun i Hh x Hh' hi g y => ⟨y.1, ?_⟩
          obtain ⟨_, c, hc, hx⟩ := y
          refine ⟨.str ⟨#[c]⟩, ?_, by rw [hx]; exact .str _⟩
          rw [List.getElem?_map, Array.getElem?_toList, hc]
          rfl) fun Hx st => trivial
      | _ =>
        unfold sem at h
        unfold itE bnd at h
        rw [q1] at h
        dsimp only at h
        rw [q2] at h
        exact False.elim h
    | ex c g =>
      unfold soft at q2
      split at q2 <;> try cases q2
      split at q2 <;> cases q2
    | bad =>
      unfold sem at h
      unfold itE bnd at h
      rw [q1] at h
      dsimp only at h
      rw [q2] at h
      exact False.elim h
  | ex c g =>
    unfold sem at hb
    rw [q1] at hb
    refine .inr ⟨Γ, H0, r0, ?_⟩
    unfold sem
    rw [q1]
    exact hb
  | bad =>
    unfold sem at hb
    rw [q1] at hb
    exact False.elim hb
theorem bnd_int {β : Type} (m : M Od) (f : Int → M β) : bnd (intE m) f = bnd m fun x => bnd (bnd (soft x) fun d => match d with | .int i => ret i | _ => bad) f := by
  unfold intE
  first
  | (rw [bnd_assoc]; done)
  | (rw [bnd_assoc]; rfl)
theorem rng_ok {i : Int} (h : rngOk i = true) : -(2 ^ 62) ≤ i ∧ i < 2 ^ 62 := by
  unfold rngOk at h
  simp only [Bool.and_eq_true, decide_eq_true_eq] at h
  exact ⟨by have := h.1; omega, by have := h.2; omega⟩
theorem rngD_len (lo hi : Int) : (rngD lo hi).length = (hi - lo).toNat := by unfold rngD; rw [List.length_map, List.length_range]
theorem rng_walk {lo hi : Int} {H0 : Hp} : L2.Walk (Itr lo (hi - lo).toNat) (rngD lo hi).length (fun _ => True) (YD (rngD lo hi) H0) := by
  rw [rngD_len]
  refine walk_range.mono (fun _ g => g) fun i Hh x Hh' hi' g y => ⟨y.1, .int (lo + (i : Nat)), ?_, by rw [y.2]; exact .int _⟩
  unfold rngD
  rw [List.getElem?_map, List.getElem?_range hi']
  rfl
theorem v_rg1 {tg : Expr} {p : Pos} (hg : Gl X "range") (hm : X.mg "range" = none) (ha : PE X a (tE (ky X) W fa)) (hs : noStar a = true) : PI X tg (.Call (.Name "range" p) [a] [] pos) (tI (ky X) W (rg1E fa)) := by
  refine (pi_range1 hg hm (pa_cons ha pa_nil (star_cons hs _)) (star_cons hs _)).imp fun σ H R h => ?_
  obtain ⟨Γ, H0, r0, h⟩ := h
  unfold rg1E at h
  rw [bnd_int] at h
  refine ⟨Γ, H0, r0, (sem.bnd h).mono fun oa Γ1 H01 H1 r1 s1 h1 v qv => ?_⟩
  obtain ⟨n, e, h2⟩ := sem.int r1 qv h1
  subst e
  by_cases hn : rngOk n = true
  · rw [if_pos hn] at h2
    obtain ⟨b1, b2⟩ := rng_ok hn
    refine ⟨n, rfl, b1, b2, ?_⟩
    have w := rng_walk (lo := 0) (hi := n) (H0 := H01)
    rw [Int.sub_zero] at w
    exact h2 _ _ r1 StE.refl _ _ w fun _ _ => trivial
  · rw [if_neg hn] at h2
    exact False.elim h2
theorem v_rg2 {tg : Expr} {p : Pos} (hg : Gl X "range") (hm : X.mg "range" = none) (ha : PE X a (tE (ky X) W fa)) (hb : PE X b (tE (ky X) W fb)) (hs : noStar a = true) (hs2 : noStar b = true) : PI X tg (.Call (.Name "range" p) [a, b] [] pos) (tI (ky X) W (rg2E fa fb)) := by
  refine (pi_range2 hg hm (pa_cons ha (pa_cons hb pa_nil (star_cons hs2 _)) (star_cons hs _)) (by rw [star_cons hs, star_cons hs2]; rfl) (star_cons hs2 _)).imp fun σ H R h => ?_
  obtain ⟨Γ, H0, r0, h⟩ := h
  unfold rg2E at h
  rw [bnd_int] at h
  refine ⟨Γ, H0, r0, (sem.bnd h).mono fun oa Γ1 H01 H1 r1 s1 h1 v qv => ?_⟩
  obtain ⟨n, e, h2⟩ := sem.int r1 qv h1
  subst e
  rw [bnd_int] at h2
  refine ⟨Γ1, H01, r1, (sem.bnd h2).mono fun ob Γ2 H02 H2 r2 s2 h3 u qu => ?_⟩
  obtain ⟨k, e, h4⟩ := sem.int r2 qu h3
  subst e
  by_cases hn : (rngOk n && rngOk k) = true
  · rw [if_pos hn] at h4
    rw [Bool.and_eq_true] at hn
    obtain ⟨b1, b2⟩ := rng_ok hn.1
    obtain ⟨b3, b4⟩ := rng_ok hn.2
    exact ⟨n, k, rfl, ⟨b1, b2, b3, b4⟩, h4 _ _ r2 StE.refl _ _ rng_walk fun _ _ => trivial⟩
  · rw [if_neg hn] at h4
    exact False.elim h4
theorem v_rgD {tg : Expr} {p p1 p2 : Pos} {k1 : Nat} (hg : Gl X "range") (hm : X.mg "range" = none) (ha : PE X a (tE (ky X) W fa)) (hb : PE X b (tE (ky X) W fb)) (hs : noStar a = true) (hs2 : noStar b = true) : PI X tg (.Call (.Name "range" p) [a, b, .UnaryOp .USub (.Constant (.int 1) k1 p1) p2] [] pos) (tI (ky X) W (rgDE fa fb)) := by
  have hc3 : PE X (.UnaryOp .USub (.Constant (.int 1) k1 p1) p2) (tUn (rU fun i => .int (-i)) (tC (.int 1))) := pe_un un_neg pe_int
  refine (pi_range3 hg hm (pa_cons ha (pa_cons hb (pa_cons hc3 pa_nil (star_cons rfl _)) (star_cons hs2 _)) (star_cons hs _)) (star_cons hs _) (back_star (by rw [List.all_cons, hs2]; rfl))).imp fun σ H R h => ?_
  obtain ⟨Γ, H0, r0, h⟩ := h
  unfold rgDE at h
  rw [bnd_int] at h
  refine ⟨Γ, H0, r0, (sem.bnd h).mono fun oa Γ1 H01 H1 r1 s1 h1 v qv => ?_⟩
  obtain ⟨n, e, h2⟩ := sem.int r1 qv h1
  subst e
  rw [bnd_int] at h2
  refine ⟨Γ1, H01, r1, (sem.bnd h2).mono fun ob Γ2 H02 H2 r2 s2 h3 u qu => ?_⟩
  obtain ⟨k, e, h4⟩ := sem.int r2 qu h3
  subst e
  by_cases hn : (rngOk n && rngOk k) = true
  · rw [if_pos hn] at h4
    rw [Bool.and_eq_true] at hn
    obtain ⟨b1, b2⟩ := rng_ok hn.1
    obtain ⟨b3, b4⟩ := rng_ok hn.2
    refine ⟨1, rfl, n, k, -1, (n - k).toNat, rfl, RgC.neg b1 b2 b3 b4, h4 _ _ r2 StE.refl _ (fun _ => True) ?_ fun _ _ => trivial⟩
    show L2.Walk _ ((List.range (n - k).toNat).map fun j => PyData.int (n - (j : Nat))).length _ _
    rw [List.length_map, List.length_range]
    refine walk_rangeC.mono (fun _ g => g) fun i Hh x Hh' hi' g y => ⟨y.1, .int (n - (i : Nat)), ?_, ?_⟩
    · rw [List.getElem?_map, List.getElem?_range hi']
      rfl
    · rw [y.2]
      show Vd H02 (V.int (n + ((i : Nat) : Int) * -1)) _
      rw [show n + ((i : Nat) : Int) * -1 = n - (i : Nat) by omega]
      exact .int _
  · rw [if_neg hn] at h4
    exact False.elim h4
theorem v_rev {tg : Expr} {p : Pos} (hg : Gl X "reversed") (hm : X.mg "reversed" = none) (ha : PE X a (tE (ky X) W fa)) (hs : noStar a = true) : PI X tg (.Call (.Name "reversed" p) [a] [] pos) (tI (ky X) W (revE fa)) := by
  refine (pi_reversed hg hm (pa_cons ha pa_nil (star_cons hs _)) (star_cons hs _)).imp fun σ H R h => ?_
  obtain ⟨Γ, H0, r0, h⟩ := h
  refine ⟨Γ, H0, r0, (sem.bnd h).mono fun oa Γ1 H01 H1 r1 s1 h1 v qv => ?_⟩
  cases q2 : soft oa Γ1 with
  | ok d Γ2 =>
    have e2 := soft_same q2
    subst e2
    have hv := (sem.softE r1 qv q2).1
    have h3 := sem.softK r1 q2 h1
    cases d with
    | list ds =>
      obtain ⟨q, vs, rfl, e, hvs⟩ := hv.list r1.same
      refine ⟨q, vs, rfl, SqL.of e, ?_⟩
      refine h3 _ _ r1 StE.refl _ _ (by
        show L2.Walk _ ds.reverse.length _ _
        rw [List.length_reverse, ← hvs.length]
        refine walk_rev.mono (fun _ g => g) fun i Hh x Hh' hi g y => ⟨y.1, ?_⟩
        obtain ⟨d, h1, h2⟩ := hvs.get y.2
        refine ⟨d, ?_, h2⟩
        rw [List.getElem?_reverse (by rw [← hvs.length]; exact hi), ← hvs.length]
        exact h1) fun Hx st => ?_
      exact SqL.of (soft_stay r0 r1 s1 qv e q2 st)
    | _ => exact False.elim h3
  | ex c g =>
    unfold soft at q2
    split at q2 <;> try cases q2
    split at q2 <;> cases q2
  | bad =>
    unfold sem bnd at h1
    rw [q2] at h1
    exact False.elim h1
end
end VL

/-! VI: comprehensions. -/
namespace VL
open PySem PySem.Spec PyProof.Rows L2

/-! ### slots hidden and brought back -/
theorem gt_hide (p : Nat → Bool) : ∀ (Γ : VL.Env) (k i : Nat), gt (hideS p k Γ) i = if p (k + i) then .no else noXc (gt Γ i)
  | [], k, i => by
    rw [show hideS p k [] = [] from rfl]
    cases i <;> (simp only [gt]; split <;> rfl)
  | s :: r, k, 0 => by
    show (if p k then Slot.no else noXc s) = if p (k + 0) then .no else noXc s
    rw [Nat.add_zero]
  | s :: r, k, i + 1 => by
    show gt (hideS p (k + 1) r) i = _
    rw [gt_hide p r (k + 1) i, show k + 1 + i = k + (i + 1) by omega]
    rfl
theorem len_hide (p : Nat → Bool) : ∀ (Γ : VL.Env) (k : Nat), (hideS p k Γ).length = Γ.length
  | [], _ => rfl
  | s :: r, k => by
    show (hideS p (k + 1) r).length + 1 = r.length + 1
    rw [len_hide p r (k + 1)]
def isXc : Slot → Bool
  | .xc _ => true
  | _ => false
theorem gt_back (p : Nat → Bool) : ∀ (os ns : VL.Env) (k i : Nat), os.length = ns.length → gt (backS p k os ns) i = if p (k + i) || isXc (gt os i) then gt os i else gt ns i
  | [], [], k, i, _ => by
    rw [show backS p k [] [] = [] from rfl]
    simp
  | [], _ :: _, _, _, h => by simp at h
  | _ :: _, [], _, _, h => by simp at h
  | o :: os, n :: ns, k, 0, _ => by
    show (if p k then o else bkX o n) = if p (k + 0) || isXc o then o else n
    rw [Nat.add_zero]
    cases p k <;> cases o <;> rfl
  | o :: os, n :: ns, k, i + 1, h => by
    show gt (backS p (k + 1) os ns) i = _
    rw [gt_back p os ns (k + 1) i (by simpa using h), show k + 1 + i = k + (i + 1) by omega]
    rfl
theorem len_back (p : Nat → Bool) : ∀ (os ns : VL.Env) (k : Nat), os.length = ns.length → (backS p k os ns).length = os.length
  | [], [], _, _ => rfl
  | [], _ :: _, _, h => by simp at h
  | _ :: _, [], _, h => by simp at h
  | o :: os, n :: ns, k, h => by
    show (backS p (k + 1) os ns).length + 1 = os.length + 1
    rw [len_back p os ns (k + 1) (by simpa using h)]
theorem wipe_get (σ : St) : ∀ (vs : List Nat) (j : Nat), (wipe σ vs)[j]? = if j ∈ vs then (if j < σ.length then some none else none) else σ[j]?
  | [], j => by simp [wipe]
  | v :: vs, j => by
    unfold wipe
    have hl := wipe_length σ vs
    by_cases hv : v = j
    · subst hv
      by_cases hlt : v < σ.length
      · rw [List.getElem?_set_self (by rw [hl]; exact hlt)]
        simp [hlt]
      · rw [List.getElem?_eq_none (by rw [List.length_set, hl]; omega)]
        simp [hlt]
    · rw [List.getElem?_set_ne hv, wipe_get σ vs j]
      have : (j ∈ v :: vs) = (j ∈ vs) := by simp [Ne.symm hv]
      simp only [this]
theorem wipe_set {σ : St} {vs : List Nat} {i : Nat} {x : Option V} (h : i ∈ vs) : wipe ((wipe σ vs).set i x) vs = wipe σ vs := by
  apply List.ext_getElem?
  intro j
  rw [wipe_get, wipe_get]
  split
  · rw [List.length_set, wipe_length]
  · rename_i hj
    rw [List.getElem?_set_ne (fun e : i = j => hj (by rw [← e]; exact h)), wipe_get, if_neg hj]
abbrev kyb (Y : Ky) : Ky := ⟨Y.K, Y.mg, []⟩
abbrev W0 : WX := fun _ _ _ _ => False
section
variable {Y : Ky} {Γ : VL.Env} {σ : St} {H0 H : Hp}
theorem noXc_eq {s t : Slot} (h : noXc s = t) (n : t ≠ .no) : s = t := by
  cases s <;> first | exact h | exact absurd h.symm n
theorem hide_key {p : Nat → Bool} {i : Nat} {s : Slot} (h : gt (hideS p 0 Γ) i = s) (n : s ≠ .no) : gt Γ i = s ∧ p i = false := by
  rw [gt_hide, Nat.zero_add] at h
  split at h
  · exact absurd h.symm n
  · rename_i hp
    exact ⟨noXc_eq h n, by simpa using hp⟩
theorem Rep.hide {p : Nat → Bool} {vs : List Nat} (r : Rep Y Γ H0 σ H) (hp : ∀ i ∈ vs, p i = true) : Rep (kyb Y) (hideS p 0 Γ) H0 (wipe σ vs) H := by
  have get : ∀ i, p i = false → (wipe σ vs)[i]? = σ[i]? := fun i h => wipe_out fun z => by rw [hp i z] at h; cases h
  refine ⟨by rw [len_hide, wipe_length]; exact r.len, r.same, fun i d h => ?_, fun i o h => ?_, fun i j o o' a h1 h2 e1 e2 => ?_, fun i c h => ?_, fun i ns h => ?_⟩
  · obtain ⟨h1, h2⟩ := hide_key h (by simp)
    rw [get i h2]
    exact r.va i d h1
  · obtain ⟨h1, h2⟩ := hide_key h (by simp)
    rw [get i h2]
    exact r.ow i o h1
  · obtain ⟨h1, h1'⟩ := hide_key h1 (by simp)
    obtain ⟨h2, h2'⟩ := hide_key h2 (by simp)
    rw [get i h1'] at e1
    rw [get j h2'] at e2
    exact r.inj i j o o' a h1 h2 e1 e2
  · rw [gt_hide] at h
    split at h
    · cases h
    · cases q : gt Γ i <;> rw [q] at h <;> cases h
  · obtain ⟨h1, h2⟩ := hide_key h (by simp)
    rw [get i h2]
    exact r.sc i ns h1
/-- a name is bound -/
theorem Rep.set {i : Nat} {s : Slot} {v : V} (r : Rep Y Γ H0 σ H) (hs : (∃ d, s = .va d ∧ Vd H0 v d) ∨ (∃ o a ho, s = .ow o ∧ v = .ref a ∧ H0 a = none ∧ H a = some ho ∧ RepO H0 o ho ∧ ∀ j o', gt Γ j = .ow o' → σ[j]? = some (some (.ref a)) → j = i)) :
    Rep Y (st Γ i s) H0 (σ.set i (some v)) H := by
  have lt : ∀ {t : Slot}, (if True ∧ i < Γ.length then s else gt Γ i) = t → t ≠ gt Γ i → i < Γ.length := fun {t} h n => by
    split at h
    · rename_i hj; exact hj.2
    · exact absurd h.symm n
  have other : ∀ {j : Nat}, ¬ (j = i ∧ i < Γ.length) → (σ.set i (some v))[j]? = σ[j]? := fun {j} h => by
    by_cases e : j = i
    · subst e
      have hl : ¬ j < Γ.length := fun z => h ⟨rfl, z⟩
      rw [List.getElem?_eq_none (by rw [List.length_set, ← r.len]; omega), List.getElem?_eq_none (by rw [← r.len]; omega)]
    · exact List.getElem?_set_ne (Ne.symm e)
  have here : i < Γ.length → (σ.set i (some v))[i]? = some (some v) := fun h => List.getElem?_set_self (by rw [← r.len]; exact h)
  refine ⟨by rw [len_st, List.length_set]; exact r.len, r.same, fun j d h => ?_, fun j o h => ?_, fun j k o o' a h1 h2 e1 e2 => ?_, fun j c h => ?_, fun j ns h => ?_⟩
  · rw [gt_st] at h
    split at h
    · rename_i hj
      rcases hs with ⟨d', rfl, hv⟩ | ⟨_, _, _, rfl, _⟩
      · cases h
        rw [hj.1]
        exact ⟨v, here hj.2, hv⟩
      · cases h
    · rename_i hj
      rw [other hj]
      exact r.va j d h
  · rw [gt_st] at h
    split at h
    · rename_i hj
      rcases hs with ⟨d', rfl, hv⟩ | ⟨o1, a1, ho1, rfl, rfl, h1, h2, h3, h4⟩
      · cases h
      · cases h
        rw [hj.1]
        exact ⟨a1, ho1, here hj.2, h1, h2, h3⟩
    · rename_i hj
      rw [other hj]
      exact r.ow j o h
  · rw [gt_st] at h1 h2
    split at h1
    · rename_i hj
      split at h2
      · rename_i hk
        rw [hj.1, hk.1]
      · rename_i hk
        rcases hs with ⟨d', rfl, hv⟩ | ⟨o1, a1, ho1, rfl, rfl, g1, g2, g3, g4⟩
        · cases h1
        · rw [hj.1, here hj.2] at e1
          cases e1
          rw [other hk] at e2
          rw [hj.1]
          exact (g4 k o' h2 e2).symm
    · rename_i hj
      split at h2
      · rename_i hk
        rcases hs with ⟨d', rfl, hv⟩ | ⟨o1, a1, ho1, rfl, rfl, g1, g2, g3, g4⟩
        · cases h2
        · rw [hk.1, here hk.2] at e2
          cases e2
          rw [other hj] at e1
          rw [hk.1]
          exact g4 j o h1 e1
      · rename_i hk
        rw [other hj] at e1
        rw [other hk] at e2
        exact r.inj j k o o' a h1 h2 e1 e2
  · rw [gt_st] at h
    split at h
    · rename_i hj
      rcases hs with ⟨d', rfl, hv⟩ | ⟨_, _, _, rfl, _⟩ <;> cases h
    · rename_i hj
      rw [other hj]
      exact r.xc j c h
  · rw [gt_st] at h
    split at h
    · rename_i hj
      rcases hs with ⟨d', rfl, hv⟩ | ⟨_, _, _, rfl, _⟩ <;> cases h
    · rename_i hj
      rw [other hj]
      exact r.sc j ns h
/-- a list that nobody holds, and that is not frozen, is written -/
theorem Rep.tmp {D : Addr} {ho : HO} (r : Rep Y Γ H0 σ H) (n0 : H0 D = none) (no : ¬ Ow Γ σ D) : Rep Y Γ H0 σ (upd H D ho) where
  len := r.len
  same := fun b o h => by rw [upd_ne (ne_of_none h n0)]; exact r.same b o h
  va := r.va
  ow := fun i o h => by
    obtain ⟨a, hoa, h1, h2, h3, h4⟩ := r.ow i o h
    exact ⟨a, hoa, h1, h2, by rw [upd_ne (fun z : a = D => no (by rw [← z]; exact ⟨i, o, h, h1⟩))]; exact h3, h4⟩
  inj := r.inj
  xc := r.xc
  sc := r.sc
def del (H : Hp) (D : Addr) : Hp := fun b => if b = D then none else H b
theorem del_same {H : Hp} {D : Addr} : del H D D = none := if_pos rfl
theorem del_ne {H : Hp} {D b : Addr} (h : b ≠ D) : del H D b = H b := if_neg h
theorem Rep.del {D : Addr} (r : Rep Y Γ H0 σ H) (n0 : H0 D = none) (no : ¬ Ow Γ σ D) : Rep Y Γ H0 σ (del H D) where
  len := r.len
  same := fun b o h => by rw [del_ne (ne_of_none h n0)]; exact r.same b o h
  va := r.va
  ow := fun i o h => by
    obtain ⟨a, hoa, h1, h2, h3, h4⟩ := r.ow i o h
    exact ⟨a, hoa, h1, h2, by rw [del_ne (fun z : a = D => no (by rw [← z]; exact ⟨i, o, h, h1⟩))]; exact h3, h4⟩
  inj := r.inj
  xc := r.xc
  sc := r.sc
theorem upd_del {H : Hp} {D : Addr} {o : HO} (h : H D = some o) : upd (VL.del H D) D o = H := by
  funext b
  by_cases e : b = D
  · subst e; rw [upd_same, h]
  · rw [upd_ne e, del_ne e]
/-- steps, the list at D apart -/
theorem StE.del {Γ' : VL.Env} {H0' H' : Hp} {D : Addr} (s : StE Γ σ H0 H Γ' H0' H') (dn : H D ≠ none) : StE Γ σ H0 (del H D) Γ' H0' H' :=
  ⟨s.fr, fun b hb => by
    rcases s.nf b hb with h | h | h
    · exact .inl h
    · refine .inr (.inl ?_)
      by_cases e : b = D
      · rw [e]; exact del_same
      · rw [del_ne e]; exact h
    · exact .inr (.inr h), fun b o hb n => by
    by_cases e : b = D
    · rw [e, del_same] at hb; cases hb
    · rw [del_ne e] at hb; exact s.ke b o hb n, s.sl, fun b hb => by
    by_cases e : b = D
    · rw [e, del_same] at hb; exact absurd rfl hb
    · rw [del_ne e] at hb; exact s.dm b hb⟩
theorem StE.tmp {Γ' : VL.Env} {H0' H' : Hp} {D : Addr} {o : HO} (s : StE Γ σ H0 H Γ' H0' H') (dn : H D = none) : StE Γ σ H0 H Γ' H0' (upd H' D o) :=
  ⟨s.fr, s.nf, fun b u hb n => by rw [upd_ne (ne_of_none hb dn)]; exact s.ke b u hb n, s.sl, fun b hb => by
    by_cases e : b = D
    · rw [e, upd_same]; simp
    · rw [upd_ne e]; exact s.dm b hb⟩
end

/-- a loop over it, whatever a turn asks -/
theorem wk_it {J : It} {n : Nat} {G : Hp → Prop} {Yl : Nat → Hp → V → Hp → Prop} (w : L2.Walk J n G Yl) {H1 : Hp} {Qd : Hp → Prop} {Step : (Hp → Prop) → V → Hp → Prop} (Pv : Nat → Hp → Prop) (h0 : Pv 0 H1) (hG : ∀ i H, i ≤ n → Pv i H → G H)
    (hs : ∀ i x H H', i < n → Pv i H → Yl i H x H' → Step (Pv (i + 1)) x H') (hd : ∀ H, Pv n H → Qd H) :
    ∃ W : Nat → Nat → Hp → Prop, (∃ m, W 0 m H1) ∧ ∀ i m H, W i m H → (J.stop i H ∧ Qd H) ∨ (J.go i H ∧ ∃ Nx : Hp → Prop, (∀ H', Nx H' → ∃ m', m' < m ∧ W (i + 1) m' H') ∧ ∀ x H', J.yld i H x H' → Step Nx x H') := by
  refine ⟨fun i m H => m = n - i ∧ i ≤ n ∧ Pv i H, ⟨n, rfl, Nat.zero_le _, h0⟩, ?_⟩
  rintro i m H ⟨rfl, hi, p⟩
  have q := hG i H hi p
  rcases Nat.lt_or_ge i n with hlt | hge
  · refine .inr ⟨w.goes i H hlt q, Pv (i + 1), fun H' p' => ⟨n - (i + 1), by omega, rfl, hlt, p'⟩, fun x H' y => ?_⟩
    exact hs i x H H' hlt p (w.yields i H x H' hlt q y)
  · have e : i = n := Nat.le_antisymm hi hge
    subst e
    exact .inl ⟨w.stops H q, hd H p⟩

section
variable {Y : Ky} {W : WX}
/-- what a turn's body does to the machine: it comes to P whenever the list at D has grown by what body gives -/
def TurnOk (Yb : Ky) (L : Addr) (body : M (List D)) (Inner : (Hp → Prop) → St → Hp → Prop) : Prop :=
  ∀ (Γb : VL.Env) (σ2 : St) (H0b Hb : Hp) (vs : List V) (ds ys : List D) (Γa : VL.Env) (P : Hp → Prop), Rep Yb Γb H0b σ2 Hb → H0b L = none → Hb L = some (.lst vs) → ¬ Ow Γb σ2 L → VdAll H0b vs ds → body Γb = .ok ys Γa → ds.length + ys.length ≤ SZ →
    (∀ Ha H0a vsa, Rep Yb Γa H0a σ2 Ha → StE Γb σ2 H0b (del Hb L) Γa H0a Ha → H0a L = none → Ha L = some (.lst vsa) → VdAll H0a vsa (ds ++ ys) → P Ha) → Inner P σ2 Hb
theorem drop_get {α : Type} : ∀ {l : List α} {i : Nat} {x : α}, l[i]? = some x → l.drop i = x :: l.drop (i + 1)
  | [], i, x, h => by simp at h
  | y :: r, 0, x, h => by
    have e : y = x := Option.some.inj h
    rw [e]; rfl
  | y :: r, i + 1, x, h => by
    show r.drop i = x :: r.drop (i + 1)
    exact drop_get (l := r) h
theorem len_rep {Y : Ky} {Γ Γ' : VL.Env} {σ : St} {H0 H H0' H' : Hp} (a : Rep Y Γ H0 σ H) (b : Rep Y Γ' H0' σ H') : Γ.length = Γ'.length := a.len.trans b.len.symm
/-- what is kept aside comes back behind the loop -/
theorem Rep.back {vs : List Nat} {p : Nat → Bool} {Γ Γ2 : VL.Env} {σ : St} {H0 H H02 H2 : Hp} (r : Rep Y Γ H0 σ H) (r2 : Rep (kyb Y) Γ2 H02 (wipe σ vs) H2) (hp : ∀ i ∈ vs, p i = true) (s : StE (hideS p 0 Γ) σ H0 H Γ2 H02 H2) : Rep Y (backS p 0 Γ Γ2) H02 σ H2 ∧ StE Γ σ H0 H (backS p 0 Γ Γ2) H02 H2 := by
  have hl : Γ.length = Γ2.length := by rw [r.len, r2.len, wipe_length]
  have get : ∀ i, p i = false → (wipe σ vs)[i]? = σ[i]? := fun i h => wipe_out fun z => by rw [hp i z] at h; cases h
  have key : ∀ {i s}, gt (backS p 0 Γ Γ2) i = s → (gt Γ i = s ∧ (p i = true ∨ isXc (gt Γ i) = true)) ∨ (gt Γ2 i = s ∧ p i = false) := fun {i s} h => by
    rw [gt_back p Γ Γ2 0 i hl, Nat.zero_add] at h
    split at h
    · rename_i hk
      rw [Bool.or_eq_true] at hk
      exact .inl ⟨h, hk⟩
    · rename_i hk
      rw [Bool.or_eq_true, not_or] at hk
      exact .inr ⟨h, by simpa using hk.1⟩
  -- an owned slot that was kept aside: its object stands as it was
  have aside : ∀ {i o a ho}, gt Γ i = .ow o → p i = true → σ[i]? = some (some (.ref a)) → H0 a = none → H a = some ho → H02 a = none ∧ H2 a = some ho := fun {i o a ho} g hi e h0 hh => by
    have no : ¬ Ow (hideS p 0 Γ) σ a := by
      rintro ⟨j, o', h1, h2⟩
      obtain ⟨h1, h1'⟩ := hide_key h1 (by simp)
      have e' := r.inj j i o' o a h1 g h2 e
      rw [e', hi] at h1'
      cases h1'
    refine ⟨?_, s.ke a _ hh no⟩
    cases q : H02 a with
    | none => rfl
    | some u =>
      rcases s.nf a (by rw [q]; simp) with z | z | z
      · exact absurd h0 z
      · rw [hh] at z; cases z
      · exact absurd z no
  have ups : ∀ {i o}, gt (backS p 0 Γ Γ2) i = .ow o → ∃ o', gt Γ i = .ow o' := fun {i o} h => by
    rcases key h with ⟨h1, _⟩ | ⟨h1, _⟩
    · exact ⟨o, h1⟩
    · obtain ⟨o', h2⟩ := s.sl i o h1
      exact ⟨o', (hide_key h2 (by simp)).1⟩
  refine ⟨⟨by rw [len_back p Γ Γ2 0 hl]; exact r.len, r2.same, fun i d h => ?_, fun i o h => ?_, fun i j o o' a h1 h2 e1 e2 => ?_, fun i c h => ?_, fun i ns h => ?_⟩, ⟨s.fr, fun b hb => ?_, fun b o hb n => s.ke b o hb fun z => n ?_, fun i o h => ups h, s.dm⟩⟩
  · rcases key h with ⟨h1, _⟩ | ⟨h1, h2⟩
    · obtain ⟨v, e1, e2⟩ := r.va i d h1
      exact ⟨v, e1, Vd.mono s.fr d v e2⟩
    · rw [← get i h2]
      exact r2.va i d h1
  · rcases key h with ⟨h1, h2⟩ | ⟨h1, h2⟩
    · obtain ⟨a, ho, e1, e2, e3, e4⟩ := r.ow i o h1
      rcases h2 with h2 | h2
      · obtain ⟨f1, f2⟩ := aside h1 h2 e1 e2 e3
        exact ⟨a, ho, e1, f1, f2, e4.mono s.fr⟩
      · rw [h1] at h2; cases h2
    · rw [← get i h2]
      exact r2.ow i o h1
  · obtain ⟨u, hu⟩ := ups h1
    obtain ⟨u', hu'⟩ := ups h2
    exact r.inj i j u u' a hu hu' e1 e2
  · rcases key h with ⟨h1, _⟩ | ⟨h1, h2⟩
    · exact r.xc i c h1
    · obtain ⟨a, _, oe, C, z, _⟩ := r2.xc i c h1
      exact absurd z (by simp)
  · rcases key h with ⟨h1, _⟩ | ⟨h1, h2⟩
    · obtain ⟨a, e1, e2⟩ := r.sc i ns h1
      exact ⟨a, e1, s.fr.seq e2⟩
    · rw [← get i h2]
      exact r2.sc i ns h1
  · rcases s.nf b hb with h | h | ⟨i, o, h1, h2⟩
    · exact .inl h
    · exact .inr (.inl h)
    · exact .inr (.inr ⟨i, o, (hide_key h1 (by simp)).1, h2⟩)
  · obtain ⟨i, o, h1, h2⟩ := z
    exact ⟨i, o, (hide_key h1 (by simp)).1, h2⟩
/-- the turns of one clause: the list at L grows by what compL gives -/
theorem comp_loop {L : Addr} {i : Nat} {own : List Nat} {im : Itm} {body : M (List D)} {Inner : (Hp → Prop) → St → Hp → Prop} (tb : TurnOk (kyb Y) L body Inner) (hi : i ∈ own) {Γ Γ2 : VL.Env} {σ : St} {H0 Hs : Hp} {vs0 : List V} {ds0 zs : List D} {J : It} {G : Hp → Prop}
    (r : Rep Y Γ H0 σ Hs) (ln : Hs L = none) (hv : VdAll H0 vs0 ds0) (wk : L2.Walk J im.ds.length G (YD im.ds H0)) (hG : ∀ Hx, StayA (lockS im.lock Γ) σ Hs Hx → G Hx) (e : compL i own body im.ds (hideS (keepP own im.lock) 0 Γ) = .ok zs Γ2) (hz : ds0.length + zs.length ≤ SZ) {Qd : Hp → Prop}
    (hd : ∀ H' H0' vs, Rep Y (backS (keepP own im.lock) 0 Γ Γ2) H0' σ H' → StE Γ σ H0 Hs (backS (keepP own im.lock) 0 Γ Γ2) H0' H' → H0' L = none → H' L = some (.lst vs) → VdAll H0' vs (ds0 ++ zs) → Qd H') :
    ∃ W : Nat → Nat → Hp → Prop, (∃ m, W 0 m (upd Hs L (.lst vs0))) ∧ ∀ k m H, W k m H → (J.stop k H ∧ Qd H) ∨ (J.go k H ∧ ∃ Nx : Hp → Prop, (∀ H', Nx H' → ∃ m', m' < m ∧ W (k + 1) m' H') ∧ ∀ x H', J.yld k H x H' → Inner Nx ((wipe σ own).set i (some x)) H') := by
  have kp : ∀ j ∈ own, keepP own im.lock j = true := fun j hj => by
    unfold keepP
    rw [Bool.or_eq_true]
    exact .inl (by simpa using hj)
  have ko : ∀ j ∈ own, ownP own j = true := fun j hj => by
    unfold ownP
    simpa using hj
  have rh := r.hide (vs := own) kp
  have noL0 : H0 L = none := r.same.free ln
  have noOw : ∀ {Γ' : VL.Env} {H0' H' : Hp} {σ' : St}, (∀ b, Ow Γ' σ' b → Ow (hideS (keepP own im.lock) 0 Γ) σ b) → ¬ Ow Γ' σ' L := fun {Γ' H0' H' σ'} h z => by
    obtain ⟨j, o, h1, h2⟩ := h L z
    obtain ⟨_, ho, h3⟩ := r.own ⟨j, o, (hide_key h1 (by simp)).1, h2⟩
    rw [ln] at h3
    cases h3
  -- what is known ahead of each turn
  refine wk_it wk (fun j Hx => ∃ Γj H0j vs ds zs', Rep (kyb Y) Γj H0j (wipe σ own) Hx ∧ StE (hideS (keepP own im.lock) 0 Γ) σ H0 Hs Γj H0j Hx ∧ H0j L = none ∧ Hx L = some (.lst vs) ∧ VdAll H0j vs (ds0 ++ ds) ∧ compL i own body (im.ds.drop j) Γj = .ok zs' Γ2 ∧ zs = ds ++ zs') ?_ ?_ ?_ ?_
  · refine ⟨_, H0, vs0, [], zs, rh.tmp noL0 (noOw (Γ' := hideS (keepP own im.lock) 0 Γ) (H0' := H0) (H' := Hs) fun b ⟨j, o, h1, h2⟩ => ⟨j, o, h1, ?_⟩), StE.refl.tmp ln, noL0, upd_same, by rw [List.append_nil]; exact hv, e, rfl⟩
    obtain ⟨_, hk⟩ := hide_key h1 (by simp)
    rw [← h2]
    exact (wipe_out fun z => by rw [kp j z] at hk; cases hk).symm
  · rintro j Hx hj ⟨Γj, H0j, vs, ds, zs', rj, sj, l0, l1, hv', ej, ez⟩
    refine hG Hx fun b o hb n => sj.ke b o hb fun ⟨k, u, h1, h2⟩ => n ?_
    obtain ⟨h1', hk⟩ := hide_key h1 (by simp)
    refine ⟨k, u, ?_, h2⟩
    unfold lockS
    split
    · exact h1'
    · rename_i li el
      rw [gt_st, if_neg]
      · exact h1'
      · rintro ⟨z, _⟩
        unfold keepP at hk
        rw [el] at hk
        rw [Bool.or_eq_false_iff] at hk
        have := hk.2
        rw [z] at this
        simp at this
  · rintro j x Hx Hx' hj ⟨Γj, H0j, vs, ds, zs', rj, sj, l0, l1, hv', ej, ez⟩ ⟨eH, d, hd', hx⟩
    subst eH
    rw [drop_get hd'] at ej
    unfold compL at ej
    cases qb : body (st Γj i (.va d)) with
    | ok ys Γa =>
      rw [qb] at ej
      dsimp only at ej
      cases qc : compL i own body (im.ds.drop (j + 1)) (hideS (ownP own) 0 Γa) with
      | ok zs2 Γz =>
        rw [qc] at ej
        cases ej
        have hxj : Vd H0j x d := Vd.mono sj.fr d x hx
        have rb : Rep (kyb Y) (st Γj i (.va d)) H0j ((wipe σ own).set i (some x)) Hx' := rj.set (.inl ⟨d, rfl, hxj⟩)
        have lift : ∀ b, Ow (st Γj i (.va d)) ((wipe σ own).set i (some x)) b → Ow (hideS (keepP own im.lock) 0 Γ) σ b := fun b ⟨k, o, h1, h2⟩ => by
          have h1 := gt_keep h1 (fun o z => nomatch z)
          obtain ⟨o', h3⟩ := sj.sl k o h1
          obtain ⟨_, hk⟩ := hide_key h3 (by simp)
          have nk : k ∉ own := fun z => by rw [kp k z] at hk; cases hk
          have ne : i ≠ k := fun z => nk (z ▸ hi)
          rw [List.getElem?_set_ne ne, wipe_out nk] at h2
          exact ⟨k, o', h3, h2⟩
        have noB : ¬ Ow (st Γj i (.va d)) ((wipe σ own).set i (some x)) L := noOw (H0' := H0) (H' := Hs) lift
        refine tb _ _ H0j Hx' vs (ds0 ++ ds) ys Γa _ rb l0 l1 noB hv' qb ?_ fun Ha H0a vsa ra sa la0 la1 hva => ?_
        · rw [ez] at hz
          simp only [List.length_append] at hz ⊢
          omega
        · have ra' := ra.hide (p := ownP own) (vs := own) ko
          rw [show wipe ((wipe σ own).set i (some x)) own = wipe σ own from wipe_set hi] at ra'
          refine ⟨_, H0a, vsa, ds ++ ys, zs2, ra', ⟨sj.fr.trans sa.fr, fun b hb => ?_, fun b o hb n => ?_, fun k o h => ?_, fun b hb => ?_⟩, la0, la1, by rw [← List.append_assoc]; exact hva, qc, by rw [ez, List.append_assoc]⟩
          · rcases sa.nf b hb with h | h | h
            · exact sj.nf b h
            · refine .inr (.inl ?_)
              by_cases eb : b = L
              · rw [eb]; exact ln
              · rw [del_ne eb] at h
                cases q : Hs b with
                | none => rfl
                | some u => exact absurd h (sj.dm b (by rw [q]; simp))
            · exact .inr (.inr (lift b h))
          · have eb : b ≠ L := fun z => by rw [z, ln] at hb; cases hb
            exact sa.ke b o (by rw [del_ne eb]; exact sj.ke b o hb n) fun z => n (lift b z)
          · obtain ⟨h1, _⟩ := hide_key h (by simp)
            obtain ⟨o1, h2⟩ := sa.sl k o h1
            exact sj.sl k o1 (gt_keep h2 (fun o z => nomatch z))
          · by_cases eb : b = L
            · rw [eb, la1]; simp
            · exact sa.dm b (by rw [del_ne eb]; exact sj.dm b hb)
      | ex c g => rw [qc] at ej; cases ej
      | bad => rw [qc] at ej; cases ej
    | ex c g => rw [qb] at ej; cases ej
    | bad => rw [qb] at ej; cases ej
  · rintro Hx ⟨Γj, H0j, vs, ds, zs', rj, sj, l0, l1, hv', ej, ez⟩
    rw [List.drop_length] at ej
    unfold compL at ej
    cases ej
    obtain ⟨rr, ss⟩ := r.back rj kp sj
    rw [List.append_nil] at ez
    subst ez
    exact hd Hx H0j vs rr ss l0 l1 hv'
end
end VL

/-! VJ: comprehensions, joined. -/
namespace VL
open PySem PySem.Spec PyProof.Rows L2
theorem hard_back {Y : Ky} {Γs Γ : VL.Env} {σ : St} {H0s Hs H0 H : Hp} {o : Od} {v : V} {d : D} {Γ1 : VL.Env} (r : Rep Y Γ H0 σ H) (s : StE Γs σ H0s Hs Γ H0 H) (q : RepOd Hs σ H0 H o v) (rs : Rep Y Γs H0s σ Hs) (e : hard o Γ = .ok d Γ1) :
    ∃ H01, Rep Y Γ1 H01 σ H ∧ StE Γs σ H0s Hs Γ1 H01 H ∧ Same H0 H01 ∧ Vd H01 v d := by
  obtain ⟨d', Γ1', H01, e1, r1, s1, sm, hv, _, _⟩ := hard_ok (W := W0) (f := ret) (K := fun _ _ _ _ => True) r s q.weak rs (by
    unfold semS VL.bnd
    rw [e]
    exact fun _ _ _ _ => trivial)
  rw [e] at e1
  cases e1
  exact ⟨H01, r1, s1, sm, hv⟩
/-- a turn of one clause -/
def Inn1 (Y : Ky) (cs : M Bool) (fe : M Od) (L : Addr) : (Hp → Prop) → St → Hp → Prop := fun P σ2 H => tT Y W0 cs σ2 H fun b H3 => if b = true then tE Y W0 fe σ2 H3 fun y H4 => ∃ acc, H4 L = some (.lst acc) ∧ acc.length < sizeLine ∧ P (upd H4 L (.lst (acc ++ [y]))) else P H3
/-- the list at L is as it was -/
theorem kept {Y : Ky} {Γ Γ' : VL.Env} {σ : St} {H0 H H0' H' : Hp} {L : Addr} {vs : List V} (s : StE Γ σ H0 H Γ' H0' H') (l0 : H0 L = none) (l1 : H L = some (.lst vs)) (no : ¬ Ow Γ σ L) : H0' L = none ∧ H' L = some (.lst vs) ∧ ¬ Ow Γ' σ L := by
  refine ⟨?_, s.ke _ _ l1 no, fun z => no (s.ow L z)⟩
  cases q : H0' L with
  | none => rfl
  | some u =>
    rcases s.nf L (by rw [q]; simp) with z | z | z
    · exact absurd l0 z
    · rw [l1] at z; cases z
    · exact absurd z no
theorem turn1 {Y : Ky} {L : Addr} {cs : M Bool} {fe : M Od} : TurnOk Y L (bodyE cs fe) (Inn1 Y cs fe L) := by
  intro Γb σ2 H0b Hb vs ds ys Γa P rb l0 l1 no hv e hz hP
  refine ⟨Γb, H0b, rb, ?_⟩
  unfold bodyE bnd at e
  cases q1 : cs Γb with
  | ok k Γ1 =>
    rw [q1] at e
    unfold sem
    rw [q1]
    intro H01 H1 r1 s1
    obtain ⟨m0, m1, m2⟩ := kept (Y := Y) s1 l0 l1 no
    cases k with
    | false =>
      simp only [Bool.false_eq_true, if_false] at e ⊢
      cases e
      exact hP H1 H01 vs r1 (s1.del (by rw [l1]; simp)) m0 m1 (by rw [List.append_nil]; exact VdAll.mono s1.fr ds vs hv)
    | true =>
      simp only [if_true] at e ⊢
      refine ⟨Γ1, H01, r1, ?_⟩
      unfold sem
      cases q2 : fe Γ1 with
      | ok o Γ2 =>
        rw [q2] at e
        dsimp only at e
        intro H02 H2 r2 s2 v qv
        obtain ⟨n0, n1, n2⟩ := kept (Y := Y) s2 m0 m1 m2
        cases q3 : hard o Γ2 with
        | ok d Γ3 =>
          rw [q3] at e
          cases e
          obtain ⟨H03, r3, s3, sm, hd⟩ := hard_back r2 s2 qv r1 q3
          obtain ⟨k0, k1, k2⟩ := kept (Y := Y) s3 m0 m1 m2
          have st : StE Γb σ2 H0b Hb Γa H03 H2 := s1.trans s3
          refine ⟨vs, n1, ?_, ?_⟩
          · rw [sizeLine_eq, hv.length]
            simp only [List.length_cons, List.length_nil] at hz
            show ds.length < SZ
            omega
          · exact hP _ H03 _ (r3.tmp k0 k2) ((st.del (by rw [l1]; simp)).tmp del_same) k0 upd_same ((VdAll.mono st.fr ds vs hv).append (.cons hd .nil))
        | ex c g => rw [q3] at e; cases e
        | bad => rw [q3] at e; cases e
      | ex c g => rw [q2] at e; cases e
      | bad => rw [q2] at e; cases e
  | ex c g => rw [q1] at e; cases e
  | bad => rw [q1] at e; cases e
section
variable {X : Cx} {W : WX} {fe : M Od} {cs : M Bool} {im : M Itm} {pos : Pos}
theorem comp_ok {i : Nat} {own : List Nat} (hi : i ∈ own) {σ : St} {H : Hp} {Q : VK} (h : tE (ky X) W (compE i own im cs fe) σ H Q) : tLc (tI (ky X) W im) (gName i) (tT (kyb (ky X)) W0 cs) (tE (kyb (ky X)) W0 fe) own σ H Q := by
  obtain ⟨Γ, H0, r0, h⟩ := h
  unfold compE compG at h
  rw [bnd_assoc] at h
  refine ⟨Γ, H0, r0, (sem.bndS h).mono fun x Γ1 H01 H1 r1 s1 h1 J G wk hG D hD => ?_⟩
  unfold semS bnd at h1
  dsimp only at h1
  cases qc : compL i own (bodyE cs fe) x.ds (hideS (keepP own x.lock) 0 Γ1) with
  | ok zs Γ2 =>
    rw [qc] at h1
    dsimp only at h1
    by_cases hz : zs.length ≤ SZ
    · rw [if_pos hz] at h1
      have h1 : ∀ H0' H', Rep (ky X) (backS (keepP own x.lock) 0 Γ1 Γ2) H0' σ H' → StE Γ σ H0 H (backS (keepP own x.lock) 0 Γ1 Γ2) H0' H' → ∀ v, RepOd H σ H0' H' (.fl zs) v → Q v H' := h1
      obtain ⟨W', h2, h3⟩ := comp_loop (Qd := Q (.ref D)) (turn1 (Y := kyb (ky X)) (L := D) (cs := cs) (fe := fe)) hi r1 hD .nil wk (fun Hx st => hG Hx st.stay) qc (by simpa using hz) fun H' H0' vs r2 s2 l0 l1 hvs =>
        h1 H0' H' r2 (s1.trans s2) _ ⟨D, vs, rfl, s1.new hD, l0, l1, hvs⟩
      refine ⟨W', h2, fun k m H w => ?_⟩
      rcases h3 k m H w with a | ⟨b, Nx, c, d⟩
      · exact .inl a
      · exact .inr ⟨b, Nx, c, fun x' H' y => ⟨wipe_set hi, d x' H' y⟩⟩
    · rw [if_neg hz] at h1; exact False.elim h1
  | ex c g => rw [qc] at h1; exact False.elim h1
  | bad => rw [qc] at h1; exact False.elim h1
theorem v_tests0 {X : Cx} {W : WX} : PTs X [] (tT (ky X) W (ret true)) := ⟨fun pins s σ H Q I h => pts_nil.run pins s σ H Q I (by
  obtain ⟨Γ, H0, r, h⟩ := h
  exact h H0 H r StE.refl)⟩
theorem v_comp {tg elt iter : Expr} {ifs : List Expr} {scope : Scope} {own : List (Str × Nat)} {i : Nat} (hc : X.calm = true) (hN : X.N.Nodup) (hi : PI X tg iter (tI (ky X) W im)) (ok : BlkOk X.N X.env.scope scope own) (ho : i ∈ own.map (·.2))
    (hg : ∀ (s : Shared) (H : Hp) (C : Addr) (cl : List (Str × Addr)) (fp : List Addr), PG (X.blk s H scope (compEnvC scope cl C X.env) fp) tg (gName i)) (ht : ∀ (s : Shared) (H : Hp) (C : Addr) (cl : List (Str × Addr)) (fp : List Addr), PTs (X.blk s H scope (compEnvC scope cl C X.env) fp) ifs (tT (kyb (ky X)) W0 cs))
    (he : ∀ (s : Shared) (H : Hp) (C : Addr) (cl : List (Str × Addr)) (fp : List Addr), PE (X.blk s H scope (compEnvC scope cl C X.env) fp) elt (tE (kyb (ky X)) W0 fe)) (hs : ∀ x, foldedSetIterable iter X.env x = pure x) :
    PE X (.ListComp elt [⟨tg, iter, ifs, 0⟩] scope pos) (tE (ky X) W (compE i (own.map (·.2)) im cs fe)) :=
  (pe_lc hc hN hi ok hg ht he hs).imp fun σ H Q h => comp_ok ho h
end
end VL

/-! VJH: a list comprehension over range(n) where an exception is handled. -/
namespace VL
open PySem PySem.Spec PyProof.Rows L2 L2H
section
variable {X : Cx}
theorem PIH.imp {tg iter : Expr} {wi wi' : TI} (a : PIH X tg iter wi) (k : ∀ σ H R, wi' σ H R → wi σ H R) : PIH X tg iter wi' :=
  ⟨fun pins s σ H R I h => a.run pins s σ H R I (k σ H R h)⟩
/-- the block with the handled exception pinned, and back -/
theorem blk_up {pins : List (Addr × Obj)} {σ σb : St} {H3 Hb : Hp} {s3 sb : Shared} {scope : Scope} {ce : PySem.Env} {fp : List Addr} {p : Addr × Obj} {E : Value → Shared → Prop} (I3 : Inv X pins σ H3 s3) (hp : p ∈ X.pn)
    (hfp : ∀ b ∈ fp, FpOk X pins H3 b) (cL : ce.locals = s3.heap.objs.size) (I : Inv (X.blk s3 H3 scope ce fp) [] σb Hb sb) : Inv ((X.blk s3 H3 scope ce fp).tr [p] E) [] σb Hb sb := by
  obtain ⟨g0, g1, g2, g3, g4⟩ := I3.pin p (List.mem_append_left _ hp)
  have nst : p.1 ∉ frs X.stack := fun z => (List.mem_cons.mp (I3.stkSub p.1 z)).elim g2 g3
  have nfp : p.1 ∉ fp := fun z => (hfp p.1 z).2.2.2.2.2 p (List.mem_append_left _ hp) rfl
  refine ⟨I.ok.toTry _ _, I.os, I.bare, I.base, I.loc, I.cell, I.free, I.freeC, fun q hq => ?_, I.hok, I.len⟩
  have e : q = p := by simpa using hq
  subst e
  refine ⟨I.base.keep _ _ g0 g1 nst nfp, I.base.free _ _ g0 g1 nfp, ?_, nst, g4⟩
  show q.1 ≠ ce.locals
  rw [cL]
  exact Nat.ne_of_lt (Heap.lt_size g0)
theorem blk_down {σb : St} {H3 Hb : Hp} {s3 sb : Shared} {scope : Scope} {ce : PySem.Env} {fp : List Addr} {p : Addr × Obj} {E : Value → Shared → Prop} (I : Inv ((X.blk s3 H3 scope ce fp).tr [p] E) [] σb Hb sb) : Inv (X.blk s3 H3 scope ce fp) [] σb Hb sb :=
  ⟨Cx.Ok.ofTry (X := X.blk s3 H3 scope ce fp) I.ok, I.os, I.bare, I.base, I.loc, I.cell, I.free, I.freeC, fun q hq => absurd (show q ∈ ([] : List (Addr × Obj)) ++ [] from hq) (by simp), I.hok, I.len⟩
theorem hot_core {pins : List (Addr × Obj)} {s : Shared} {σ : St} {H : Hp} {Q : VK} {elt tg iter : Expr} {ifs : List Expr} {scope : Scope} {own : List (Str × Nat)} {pos pos' : Pos} {wi : TI} {g : TG} {tt : TT} {te : TE} {use : Option (Value → Sem Unit)} {Qf : Value → Shared → Prop}
    (hot : HotC X) (hN : X.N.Nodup) (I : Inv X pins σ H s) (hi : PIH X tg iter wi) (bk : BlkOk X.N X.env.scope scope own)
    (hg : ∀ (z : Shared) (K : Hp) (C : Addr) (cl : List (Str × Addr)) (fp : List Addr), PG (X.blk z K scope (compEnvC scope cl C X.env) fp) tg g)
    (ht : ∀ (z : Shared) (K : Hp) (C : Addr) (cl : List (Str × Addr)) (fp : List Addr), PTs (X.blk z K scope (compEnvC scope cl C X.env) fp) ifs tt)
    (he : ∀ (z : Shared) (K : Hp) (C : Addr) (cl : List (Str × Addr)) (fp : List Addr), PE (X.blk z K scope (compEnvC scope cl C X.env) fp) elt te)
    (hs : ∀ x, foldedSetIterable iter X.env x = pure x) (h : tLc wi g tt te (own.map (·.2)) σ H Q)
    (fin : ∀ D C z m K, Inv X pins σ K z → Q (.ref D) K → z.heap.Ns C m → FpOk X pins K C → compPost (model X.prog X.w) X.A X.xe use Qf (.ref D) C (.ok .next) z) :
    wpAny (model X.prog X.w) X.A (comprehension (.ListComp elt [⟨tg, iter, ifs, 0⟩] scope pos) scope X.env pos' (newList []) false (eval iter X.env) use) Qf X.xe s := by
  obtain ⟨p, hp1, hp2⟩ := hot
  have cells : ∀ y ∈ scope.names, y.2 = .free → ∃ c, X.env.cells.lookup y.1 = some c := fun y hy e => by
    rcases bk.free y hy e with q | q
    · exact I.ok.has _ (.inl q)
    · exact I.ok.has _ (.inr q)
  refine wpAny_comprehension_free (use := use) rfl hs (closure_ok cells) bk.kind (fun y hy e => by rw [bk.uniq y hy, e]) ?_
  refine thn (hi.run pins s σ H _ I h) fun xv s1 hx => ?_
  refine thn hx fun itv s2 hit => ?_
  obtain ⟨it, fp, tn, J, H2, e, I2, T, tn2, fr2, q⟩ := hit
  subst e
  refine wpAny_newObj_type (newEnv_comp ?_) (by show 0 ≤ sizeLine; decide)
  -- the list that is filled
  generalize eD : s2.heap.objs.size = D
  have nD : H2 D = none := I2.hok.fresh (Nat.le_of_eq eD)
  obtain ⟨W, ⟨m0, w0⟩, turn⟩ := q D nD
  generalize e3 : ({ s2 with heap := s2.heap.push { cls := .type "list", data := .seq ([] : List Value).toArray } } : Shared) = s3
  have hp3 : s3.heap = s2.heap.push { cls := .type "list", data := .seq ([] : List Value).toArray } := by rw [← e3]
  have I3 : Inv X pins σ (upd H2 D (.lst [])) s3 := by
    rw [← e3]
    refine I2.laid (t' := s2.toks) (fun b o z => Heap.get?_push_of_some _ z) (Nat.le_of_eq eD) ⟨Nat.zero_le _, [], 0, .nil, ?_⟩
    rw [← eD]
    exact Heap.get?_push_size _ rfl
  have below : ∀ b ∈ fp, b < s2.heap.objs.size := fun b hb => let ⟨o, z, _⟩ := T.obj _ _ tn2 b hb; Heap.lt_size z
  have fr3 : ∀ b ∈ fp, FpOk X pins (upd H2 D (.lst [])) b ∧ b < s3.heap.objs.size := fun b hb => by
    have lt := below b hb
    have lt3 : b < s3.heap.objs.size := by rw [hp3, Heap.size_push]; exact Nat.lt_succ_of_lt lt
    have nb : upd H2 D (.lst []) b = none := by
      rw [upd_ne (by rw [← eD]; exact Nat.ne_of_lt lt)]
      exact (fr2 b hb).1
    exact ⟨⟨nb, (fr2 b hb).2⟩, lt3⟩
  have tn3 : tn 0 s3.heap := T.keep _ _ _ tn2 fun b _ o z => by rw [hp3]; exact Heap.get?_push_of_some _ z
  have I4 := block_start I3 bk hN fr3
  have pg := hg s3 (upd H2 D (.lst [])) s3.heap.objs.size (cellsFrom (s3.heap.objs.size + 1) scope.names (cloFrom X.env.cells scope.names [])) fp
  have pt := ht s3 (upd H2 D (.lst [])) s3.heap.objs.size (cellsFrom (s3.heap.objs.size + 1) scope.names (cloFrom X.env.cells scope.names [])) fp
  have pe := he s3 (upd H2 D (.lst [])) s3.heap.objs.size (cellsFrom (s3.heap.objs.size + 1) scope.names (cloFrom X.env.cells scope.names [])) fp
  show codeAny _ _ (.compStart (.ListComp elt [⟨tg, iter, ifs, 0⟩] scope pos) 0 (.ref it) (.ref D) (compEnvC scope (cellsFrom (s3.heap.objs.size + 1) scope.names (cloFrom X.env.cells scope.names [])) s3.heap.objs.size X.env))
    (compPost (model X.prog X.w) X.A X.xe use Qf (.ref D) s3.heap.objs.size) { s3 with heap := pushCells (s3.heap.push { cls := .type "dict", data := .dict #[] }) scope.names }
  have free3 : ∀ b ∈ fp, (upd H2 D (.lst [])) b = none := fun b hb => (fr3 b hb).1.1
  generalize ece : compEnvC scope (cellsFrom (s3.heap.objs.size + 1) scope.names (cloFrom X.env.cells scope.names [])) s3.heap.objs.size X.env = ce at I4 pg pt pe ⊢
  have cL : ce.locals = s3.heap.objs.size := by subst ece; rfl
  generalize upd H2 D (.lst []) = H3 at I3 I4 pg pt pe w0 free3 fr3
  generalize e4 : ({ s3 with heap := pushCells (s3.heap.push { cls := .type "dict", data := .dict #[] }) scope.names } : Shared) = s4 at I4 ⊢
  have tn4 : tn 0 s4.heap := T.keep _ _ _ tn3 fun b _ o z => by rw [← e4]; exact pushCells_keeps _ _ _ _ (Heap.get?_push_of_some _ z)
  have f3 : ∀ b ∈ fp, FpOk X pins H3 b := fun b hb => (fr3 b hb).1
  have hotB : HotC ((X.blk s3 H3 scope ce fp).tr [p] fun _ _ => False) := ⟨p, hp1, List.mem_singleton.mpr rfl⟩
  have fpB : ∀ {σ' : St} {K : Hp} {z : Shared}, Inv (X.blk s3 H3 scope ce fp) [] σ' K z → (∀ b ∈ fp, K b = none) → ∀ b ∈ fp, FpOk (X.blk s3 H3 scope ce fp) [] K b := fun {σ' K z} J hn b hb =>
    ⟨hn b hb, (J.ok.exf b hb).1, J.ok.exfs b hb, .inl hb, fun x c e => (J.ok.exf b hb).2 x c e, fun q hq => absurd (show q ∈ ([] : List (Addr × Obj)) ++ [] from hq) (by simp)⟩
  have fpT : ∀ {σ' : St} {K : Hp} {z : Shared}, Inv (X.blk s3 H3 scope ce fp) [] σ' K z → (∀ b ∈ fp, K b = none) → ∀ b ∈ fp, FpOk ((X.blk s3 H3 scope ce fp).tr [p] fun _ _ => False) [] K b := fun {σ' K z} J hn b hb => by
    obtain ⟨a0, a1, a2, a3, a4, _⟩ := fpB J hn b hb
    refine ⟨a0, a1, a2, a3, a4, fun q hq => ?_⟩
    have e : q = p := by simpa using hq
    subst e
    exact (f3 b hb).2.2.2.2.2 q (List.mem_append_left _ hp2)
  have loop : codeAny (model X.prog X.w) X.A (.compLoop (.ListComp elt [⟨tg, iter, ifs, 0⟩] scope pos) 0 (.ref it) (.ref D) ce) (compPost (model X.prog X.w) X.A X.xe use Qf (.ref D) s3.heap.objs.size) s4 := by
    refine compLoop_any (fun n z => ∃ i K, Inv (X.blk s3 H3 scope ce fp) [] (wipe σ (own.map (·.2))) K z ∧ tn i z.heap ∧ (∀ b ∈ fp, K b = none) ∧ W i n K) ?_ m0 ⟨0, H3, I4, tn4, free3, w0⟩
    rintro n s5 ⟨i, H5, I5, tn5, n5, w5⟩
    rcases turn i n H5 w5 with ⟨stop, qq⟩ | ⟨go, Nx, hNx, step⟩
    · refine thnF (T.done ((X.blk s3 H3 scope ce fp).tr [p] fun _ _ => False) rfl rfl rfl hotB i [] s5 _ H5 (fun _ _ => False) (blk_up I3 hp2 f3 cL I5) (fpT I5 n5) tn5 stop) fun r s6 ⟨hr, I6'⟩ => ?_
      subst hr
      have I6 := blk_down I6'
      have I7 : Inv X pins σ H5 s6 := I3.call' (ch := fp) I6.os I6.base I6.hok I6.bare fun b hb => let z := f3 b hb; ⟨z.2.2.2.1, z.2.1, z.2.2.2.2.1, z.2.2.2.2.2⟩
      have nC : H5 s3.heap.objs.size = none := by
        have z : H5 ce.locals = none := I6.free
        rwa [cL] at z
      obtain ⟨m, hn, _⟩ := I6.loc
      have hn : s6.heap.Ns ce.locals m := hn
      rw [cL] at hn
      exact fin D s3.heap.objs.size s6 m H5 I7 qq hn (I3.fpOk (Nat.le_refl _) nC)
    · refine thnF (T.item ((X.blk s3 H3 scope ce fp).tr [p] fun _ _ => False) rfl rfl rfl hotB i [] s5 _ H5 (fun _ _ => False) (blk_up I3 hp2 f3 cL I5) (fpT I5 n5) tn5 go) fun r s6 ⟨u, hr, h6⟩ => ?_
      subst hr
      refine thnF h6 fun _ s7 ⟨x, H7, I7', r7, y7, tn7, n7⟩ => ?_
      have I7 := blk_down I7'
      have I7p := I7.pinned (fpB I7 n7) (T.obj _ _ tn7)
      refine thnF (pg.run _ s7 _ H7 x u _ I7p r7 (step x H7 y7)) fun _ s8 ⟨σ8, H8, I8, hw8, q8⟩ => ?_
      refine thnF (pt.run _ s8 σ8 H8 _ I8 q8) fun b s9 ⟨H9, I9, q9⟩ => ?_
      have turned : ∀ {z : Shared} {K : Hp}, Inv (X.blk s3 H3 scope ce fp) ([] ++ pinsAt fp s7.heap) σ8 K z → Nx K → ∃ m, m < n ∧ ∃ i K, Inv (X.blk s3 H3 scope ce fp) [] (wipe σ (own.map (·.2))) K z ∧ tn i z.heap ∧ (∀ b ∈ fp, K b = none) ∧ W i m K := fun {z K} J nx => by
        obtain ⟨m', hm, w'⟩ := hNx K nx
        have pinned : ∀ b ∈ fp, ∀ o, s7.heap.get? b = some o → z.heap.get? b = some o ∧ K b = none := fun b hb o e =>
          let y := J.pin (b, o) (List.mem_append_right _ (List.mem_append_right _ (mem_pinsAt hb e)))
          ⟨y.1, y.2.1⟩
        refine ⟨m', hm, i + 1, K, (J.unpinned (pins := [])).weak ?_ ?_, T.keep _ _ _ tn7 fun b hb o e => (pinned b hb o e).1, fun b hb => ?_, w'⟩
        · rw [← hw8, wipe_length]
        · intro j v e
          rw [← hw8] at e
          exact (wipe_some e).1
        · obtain ⟨o, e, _⟩ := T.obj _ _ tn7 b hb
          exact (pinned b hb o e).2
      cases b with
      | false =>
        simp only [Bool.false_eq_true, if_false] at q9 ⊢
        exact turned I9 q9
      | true =>
        simp only [if_true] at q9 ⊢
        refine thnF (pe.run _ s9 σ8 H9 _ I9 q9) fun zv s10 ⟨yv, H10, I10, r10, acc, hD10, hz10, nx⟩ => ?_
        exact app_ok (X := X.blk s3 H3 scope ce fp) I10 hD10 hz10 r10 fun s11 I11 => turned I11 nx
  exact codeAny_compStart_list loop (T.self X.A 0 _ _ _ tn4 loop)
/-- name = [..] on one line -/
theorem ps_setHot {i : Nat} {y : Str} {py : Pos} {elt tg iter : Expr} {ifs : List Expr} {scope : Scope} {own : List (Str × Nat)} {pos spos : Pos} {wi : TI} {g : TG} {tt : TT} {te : TE} (hot : HotC X) (hN : X.N.Nodup) (hy : X.N[i]? = some y) (hyl : X.env.scope.names.lookup y = some .local)
    (hsw : swapsWith (.ListComp elt [⟨tg, iter, ifs, 0⟩] scope pos) (some (.Name y py)) spos.line X.env = pure true) (hi : PIH X tg iter wi) (bk : BlkOk X.N X.env.scope scope own)
    (hg : ∀ (z : Shared) (K : Hp) (C : Addr) (cl : List (Str × Addr)) (fp : List Addr), PG (X.blk z K scope (compEnvC scope cl C X.env) fp) tg g)
    (ht : ∀ (z : Shared) (K : Hp) (C : Addr) (cl : List (Str × Addr)) (fp : List Addr), PTs (X.blk z K scope (compEnvC scope cl C X.env) fp) ifs tt)
    (he : ∀ (z : Shared) (K : Hp) (C : Addr) (cl : List (Str × Addr)) (fp : List Addr), PE (X.blk z K scope (compEnvC scope cl C X.env) fp) elt te) (hs : ∀ x, foldedSetIterable iter X.env x = pure x) :
    PS X (.Assign [.Name y py] (.ListComp elt [⟨tg, iter, ifs, 0⟩] scope pos) spos) (tAsg (tLc wi g tt te (own.map (·.2))) (gName i)) := by
  refine ⟨fun pins s σ H D I h => ?_⟩
  rw [exec_Assign_Name_used _ _ _ _ hsw]
  refine wpAny_bind (wpAny_standAt (wpAny_bind ?_))
  show wpAny _ X.A (do let _ ← comprehension (.ListComp elt [⟨tg, iter, ifs, 0⟩] scope pos) scope X.env (firstIterPos [⟨tg, iter, ifs, 0⟩] pos) (newList []) false (eval iter X.env) (some (assign (.Name y py) X.env))) _ _ s
  have h : tLc wi g tt te (own.map (·.2)) σ H (fun x K => gName i x σ K D.nx) := h
  refine wpAny_bind (thn (hot_core (Qf := fun _ z => SP X pins D .next z) hot hN I hi bk hg ht he hs h fun L C z m K J q hn fp => ?_) fun _ z hq => wpAny_pure (wpAny_pure hq))
  show wpAny _ _ (assign (.Name y py) X.env (.ref L)) _ _ _
  refine wpAny_assign_Name (store_ok2 (v := V.ref L) J hN hy (.inl hyl) rfl (fun s2 I2 ⟨a, sb, ha⟩ => ?_) (.inr hyl))
  obtain ⟨f0, f1, f2, f3, f4, f5⟩ := fp
  have ne : C ≠ a := by
    rcases ha with w | w
    · rw [w]; exact f1
    · exact fun e => f4 y a w e.symm
  refine ⟨m, hn.sameBut sb ne, fun h3 sb3 => ?_⟩
  exact ⟨_, K, I2.turned (t' := s2.toks) (fun b o hb e => (sb3.2 b hb).trans e) f0 f1 f3 f4 f5, q⟩
theorem pe_hot {elt tg iter : Expr} {ifs : List Expr} {scope : Scope} {own : List (Str × Nat)} {pos : Pos} {wi : TI} {g : TG} {tt : TT} {te : TE} (hot : HotC X) (hN : X.N.Nodup) (hi : PIH X tg iter wi) (bk : BlkOk X.N X.env.scope scope own)
    (hg : ∀ (z : Shared) (K : Hp) (C : Addr) (cl : List (Str × Addr)) (fp : List Addr), PG (X.blk z K scope (compEnvC scope cl C X.env) fp) tg g)
    (ht : ∀ (z : Shared) (K : Hp) (C : Addr) (cl : List (Str × Addr)) (fp : List Addr), PTs (X.blk z K scope (compEnvC scope cl C X.env) fp) ifs tt)
    (he : ∀ (z : Shared) (K : Hp) (C : Addr) (cl : List (Str × Addr)) (fp : List Addr), PE (X.blk z K scope (compEnvC scope cl C X.env) fp) elt te) (hs : ∀ x, foldedSetIterable iter X.env x = pure x) :
    PE X (.ListComp elt [⟨tg, iter, ifs, 0⟩] scope pos) (tLc wi g tt te (own.map (·.2))) := by
  refine ⟨fun pins s σ H Q I h => ?_⟩
  rw [eval_ListComp]
  refine hot_core hot hN I hi bk hg ht he hs h fun D C z m K J q hn fp => ⟨m, hn, fun h'' sb => ?_⟩
  obtain ⟨f0, f1, f2, f3, f4, f5⟩ := fp
  exact ⟨.ref D, K, J.turned (t' := z.toks) (fun b o hb e => (sb.2 b hb).trans e) f0 f1 f3 f4 f5, rfl, q⟩
end
end VL

/-! VK: list(range(..)), list(reversed(a list)). -/
namespace VL
open PySem PySem.Spec PyProof.Rows L2 RT
section
variable {prog : Program} {w : World} {A : Around} {E : Value → Shared → Prop} {s : Shared}
abbrev lstO (vs : Array Value) (c : Nat) : Obj := { cls := .type "list", dict := none, data := .seq vs c, slots := #[] }
/-- items told from the back -/
abbrev BackOf (xs acc : Array Value) : Prop := ItemsOf (fun i v => xs[xs.size - 1 - i]? = some v) acc xs.size
theorem hint_lr {it l : Addr} {i : Int} {Q : Bool → Shared → Prop} (hi : s.heap.IsRevIter it l i) (h : Q true s) (h' : Q false s) : wpAny (model prog w) A (Builtin.List.listLengthHint (.ref it)) Q E s := by
  have ty : s.TypeIs (.ref it) "list_reverseiterator" := Heap.IsRevIter.typeIs hi
  unfold Builtin.List.listLengthHint
  apply wpAny_bind
  apply wpAny_specialOf ty nolen_lri
  show wpAny _ A (specialOf (Value.ref it) (Str.ofString "__length_hint__") >>= _) _ _ s
  apply wpAny_bind
  apply wpAny_specialOf ty hint_lri
  generalize hid : ("list_reverseiterator.__length_hint__" : String) = k0
  wp_delta
  rw [show splitId k0 = some ("list_reverseiterator", "__length_hint__") from by subst hid; decide +kernel]
  subst hid
  apply wpAny_bind
  apply wpAny_isInstance (b := true) ty (by rw [isSubtype_type]; kernel_rfl)
  first
  | exact wpAny_pure h
  | exact wpAny_pure h'
theorem extend_lr {R : Result → Shared → Prop} {it l : Addr} {xs : Array Value} (hh : A.handled = none) (hi : s.heap.IsRevIter it l ((xs.size : Int) - 1)) (hl : s.heap.IsList l xs) (ne : l ≠ it) (hz : xs.size ≤ sizeLine) (N : Addr) (ni : N ≠ it) (nl : N ≠ l) (r : Value) (c : Nat) (hN : s.heap.get? N = some (lstO #[] c))
    (hR : ∀ h' tk acc c', (∀ b o, b ≠ N → b ≠ it → s.heap.get? b = some o → h'.get? b = some o) → h'.get? N = some (lstO acc c') → BackOf xs acc → R (.ok (.ret r)) { s with heap := h', toks := tk }) :
    wpAny (model prog w) A.in1 (Builtin.List.listExtendWith (.ref N) (.ref it) r) (fun fin t => match fin with | .done f => R (.ok f) t | .again d => d.quiet = true ∧ codeAny (model prog w) A d R t) (fun e t => R (.error e) t) s := by
  have nf : N ∉ [it, l] := by
    intro h
    rcases List.mem_cons.mp h with h | h
    · exact ni h
    · exact nl (List.mem_singleton.mp h)
  have Wk := (Walks.listRev (prog := prog) (w := w) (A := A.in1) hh it l ne xs).toS
  have run : ∀ (h : Heap) (c1 tk : Nat), h.IsRevIter it l ((xs.size : Int) - 1) → h.IsList l xs → (∀ b o, b ≠ N → s.heap.get? b = some o → h.get? b = some o) → h.get? N = some (lstO #[] c1) →
      codeAny (model prog w) A (.builtin "list.extend.loop" ⟨[.ref N, .ref it, r], []⟩) R { s with heap := h, toks := tk } := by
    intro h c1 tk h1 h2 hk hN1
    have e0 : ((xs.size : Nat) : Int) - 1 - ((0 : Nat) : Int) = (xs.size : Int) - 1 := by omega
    refine codeAny_extend_loopS Wk hz N nf r xs.size 0 _ #[] c1 rfl (Nat.zero_le _) ⟨Nat.zero_le _, by rw [e0]; exact h1, h2⟩ hN1 (ItemsOf.nil _) fun t acc c2 mv hN2 hacc => ?_
    rw [Moved.eq_with mv]
    refine hR t.heap t.toks acc c2 (fun b o b1 b2 e => mv.heap b o (fun hm => ?_) (hk b o b1 e)) hN2 hacc
    rcases List.mem_cons.mp hm with z | z
    · exact b1 z
    · exact b2 (List.mem_singleton.mp z)
  have ty : s.TypeIs (.ref it) "list_reverseiterator" := Heap.IsRevIter.typeIs hi
  have sr : Builtin.List.listSameRef (.ref N) (.ref it) = false := by simp [Builtin.List.listSameRef, ni]
  unfold Builtin.List.listExtendWith
  apply wpAny_bind
  apply wpAny_typeOf ty
  simp only [sr, show (Value.type "list_reverseiterator" == Value.type "list") = false by decide, show (Value.type "list_reverseiterator" == Value.type "tuple") = false by decide, Bool.or_false, Bool.false_eq_true, if_false]
  apply wpAny_bind
  apply wpAny_pyIter_revIter hi
  apply wpAny_bind
  apply wpAny_holding
  have end0 : ∀ t : Shared, t = s → codeAny (model prog w) A (.builtin "list.extend.loop" ⟨[.ref N, .ref it, r], []⟩) R t := fun t e => by
    subst e
    exact run t.heap c t.toks hi hl (fun _ _ _ e => e) hN
  apply hint_lr hi
  · refine wpAny_ite_split (fun _ => ?_) (fun _ => wpAny_pure ⟨plainId_quiet PySem.F.plain_extend_loop _, end0 s rfl⟩)
    apply wpAny_bind
    apply wpAny_rule
    apply wpAny_bind
    show wpAny _ _ (updateSeq N (·.push .none) >>= fun _ => updateSeq N (·.pop)) _ _ _
    apply wpAny_bind
    apply wpAny_updateSeq hN rfl
    have g2 := Heap.get?_update_self (Obj.mapSeq (·.push Value.none)) hN rfl
    refine wpAny_updateSeq (hz := by seq_fits) g2 rfl ?_
    have g3 := Heap.get?_update_self (Obj.mapSeq (·.pop)) g2 rfl
    have ot : ∀ b o, b ≠ N → s.heap.get? b = some o → ((s.heap.update N (Obj.mapSeq (·.push Value.none))).update N (Obj.mapSeq (·.pop))).get? b = some o := fun b o hb e => by
      rw [Heap.get?_update_other _ _ (Ne.symm hb), Heap.get?_update_other _ _ (Ne.symm hb)]
      exact e
    refine wpAny_pure ⟨plainId_quiet PySem.F.plain_extend_loop _, run _ _ _ (hi.at fun o e => ot it o (Ne.symm ni) e) ?_ ot g3⟩
    obtain ⟨o, ho, q⟩ := hl
    exact ⟨o, ot l o (Ne.symm nl) ho, q⟩
  · refine wpAny_ite_split (fun hb => ?_) (fun _ => wpAny_pure ⟨plainId_quiet PySem.F.plain_extend_loop _, end0 s rfl⟩)
    exact absurd hb (by decide)
theorem call_list_lr {Q : Value → Shared → Prop} {it l : Addr} {xs : Array Value} (hh : A.handled = none) (hi : s.heap.IsRevIter it l ((xs.size : Int) - 1)) (hl : s.heap.IsList l xs) (ne : l ≠ it) (hz : xs.size ≤ sizeLine)
    (hQ : ∀ h' tk acc c', (∀ b o, b ≠ it → s.heap.get? b = some o → h'.get? b = some o) → h'.get? s.heap.objs.size = some (lstO acc c') → BackOf xs acc → Q (.ref s.heap.objs.size) { s with heap := h', toks := tk }) :
    wpAny (model prog w) A (call (.type "list") [.ref it]) Q E s := by
  refine callType_codes (Q₁ := fun v t => v = .ref s.heap.objs.size ∧ t = { s with heap := s.heap.push (lstO #[] 0) }) PySem.F.called_list (PySem.F.typeCall_list_1 _) PySem.F.entry_list_init (code_list_new _ ⟨rfl, rfl⟩) fun v t h => ?_
  obtain ⟨rfl, rfl⟩ := h
  have up : ∀ b o, s.heap.get? b = some o → (s.heap.push (lstO #[] 0)).get? b = some o := fun b o e => Heap.get?_push_of_some _ e
  have hN : (s.heap.push (lstO #[] 0)).get? s.heap.objs.size = some (lstO #[] 0) := Heap.get?_push_size _ rfl
  obtain ⟨oi, hoi, _⟩ := id hi
  obtain ⟨ol, hol, ql⟩ := id hl
  have ni : s.heap.objs.size ≠ it := Nat.ne_of_gt (Heap.lt_size hoi)
  have nl : s.heap.objs.size ≠ l := Nat.ne_of_gt (Heap.lt_size hol)
  refine ⟨⟨_, hN, rfl⟩, PySem.F.args_list_init_2 _ _, ?_⟩
  show wpAny _ _ (do let old ← Builtin.List.listItems (.ref s.heap.objs.size); Builtin.List.listUpdate (.ref s.heap.objs.size) (fun _ => #[]); letGo old.toList.reverse; Builtin.List.listExtendWith (.ref s.heap.objs.size) (.ref it) .none) _ _ _
  apply wpAny_bind
  unfold Builtin.List.listItems
  refine wpAny_bind (wpAny_seqItems hN rfl (wpAny_pure ?_))
  show wpAny _ _ (updateSeq s.heap.objs.size (fun _ => #[]) >>= fun _ => letGo (#[] : Array Value).toList.reverse >>= fun _ => Builtin.List.listExtendWith (.ref s.heap.objs.size) (.ref it) .none) _ _ _
  apply wpAny_bind
  refine wpAny_updateSeq hN rfl ?_
  have g2 := Heap.get?_update_self (Obj.mapSeq (fun _ => (#[] : Array Value))) hN rfl
  have ot : ∀ b o, b ≠ s.heap.objs.size → s.heap.get? b = some o → ((s.heap.push (lstO #[] 0)).update s.heap.objs.size (Obj.mapSeq (fun _ => (#[] : Array Value)))).get? b = some o := fun b o hb e => by
    rw [Heap.get?_update_other _ _ (Ne.symm hb)]
    exact up b o e
  apply wpAny_bind
  apply wpAny_letGo
  refine extend_lr (A := A.in1) hh (hi.at fun o e => ot it o (Ne.symm ni) e) ⟨ol, ot l ol (Ne.symm nl) hol, ql⟩ ne hz _ ni nl .none _ g2 fun h' tk acc c' hk hN2 hacc => ?_
  exact ⟨rfl, hQ h' tk acc c' (fun b o hb e => hk b o (Nat.ne_of_lt (Heap.lt_size e)) hb (ot b o (Nat.ne_of_lt (Heap.lt_size e)) e)) hN2 hacc⟩
end

section
variable {X : Cx} {W : WX} {a b : Expr} {fa fb : M Od} {pos : Pos}
theorem vals_back {xs : List V} {its : List Value} {acc : Array Value} (r : Vals xs its) (h : BackOf its.toArray acc) : Vals xs.reverse acc.toList := vals_rev r h
def tLstRev (K : PySem.W.Frag) (te : TE) : TE := fun σ H Q => te σ H fun v H1 => ∃ (p : Addr) (xs : List V), v = .ref p ∧ SqL K H1 p xs ∧ ∀ q, H1 q = none → Q (.ref q) (upd H1 q (.lst xs.reverse))
theorem pe_listRev {e : Expr} {te : TE} {p p2 pos pos2 : Pos} (hc : X.calm = true) (hg : Gl X "list") (hm : X.mg "list" = none) (hg2 : Gl X "reversed") (hm2 : X.mg "reversed" = none) (he : PE X e te) (hs : noStar e = true) :
    PE X (.Call (.Name "list" p) [.Call (.Name "reversed" p2) [e] [] pos2] [] pos) (tLstRev X.K te) := by
  refine ⟨fun pins s σ H Q I h => ?_⟩
  have s1 : starEach [e] X.env = (false, eval e X.env) :: starEach [] X.env := star_cons hs _
  have s2 : starEach [.Call (.Name "reversed" p2) [e] [] pos2] X.env = (false, eval (.Call (.Name "reversed" p2) [e] [] pos2) X.env) :: starEach [] X.env := star_cons rfl _
  refine Call_ (ld_blt I hg hm boot_list (PyProof.Rows.callWith_type1 (args_cons ?_ s2) s2 rfl))
  refine Call_ (ld_blt I hg2 hm2 PyProof.Rows.boot_reversed (PyProof.Rows.callWith_type1 (args_cons ?_ s1) s1 rfl))
  refine thn (he.run pins s σ H _ I h) fun u t ⟨v, H1, I1, r1, l, xs, ev, hq, q⟩ => args_nil ?_
  subst ev
  obtain rfl : u = Value.ref l := r1
  obtain ⟨its, rv, isl, hz⟩ := I1.list hq
  refine call_reversed_list isl.isList (args_nil ?_)
  have hl := isl.isList
  obtain ⟨ol, hol, _⟩ := id hl
  have I2 : Inv X pins σ H1 { t with heap := t.heap.push (revObj l ((its.toArray.size : Int) - 1)) } := I1.kept (t' := t.toks) fun b o e => Heap.get?_push_of_some _ e
  have fp := I1.fpOk (H' := H1) (b := t.heap.objs.size) (Nat.le_refl _) (I1.hok.fresh (Nat.le_refl _))
  have hn : its.toArray.size ≤ sizeLine := by
    rw [List.size_toArray, ← rv.length]
    exact hz
  refine call_list_lr (s := { t with heap := t.heap.push (revObj l ((its.toArray.size : Int) - 1)) }) (I1.ok.hd hc) ⟨_, Heap.get?_push_size _ rfl, rfl, rfl⟩ (hl.push _) (Nat.ne_of_lt (Heap.lt_size hol)) hn fun h' tk acc c' hk hN hi => ?_
  have nw : ObjOk X.prog X.w (upd H1 (t.heap.push (revObj l ((its.toArray.size : Int) - 1))).objs.size (.lst xs.reverse)) h' (t.heap.push (revObj l ((its.toArray.size : Int) - 1))).objs.size (.lst xs.reverse) :=
    ⟨by rw [List.length_reverse]; exact hz, acc.toList, c', vals_back rv hi, by rw [Array.toArray_toList]; exact hN⟩
  refine ⟨.ref (t.heap.push (revObj l ((its.toArray.size : Int) - 1))).objs.size, _, I2.turnedNew (t' := tk) (ch := [t.heap.objs.size]) (fun b o hb e => hk b o (fun z => hb (List.mem_singleton.mpr z)) e) (fun b hb => by rw [List.mem_singleton.mp hb]; exact fp) (Nat.le_refl _) nw, rfl, q _ (I2.hok.fresh (Nat.le_refl _))⟩
/-- list(reversed(..)) -/
theorem v_listRev {e : Expr} {p p2 pos pos2 : Pos} (hc : X.calm = true) (hg : Gl X "list") (hm : X.mg "list" = none) (hg2 : Gl X "reversed") (hm2 : X.mg "reversed" = none) (he : PE X e (tE (ky X) W fa)) (hs : noStar e = true) :
    PE X (.Call (.Name "list" p) [.Call (.Name "reversed" p2) [e] [] pos2] [] pos) (tE (ky X) W (listItE (revE fa))) := by
  refine (pe_listRev hc hg hm hg2 hm2 he hs).imp fun σ H Q h => ?_
  obtain ⟨Γ, H0, r0, h⟩ := h
  unfold listItE revE at h
  rw [bnd_assoc] at h
  refine ⟨Γ, H0, r0, (sem.bnd h).mono fun oa Γ1 H01 H1 r1 s1 h1 v qv => ?_⟩
  rw [bnd_assoc] at h1
  obtain ⟨d, hx, h2⟩ := sem.soft r1 qv (sem.bnd h1)
  cases d with
  | list ds =>
    obtain ⟨q, vs, ev, e1, hv⟩ := hx.list r1.same
    refine ⟨q, vs, ev, SqL.of e1, fun n hn => ?_⟩
    have h3 : sem (ky X) W (if ds.reverse.length ≤ SZ then ret (Od.fl ds.reverse) else VL.bad) Γ1 H01 σ H1 (fun o x H0' H' => ∀ v, RepOd H σ H0' H' o v → Q v H') := h2
    by_cases hz : ds.reverse.length ≤ SZ
    · rw [if_pos hz] at h3
      exact h3 _ _ (r1.grow (Grow.tmp r1.same hn)) (Grow.tmp r1.same hn).ste _ ⟨n, _, rfl, s1.new hn, r1.same.free hn, upd_same, hv.reverse⟩
    · rw [if_neg hz] at h3
      exact False.elim h3
  | _ => exact False.elim h2
theorem rg_vals {H0 : Hp} (a b : Int) : VdAll H0 (rgV a b) (rngD a b) := by
  unfold rgV rngD
  generalize (b - a).toNat = n
  have : ∀ l : List Nat, VdAll H0 (l.map fun i => V.int (a + (i : Nat))) (l.map fun k => PyData.int (a + (k : Nat))) := by
    intro l
    induction l with
    | nil => exact .nil
    | cons x r ih => exact .cons (.int _) ih
  exact this _
theorem rg_ok {a b : Int} (ha : rngOk a = true) (hb : rngOk b = true) (hz : (rngD a b).length ≤ SZ) : RgOk a b := by
  unfold rngOk at ha hb
  simp only [Bool.and_eq_true, decide_eq_true_eq] at ha hb
  unfold rngD at hz
  rw [List.length_map, List.length_range] at hz
  exact ⟨by omega, by omega, by omega, by omega, by show _ ≤ 16777216; exact hz⟩
theorem rg_end {Γ Γs : VL.Env} {σ : St} {H0 H Hs H0s : Hp} {Q : VK} {i j : Int} {Y : Ky} (r : Rep Y Γ H0 σ H) (ss : StE Γs σ H0s Hs Γ H0 H) (hi : rngOk i = true) (hj : rngOk j = true) (h : sem Y W (if (⟨rngD i j, none⟩ : Itm).ds.length ≤ SZ then ret (Od.fl (⟨rngD i j, none⟩ : Itm).ds) else VL.bad) Γ H0 σ H (fun o x H0' H' => ∀ v, RepOd Hs σ H0' H' o v → Q v H')) :
    RgOk i j ∧ ∀ q, H q = none → Q (.ref q) (upd H q (.lst (rgV i j))) := by
  by_cases hz : (rngD i j).length ≤ SZ
  · rw [if_pos hz] at h
    refine ⟨rg_ok hi hj hz, fun n hn => ?_⟩
    exact h _ _ (r.grow (Grow.tmp r.same hn)) (Grow.tmp r.same hn).ste _ ⟨n, _, rfl, ss.new hn, r.same.free hn, upd_same, rg_vals i j⟩
  · rw [if_neg hz] at h
    exact False.elim h
theorem v_listRg1 {p p2 pos pos2 : Pos} (hc : X.calm = true) (hg : Gl X "list") (hm : X.mg "list" = none) (hg2 : Gl X "range") (hm2 : X.mg "range" = none) (ha : PE X a (tE (ky X) W fa)) (hs : noStar a = true) :
    PE X (.Call (.Name "list" p) [.Call (.Name "range" p2) [a] [] pos2] [] pos) (tE (ky X) W (listItE (rg1E fa))) := by
  refine (pe_listRg hc hg hm (prg_1 hg2 hm2 ha (star_cons hs _)) (star_cons rfl _)).imp fun σ H Q h => ?_
  obtain ⟨Γ, H0, r0, h⟩ := h
  unfold listItE rg1E at h
  rw [bnd_assoc, bnd_int] at h
  refine ⟨Γ, H0, r0, (sem.bnd h).mono fun oa Γ1 H01 H1 r1 s1 h1 v qv => ?_⟩
  obtain ⟨n, e, h2⟩ := sem.int r1 qv h1
  subst e
  refine ⟨n, rfl, ?_⟩
  by_cases hn : rngOk n = true
  · rw [if_pos hn] at h2
    exact rg_end r1 s1 rfl hn h2
  · rw [if_neg hn] at h2
    exact False.elim h2
theorem v_listRg2 {p p2 pos pos2 : Pos} (hc : X.calm = true) (hg : Gl X "list") (hm : X.mg "list" = none) (hg2 : Gl X "range") (hm2 : X.mg "range" = none) (ha : PE X a (tE (ky X) W fa)) (hb : PE X b (tE (ky X) W fb)) (hs : noStar a = true) (hs2 : noStar b = true) :
    PE X (.Call (.Name "list" p) [.Call (.Name "range" p2) [a, b] [] pos2] [] pos) (tE (ky X) W (listItE (rg2E fa fb))) := by
  refine (pe_listRg hc hg hm (prg_2 hg2 hm2 ha hb (star_cons hs _) (star_cons hs2 _) (back_star (by rw [List.all_cons, hs2]; rfl))) (star_cons rfl _)).imp fun σ H Q h => ?_
  obtain ⟨Γ, H0, r0, h⟩ := h
  unfold listItE rg2E at h
  rw [bnd_assoc, bnd_int] at h
  refine ⟨Γ, H0, r0, (sem.bnd h).mono fun oa Γ1 H01 H1 r1 s1 h1 v qv => ?_⟩
  obtain ⟨n, e, h2⟩ := sem.int r1 qv h1
  subst e
  rw [bnd_assoc, bnd_int] at h2
  refine ⟨Γ1, H01, r1, (sem.bnd h2).mono fun ob Γ2 H02 H2 r2 s2 h3 u qu => ?_⟩
  obtain ⟨k, e, h4⟩ := sem.int r2 qu h3
  subst e
  refine ⟨n, k, rfl, rfl, ?_⟩
  by_cases hn : (rngOk n && rngOk k) = true
  · rw [if_pos hn] at h4
    rw [Bool.and_eq_true] at hn
    exact rg_end r2 (s1.trans s2) hn.1 hn.2 h4
  · rw [if_neg hn] at h4
    exact False.elim h4
end
end VL

/-! VM: statements. -/
namespace VL
open PySem PySem.Spec PyProof.Rows L2

/-- b is owned by a slot that is the def's own -/
def Owp (p : Nat) (Γ : VL.Env) (σ : St) (b : Addr) : Prop := ∃ i o, p ≤ i ∧ gt Γ i = .ow o ∧ σ[i]? = some (some (.ref b))
/-- from one point of a suite to a later one; the first p slots are the caller's -/
structure StS (p : Nat) (Γ : VL.Env) (σ : St) (H0 H : Hp) (Γ' : VL.Env) (σ' : St) (H0' H' : Hp) : Prop where
  fr : Same H0 H0'
  nf : ∀ b, H0' b ≠ none → H0 b ≠ none ∨ H b = none ∨ Ow Γ σ b
  ke : ∀ b o, H b = some o → ¬ Ow Γ σ b → H' b = some o
  ow : ∀ b, Ow Γ' σ' b → Ow Γ σ b ∨ H b = none
  op : ∀ b, Owp p Γ' σ' b → Owp p Γ σ b ∨ H b = none
  pr : ∀ i, i < p → σ'[i]? = σ[i]?
  ln : σ'.length = σ.length
  dm : ∀ b, H b ≠ none → H' b ≠ none
section
variable {p : Nat} {Γ Γ1 Γ2 : VL.Env} {σ σ1 σ2 : St} {H0 H H01 H1 H02 H2 : Hp}
theorem StS.new (s : StS p Γ σ H0 H Γ1 σ1 H01 H1) {b : Addr} (h : H1 b = none) : H b = none := by
  cases q : H b with
  | none => rfl
  | some o => exact absurd h (s.dm b (by rw [q]; simp))
theorem StS.trans (s : StS p Γ σ H0 H Γ1 σ1 H01 H1) (t : StS p Γ1 σ1 H01 H1 Γ2 σ2 H02 H2) : StS p Γ σ H0 H Γ2 σ2 H02 H2 where
  fr := s.fr.trans t.fr
  nf := fun b h => by
    rcases t.nf b h with h | h | h
    · exact s.nf b h
    · exact .inr (.inl (s.new h))
    · rcases s.ow b h with h | h
      · exact .inr (.inr h)
      · exact .inr (.inl h)
  ke := fun b o h n => t.ke b o (s.ke b o h n) fun z => by
    rcases s.ow b z with z | z
    · exact n z
    · rw [h] at z; cases z
  ow := fun b h => by
    rcases t.ow b h with h | h
    · exact s.ow b h
    · exact .inr (s.new h)
  op := fun b h => by
    rcases t.op b h with h | h
    · exact s.op b h
    · exact .inr (s.new h)
  pr := fun i h => (t.pr i h).trans (s.pr i h)
  ln := t.ln.trans s.ln
  dm := fun b h => t.dm b (s.dm b h)
theorem StE.sts (s : StE Γ σ H0 H Γ1 H01 H1) : StS p Γ σ H0 H Γ1 σ H01 H1 :=
  ⟨s.fr, s.nf, s.ke, fun b h => .inl (s.ow b h), fun b ⟨i, o, h1, h2, h3⟩ => let ⟨o', h4⟩ := s.sl i o h2; .inl ⟨i, o', h1, h4, h3⟩, fun _ _ => rfl, rfl, s.dm⟩
theorem StS.refl : StS p Γ σ H0 H Γ σ H0 H := StE.refl.sts
end
/-- what is handed back -/
def RtOk (p : Nat) (Γ : VL.Env) (σ : St) (H H0' H' : Hp) : Rs → V → Prop
  | .d d, v => Vd H0' v d
  | .fl ds, v => ∃ a vs, v = .ref a ∧ H0' a = none ∧ H' a = some (.lst vs) ∧ VdAll H0' vs ds ∧ (H a = none ∨ Owp p Γ σ a)
theorem RtOk.step {p : Nat} {Γ Γ1 : VL.Env} {σ σ1 : St} {H0 H H01 H1 H0' H' : Hp} {r : Rs} {v : V} (s : StS p Γ σ H0 H Γ1 σ1 H01 H1) (h : RtOk p Γ1 σ1 H1 H0' H' r v) : RtOk p Γ σ H H0' H' r v := by
  cases r with
  | d d => exact h
  | fl ds =>
    obtain ⟨a, vs, h1, h2, h3, h4, h5⟩ := h
    refine ⟨a, vs, h1, h2, h3, h4, ?_⟩
    rcases h5 with h5 | h5
    · exact .inl (s.new h5)
    · exact (s.op a h5).symm
def flS (p : Nat) (Γ : VL.Env) (σ : St) (H H0' : Hp) (D : Ends) (σ' : St) (H' : Hp) : Fl → Prop
  | .nx => D.nx σ' H'
  | .rt r => ∀ v, RtOk p Γ σ H H0' H' r v → D.rt v H'
  | .bk => D.bk σ' H'
  | .ct => D.ct σ' H'
/-- the run's end is as D wants it -/
def endS (Y : Ky) (W : WX) (p : Nat) (Γ : VL.Env) (σ : St) (H0 H : Hp) (D : Ends) : R Fl → Prop
  | .ok f Γ' => ∀ σ' H0' H', Rep Y Γ' H0' σ' H' → StS p Γ σ H0 H Γ' σ' H0' H' → flS p Γ σ H H0' D σ' H' f
  | .ex c Γ' => ∀ C σ' H0' H', Y.mg c = some (.ref C) → Rep Y Γ' H0' σ' H' → StS p Γ σ H0 H Γ' σ' H0' H' → W (.ref C) none σ' H'
  | .bad => False
def tS (Y : Ky) (W : WX) (p : Nat) (f : M Fl) : TS := fun D σ H => ∃ Γ H0, Rep Y Γ H0 σ H ∧ endS Y W p Γ σ H0 H D (f Γ)
section
variable {Y : Ky} {W : WX} {p : Nat} {Γ Γ1 Γ2 : VL.Env} {σ σ1 σ2 : St} {H0 H H01 H1 H02 H2 : Hp} {D : Ends} {α : Type}
theorem endS.step {r : R Fl} (s : StS p Γ σ H0 H Γ1 σ1 H01 H1) (h : endS Y W p Γ σ H0 H D r) : endS Y W p Γ1 σ1 H01 H1 D r := by
  cases r with
  | ok f Γ' =>
    intro σ' H0' H' rr t
    have q := h σ' H0' H' rr (s.trans t)
    cases f with
    | nx => exact q
    | rt r => exact fun v hv => q v (hv.step s)
    | bk => exact q
    | ct => exact q
  | ex c Γ' => exact fun C σ' H0' H' e rr t => h C σ' H0' H' e rr (s.trans t)
  | bad => exact h
theorem endS.bndS {m : M α} {f : α → M Fl} (h : endS Y W p Γ σ H0 H D (bnd m f Γ)) : sem Y W m Γ H0 σ H fun a Γ1 _ _ => endS Y W p Γ σ H0 H D (f a Γ1) := by
  unfold bnd at h
  unfold sem
  cases q : m Γ with
  | ok a Γ1 =>
    rw [q] at h
    exact fun _ _ _ _ => h
  | ex c Γ1 =>
    rw [q] at h
    exact fun C H0' H' e r s => h C σ H0' H' e r s.sts
  | bad => rw [q] at h; exact h
theorem endS.bnd {m : M α} {f : α → M Fl} (h : endS Y W p Γ σ H0 H D (VL.bnd m f Γ)) : sem Y W m Γ H0 σ H fun a Γ1 H01 H1 => endS Y W p Γ1 σ H01 H1 D (f a Γ1) :=
  h.bndS.mono fun _ _ _ _ _ s q => q.step s.sts
theorem endS.run {m : M α} {f : α → M Fl} {a : α} (e : m Γ = .ok a Γ1) (h : endS Y W p Γ2 σ H0 H D (VL.bnd m f Γ)) : endS Y W p Γ2 σ H0 H D (f a Γ1) := by
  unfold VL.bnd at h
  rw [e] at h
  exact h
theorem endS.hd {o : Od} {f : PyData → M Fl} (h : endS Y W p Γ2 σ H0 H D (VL.bnd (hard o) f Γ)) : ∃ d Γ1, hard o Γ = .ok d Γ1 ∧ endS Y W p Γ2 σ H0 H D (f d Γ1) := by
  unfold VL.bnd at h
  cases q : hard o Γ with
  | ok d Γ1 => rw [q] at h; exact ⟨d, Γ1, rfl, h⟩
  | ex c g =>
    unfold hard at q
    split at q <;> try (cases q)
    split at q <;> cases q
  | bad => rw [q] at h; exact False.elim h
end
/-- a name bound to a datum -/
theorem StS.put {p i : Nat} {Γ Γ1 : VL.Env} {σ : St} {H0 H H01 H1 : Hp} {s : Slot} {v : V} (hi : ¬ i < p) (t : StE Γ σ H0 H Γ1 H01 H1) (hs : (∀ o, s ≠ .ow o) ∨ ∃ a, v = .ref a ∧ H a = none) : StS p Γ σ H0 H (st Γ1 i s) (σ.set i (some v)) H01 H1 := by
  have key : ∀ {j o b}, gt (st Γ1 i s) j = .ow o → (σ.set i (some v))[j]? = some (some (.ref b)) → (∃ o', gt Γ j = .ow o' ∧ σ[j]? = some (some (.ref b))) ∨ H b = none := fun {j o b} h1 h2 => by
    rw [gt_st] at h1
    split at h1
    · rename_i hj
      rcases hs with hs | ⟨a, rfl, ha⟩
      · exact absurd h1 (hs o)
      · rw [hj.1] at h2
        by_cases hl : i < σ.length
        · rw [List.getElem?_set_self hl] at h2
          cases h2
          exact .inr ha
        · rw [List.getElem?_eq_none (by rw [List.length_set]; omega)] at h2
          cases h2
    · obtain ⟨o', h3⟩ := t.sl j o h1
      by_cases hj : i = j
      · subst hj
        by_cases hl : i < σ.length
        · rename_i hn
          have hg := gt_lt (Γ := Γ1) (i := i) (by rw [h1]; simp)
          exact absurd ⟨rfl, hg⟩ hn
        · rw [List.getElem?_eq_none (by rw [List.length_set]; omega)] at h2
          cases h2
      · rw [List.getElem?_set_ne hj] at h2
        exact .inl ⟨o', h3, h2⟩
  refine ⟨t.fr, t.nf, t.ke, fun b ⟨j, o, h1, h2⟩ => ?_, fun b ⟨j, o, hp, h1, h2⟩ => ?_, fun j hj => List.getElem?_set_ne (by omega), by rw [List.length_set], t.dm⟩
  · rcases key h1 h2 with ⟨o', h3, h4⟩ | h
    · exact .inl ⟨j, o', h3, h4⟩
    · exact .inr h
  · rcases key h1 h2 with ⟨o', h3, h4⟩ | h
    · exact .inl ⟨j, o', hp, h3, h4⟩
    · exact .inr h

section
variable {X : Cx} {W : WX} {p : Nat} {a b c e : Expr} {es : List Expr} {fa fb fc : M Od} {fs : List (M Od)} {pos : Pos} {st1 : Stmt} {rest : List Stmt} {s1 s2 : M Fl}
theorem v_seq (h1 : PS X st1 (tS (ky X) W p s1)) (h2 : PSs X rest (tS (ky X) W p s2)) : PSs X (st1 :: rest) (tS (ky X) W p (seqS s1 s2)) := by
  refine (pss_cons h1 h2).imp fun D σ H h => ?_
  obtain ⟨Γ, H0, r, h⟩ := h
  refine ⟨Γ, H0, r, ?_⟩
  unfold seqS bnd at h
  cases q : s1 Γ with
  | ok f Γ1 =>
    rw [q] at h
    intro σ' H0' H' r' t
    cases f with
    | nx => exact ⟨Γ1, H0', r', h.step t⟩
    | rt v => exact h σ' H0' H' r' t
    | bk => exact h σ' H0' H' r' t
    | ct => exact h σ' H0' H' r' t
  | ex c Γ1 => rw [q] at h; exact h
  | bad => rw [q] at h; exact h
theorem v_one (h1 : PS X st1 (tS (ky X) W p s1)) : PSs X [st1] (tS (ky X) W p s1) := pss_one h1
theorem tS_nx {D : Ends} {σ : St} {H : Hp} {Y : Ky} (h : tS Y W p passS D σ H) : D.nx σ H := by
  obtain ⟨Γ, H0, r, h⟩ := h
  exact h σ H0 H r StS.refl
theorem v_nilS : PSs X [] (tS (ky X) W p passS) := pss_nil.imp fun D σ H h => tS_nx h
theorem v_pass : PS X (.Pass pos) (tS (ky X) W p passS) := ps_pass.imp fun D σ H h => tS_nx h
theorem v_doc {x : Str} {j : Nat} {pos' : Pos} : PS X (.Expr (.Constant (.str x) j pos) pos') (tS (ky X) W p passS) := ps_doc.imp fun D σ H h => tS_nx h
theorem v_brk : PS X (.Break pos) (tS (ky X) W p brkS) := ps_break.imp fun D σ H h => by
  obtain ⟨Γ, H0, r, h⟩ := h
  exact h σ H0 H r StS.refl
theorem v_cnt : PS X (.Continue pos) (tS (ky X) W p cntS) := ps_continue.imp fun D σ H h => by
  obtain ⟨Γ, H0, r, h⟩ := h
  exact h σ H0 H r StS.refl
theorem v_expr (ha : PE X a (tE (ky X) W fa)) (hs : swapsWith a none pos.line X.env = pure false) : PS X (.Expr a pos) (tS (ky X) W p (exprS fa)) := (ps_expr ha hs).imp fun D σ H h => by
  obtain ⟨Γ, H0, r, h⟩ := h
  exact ⟨Γ, H0, r, h.bnd.mono fun o Γ1 H01 H1 r1 s1 h1 v _ => h1 σ H01 H1 r1 StS.refl⟩
theorem v_if {t : M Bool} {x y : List Stmt} (hc : PT X c (tT (ky X) W t)) (ha : PSs X x (tS (ky X) W p s1)) (hb : PSs X y (tS (ky X) W p s2)) : PS X (.If c x y pos) (tS (ky X) W p (ifS t s1 s2)) := (ps_if hc ha hb).imp fun D σ H h => by
  obtain ⟨Γ, H0, r, h⟩ := h
  refine ⟨Γ, H0, r, h.bnd.mono fun o Γ1 H01 H1 r1 s1 h1 => ?_⟩
  cases o with
  | true => exact ⟨Γ1, H01, r1, h1⟩
  | false => exact ⟨Γ1, H01, r1, h1⟩
theorem v_retN : PS X (.Return none pos) (tS (ky X) W p retN) := ps_retN.imp fun D σ H h => by
  obtain ⟨Γ, H0, r, h⟩ := h
  exact h σ H0 H r StS.refl _ .non
theorem v_ret (ha : PE X a (tE (ky X) W fa)) : PS X (.Return (some a) pos) (tS (ky X) W p (retS p fa)) := (ps_ret ha).imp fun D σ H h => by
  obtain ⟨Γ, H0, r, h⟩ := h
  refine ⟨Γ, H0, r, h.bndS.mono fun o Γ1 H01 H1 r1 s1 h1 v qv => ?_⟩
  cases o with
  | d d => exact h1 σ H01 H1 r1 s1.sts v qv
  | fl ds =>
    obtain ⟨q, vs, e, n, n0, h2, h3⟩ := qv
    exact h1 σ H01 H1 r1 s1.sts v ⟨q, vs, e, n0, h2, h3, .inl n⟩
  | rf i =>
    dsimp only at h1
    cases g : gt Γ1 i with
    | ow o =>
      rw [g] at h1
      cases o with
      | lst ds =>
        dsimp only at h1
        by_cases hp : p ≤ i
        · rw [if_pos hp] at h1
          obtain ⟨q, ho, e1, e2, e3, e4⟩ := r1.ow i _ g
          have qv' : σ[i]? = some (some v) := qv
          rw [qv'] at e1
          cases e1
          cases ho with
          | lst vs =>
            obtain ⟨o', hg⟩ := s1.sl i _ g
            have t : StE Γ1 σ H01 H1 (st Γ1 i .no) H01 H1 := ⟨Same.refl _, fun _ h => .inl h, fun _ _ h _ => h, fun j o hj => ⟨o, gt_keep hj (fun o z => nomatch z)⟩, fun _ h => h⟩
            exact h1 σ H01 H1 r1.drop (s1.trans t).sts _ ⟨q, vs, rfl, e2, e3, e4, .inr ⟨i, o', hp, hg, qv'⟩⟩
          | _ => exact False.elim e4
        · rw [if_neg hp] at h1; exact False.elim h1
      | _ => exact False.elim h1
    | _ => rw [g] at h1; exact False.elim h1
theorem put_no {Y : Ky} {i : Nat} {s : Slot} {f : Unit → M Fl} {Γ Γ1 : VL.Env} {σ : St} {H0 H : Hp} {D : Ends} (h : endS Y W p Γ σ H0 H D (bnd (putS p i s) f Γ1)) : ¬ i < p ∧ endS Y W p Γ σ H0 H D (f () (st Γ1 i s)) := by
  unfold bnd putS at h
  by_cases hi : i < p
  · rw [if_pos hi] at h; exact False.elim h
  · rw [if_neg hi] at h; exact ⟨hi, h⟩
/-- name = e, frozen -/
theorem set_ok {i : Nat} {D : Ends} {σ : St} {H : Hp} {Y : Ky} (h : tS Y W p (setS p i fa) D σ H) : tAsg (tE Y W fa) (gName i) D σ H := by
  obtain ⟨Γ, H0, r, h⟩ := h
  refine ⟨Γ, H0, r, h.bndS.mono fun o Γ1 H01 H1 r1 s1 h1 v qv => ?_⟩
  obtain ⟨d, Γ2, e, h2⟩ := h1.hd
  obtain ⟨H02, r2, s2, sm, hv⟩ := hard_back r1 s1 qv r e
  obtain ⟨hi, h3⟩ := put_no h2
  exact h3 (σ.set i (some v)) H02 H1 (r2.set (.inl ⟨d, rfl, hv⟩)) (StS.put hi s2 (.inl fun o z => nomatch z))
/-- name = e, the name's own -/
theorem new_ok {i : Nat} {D : Ends} {σ : St} {H : Hp} {Y : Ky} (h : tS Y W p (newS p i fa) D σ H) : tAsg (tE Y W fa) (gName i) D σ H := by
  obtain ⟨Γ, H0, r, h⟩ := h
  refine ⟨Γ, H0, r, h.bndS.mono fun o Γ1 H01 H1 r1 s1 h1 v qv => ?_⟩
  cases o with
  | d d =>
    obtain ⟨hi, h3⟩ := put_no h1
    exact h3 (σ.set i (some v)) H01 H1 (r1.set (.inl ⟨d, rfl, qv⟩)) (StS.put hi s1 (.inl fun o z => nomatch z))
  | fl ds =>
    obtain ⟨hi, h3⟩ := put_no h1
    obtain ⟨q, vs, rfl, n, n0, h4, h5⟩ := qv
    refine h3 (σ.set i (some (.ref q))) H01 H1 (r1.set (.inr ⟨.lst ds, q, .lst vs, rfl, rfl, n0, h4, h5, fun j o' hj ej => ?_⟩)) (StS.put hi s1 (.inr ⟨q, rfl, n⟩))
    obtain ⟨_, o, e1⟩ := r.own (s1.ow q ⟨j, o', hj, ej⟩)
    rw [n] at e1
    cases e1
  | rf j =>
    dsimp only at h1
    by_cases hj : j = i
    · rw [if_pos hj] at h1
      subst hj
      have qv' : σ[j]? = some (some v) := qv
      show D.nx (σ.set j (some v)) H1
      have e : σ.set j (some v) = σ := by
        apply List.ext_getElem?
        intro k
        by_cases hk : j = k
        · subst hk
          have hl : j < σ.length := by
            rcases Nat.lt_or_ge j σ.length with h | h
            · exact h
            · rw [List.getElem?_eq_none h] at qv'; cases qv'
          rw [List.getElem?_set_self hl, qv']
        · rw [List.getElem?_set_ne hk]
      rw [e]
      exact h1 σ H01 H1 r1 s1.sts
    · rw [if_neg hj] at h1; exact False.elim h1
theorem v_set {i : Nat} {x : Str} {pos' : Pos} (hN : X.N.Nodup) (hi : X.N[i]? = some x) (hx : Loc X.env.scope x) (hf : X.fn x = true ∨ X.env.scope.names.lookup x = some .local) (ha : PE X a (tE (ky X) W fa)) (hs : swapsWith a (some (.Name x pos')) pos.line X.env = pure false) : PS X (.Assign [.Name x pos'] a pos) (tS (ky X) W p (setS p i fa)) :=
  (ps_set hN hi hx ha hs hf).imp fun D σ H h => set_ok h
theorem v_new {i : Nat} {x : Str} {pos' : Pos} (hN : X.N.Nodup) (hi : X.N[i]? = some x) (hx : Loc X.env.scope x) (hf : X.fn x = true ∨ X.env.scope.names.lookup x = some .local) (ha : PE X a (tE (ky X) W fa)) (hs : swapsWith a (some (.Name x pos')) pos.line X.env = pure false) : PS X (.Assign [.Name x pos'] a pos) (tS (ky X) W p (newS p i fa)) :=
  (ps_set hN hi hx ha hs hf).imp fun D σ H h => new_ok h
/-- X(e), its context none -/
theorem pmk_one {C : Addr} {bmB : List Value} {B newId initId : String} {x : Str} {e : Expr} {ta : TE} {pp : Pos} (F : ExcBaseFacts B newId initId bmB) (q : PySem.W.excIn X.K C bmB newId = true) (gC : X.mg x = some (.ref C)) (kC : PySem.W.keepIn X.K (.ref C) = true) (r : Raises X (.ref C)) (hg : Gl X x)
    (he : PE X e ta) (hs : starEach [e] X.env = (false, eval e X.env) :: starEach [] X.env) (hdb : (x == ("__debug__" : Str)) = false) :
    L2N.PMk X (.Call (.Name x pp) [e] [] pos) (fun σ H Q => ta σ H fun _ H1 => Q (.ref C) none H1) := by
  intro pins s σ H Q I h
  refine wpAny_Call_Name_kw (ld_glob I hg gC ?_ hdb)
  refine PySem.W.callWith_K (h₀ := X.base) I.ok.mod.kin kC ?_ hs (by rfl)
  rw [hs]
  show wpAny _ _ (spliced ((false, eval e X.env) :: backTo pos (starEach [] X.env))) _ _ s
  refine Calls.spliced_cons (thn (he.run pins s σ H _ I h) fun u s1 ⟨v, H1, I1, r1, q1⟩ => Calls.spliced_nil ⟨I1.kIn, ?_⟩)
  show wpAny _ _ (call (.ref C) [u]) _ _ _
  obtain ⟨bm, N, nm, qn, bs, hdct, sn, sub, ab, col, dd, k0, k1, k2, k3, k5, mN, hC, hN, hni, T⟩ := exc_obj I1.kIn q
  refine wpAny_call_exc_subT F T hC hN hni (fun h' e hm => L2N.mk_of I1 hm r q1 (I1.hok.gone hm.new)) ?_
  show 1 ≤ sizeLine
  rw [sizeLine_eq]; omega
/-- one argument -/
theorem v_raise {C : Addr} {bmB : List Value} {B newId initId : String} {x : Str} {pp pos' : Pos} (F : ExcBaseFacts B newId initId bmB) (q : PySem.W.excIn X.K C bmB newId = true) (gC : X.mg x = some (.ref C)) (kC : PySem.W.keepIn X.K (.ref C) = true) (rr : Raises X (.ref C)) (hg : Gl X x) (hd : (x == ("__debug__" : Str)) = false)
    (hc : X.calm = true) (tk : L2N.Takes X W) (ha : PE X a (tE (ky X) W fa)) (hs : noStar a = true) : PS X (.Raise (some (.Call (.Name x pp) [a] [] pos')) none pos) (tS (ky X) W p (raiseS x fa)) :=
  (L2N.ps_raise hc tk (pmk_one F q gC kC rr hg ha (star_cons hs _) hd)).imp fun D σ H h => by
    obtain ⟨Γ, H0, r, h⟩ := h
    exact ⟨Γ, H0, r, h.bndS.mono fun o Γ1 H01 H1 r1 s1 h1 v _ => h1 C σ H01 H1 gC r1 s1.sts⟩
end
end VL

/-! VN: targets; loops. -/
namespace VL
open PySem PySem.Spec PyProof.Rows L2

def endU (Y : Ky) (W : WX) (p : Nat) (Γ : VL.Env) (σ : St) (H0 H : Hp) (Q : St → Hp → Prop) : R Unit → Prop
  | .ok _ Γ' => ∀ σ' H0' H', Rep Y Γ' H0' σ' H' → StS p Γ σ H0 H Γ' σ' H0' H' → Q σ' H'
  | .ex c Γ' => ∀ C σ' H0' H', Y.mg c = some (.ref C) → Rep Y Γ' H0' σ' H' → StS p Γ σ H0 H Γ' σ' H0' H' → W (.ref C) none σ' H'
  | .bad => False
abbrev MU := PyData → M Unit
def tG (Y : Ky) (W : WX) (p : Nat) (m : MU) : TG := fun v σ H Q => ∃ Γ H0 d, Rep Y Γ H0 σ H ∧ Vd H0 v d ∧ endU Y W p Γ σ H0 H Q (m d Γ)
def tGs (Y : Ky) (W : WX) (p : Nat) (m : List PyData → M Unit) : TGs := fun vs σ H Q => ∃ Γ H0 ds, Rep Y Γ H0 σ H ∧ VdAll H0 vs ds ∧ endU Y W p Γ σ H0 H Q (m ds Γ)
/-! what is stored -/
def nmU (p i : Nat) : MU := fun d => putS p i (.va d)
def subU (i : Nat) (k : M Od) : MU := fun d Γ => if isLst (gt Γ i) = true then bnd (intE k) (fun j => setL i j d) Γ else .bad
def nilU : List PyData → M Unit
  | [] => ret ()
  | _ => bad
def consU (m : MU) (r : List PyData → M Unit) : List PyData → M Unit
  | d :: ds => bnd (m d) fun _ => r ds
  | [] => bad
def tupU (n : Nat) (m : List PyData → M Unit) : MU := fun d => match d with
  | .tuple ds => if ds.length = n then m ds else bad
  | .list ds => if ds.length = n then m ds else bad
  | _ => bad
def asgS (m : MU) (a : M Od) : M Fl := bnd a fun x => bnd (hard x) fun d => bnd (m d) fun _ => ret .nx
/-- a, b = x, y with plain names -/
def par2S (p i j : Nat) (a b : M Od) : M Fl := bnd (argsE [a, b]) fun xs => bnd (hards xs) fun ds => match ds with
  | [d, e] => bnd (putS p i (.va d)) fun _ => bnd (putS p j (.va e)) fun _ => ret .nx
  | _ => bad
section
variable {Y : Ky} {W : WX} {p : Nat} {Γ Γ1 Γ2 : VL.Env} {σ σ1 σ2 : St} {H0 H H01 H1 H02 H2 : Hp} {Q : St → Hp → Prop}
theorem endU.step {r : R Unit} (s : StS p Γ σ H0 H Γ1 σ1 H01 H1) (h : endU Y W p Γ σ H0 H Q r) : endU Y W p Γ1 σ1 H01 H1 Q r := by
  cases r with
  | ok f Γ' => exact fun σ' H0' H' rr t => h σ' H0' H' rr (s.trans t)
  | ex c Γ' => exact fun C σ' H0' H' e rr t => h C σ' H0' H' e rr (s.trans t)
  | bad => exact h
theorem endU.bnd {α : Type} {m : M α} {f : α → M Unit} (h : endU Y W p Γ σ H0 H Q (VL.bnd m f Γ)) : sem Y W m Γ H0 σ H fun a Γ1 H01 H1 => endU Y W p Γ1 σ H01 H1 Q (f a Γ1) := by
  unfold VL.bnd at h
  unfold sem
  cases q : m Γ with
  | ok a Γ1 =>
    rw [q] at h
    exact fun _ _ _ s => h.step s.sts
  | ex c Γ1 =>
    rw [q] at h
    exact fun C H0' H' e r s => h C σ H0' H' e r s.sts
  | bad => rw [q] at h; exact h
/-- a store, then the rest -/
theorem endU.then {m : M Unit} {f : Unit → M Unit} (h : endU Y W p Γ σ H0 H Q (VL.bnd m f Γ)) : endU Y W p Γ σ H0 H (fun σ' H' => ∃ Γ' H0', Rep Y Γ' H0' σ' H' ∧ StS p Γ σ H0 H Γ' σ' H0' H' ∧ m Γ = .ok () Γ' ∧ endU Y W p Γ' σ' H0' H' Q (f () Γ')) (m Γ) := by
  unfold VL.bnd at h
  cases q : m Γ with
  | ok a Γ1 =>
    rw [q] at h
    exact fun σ' H0' H' r s => ⟨Γ1, H0', r, s, rfl, h.step s⟩
  | ex c Γ1 => rw [q] at h; exact h
  | bad => rw [q] at h; exact h
theorem endS.asg {m : M Unit} {D : Ends} {f : Unit → M Fl} (h : endS Y W p Γ σ H0 H D (VL.bnd m f Γ)) : endU Y W p Γ σ H0 H (fun σ' H' => ∃ Γ' H0', Rep Y Γ' H0' σ' H' ∧ StS p Γ σ H0 H Γ' σ' H0' H' ∧ endS Y W p Γ' σ' H0' H' D (f () Γ')) (m Γ) := by
  unfold VL.bnd at h
  cases q : m Γ with
  | ok a Γ1 =>
    rw [q] at h
    exact fun σ' H0' H' r s => ⟨Γ1, H0', r, s, h.step s⟩
  | ex c Γ1 => rw [q] at h; exact h
  | bad => rw [q] at h; exact h
theorem endU.mono {Q' : St → Hp → Prop} {r : R Unit} (h : endU Y W p Γ σ H0 H Q r) (k : ∀ σ' H', Q σ' H' → Q' σ' H') : endU Y W p Γ σ H0 H Q' r := by
  cases r with
  | ok f Γ' => exact fun σ' H0' H' rr t => k _ _ (h σ' H0' H' rr t)
  | ex c Γ' => exact h
  | bad => exact h
end
theorem _root_.L2.PG.imp {X : Cx} {e : Expr} {t t' : TG} (h : PG X e t) (k : ∀ v σ H Q, t' v σ H Q → t v σ H Q) : PG X e t' := ⟨fun pins s σ H v u Q I r q => h.run pins s σ H v u Q I r (k v σ H Q q)⟩
theorem _root_.L2.PG.or {X : Cx} {e : Expr} {t t' : TG} (h : PG X e t) (h' : PG X e t') : PG X e (fun v σ H Q => t v σ H Q ∨ t' v σ H Q) := ⟨fun pins s σ H v u Q I r q => q.elim (h.run pins s σ H v u Q I r) (h'.run pins s σ H v u Q I r)⟩
theorem _root_.L2.PGs.imp {X : Cx} {e : List Expr} {t t' : TGs} (h : PGs X e t) (k : ∀ v σ H Q, t' v σ H Q → t v σ H Q) : PGs X e t' := ⟨fun pins s σ H v u Q I r q => h.run pins s σ H v u Q I r (k v σ H Q q)⟩
section
variable {X : Cx} {W : WX} {p : Nat} {a b c e o : Expr} {es : List Expr} {fa fb fc : M Od} {pos : Pos}
theorem g_nm {i : Nat} {x : Str} (hN : X.N.Nodup) (hi : X.N[i]? = some x) (hx : Loc X.env.scope x) (hf : X.fn x = true ∨ X.env.scope.names.lookup x = some .local) : PG X (.Name x pos) (tG (ky X) W p (nmU p i)) := (pg_name hN hi hx hf).imp fun v σ H Q h => by
  obtain ⟨Γ, H0, d, r, hv, h⟩ := h
  unfold nmU putS at h
  by_cases hp : i < p
  · rw [if_pos hp] at h; exact False.elim h
  · rw [if_neg hp] at h
    exact h (σ.set i (some v)) H0 H (r.set (.inl ⟨d, rfl, hv⟩)) (StS.put hp StE.refl (.inl fun o z => nomatch z))
theorem g_sub {i : Nat} {x : Str} {px : Pos} {k : Expr} {fk : M Od} (hN : X.N[i]? = some x) (hv : Vis X.env.scope x) (hd : (x == ("__debug__" : Str)) = false) (hcd : (x == ("__classdict__" : Str)) = false) (hk : PE X k (tE (ky X) W fk))
    (ha : ∀ v, assign (.Subscript (.Name x px) k pos) X.env v = (do
      let ov ← holding [v] (eval (.Name x px) X.env)
      let iv ← holding [v, ov] (eval k X.env)
      standAt pos
      holding [v, ov, iv] (setItem ov iv v)
      release [v, ov, iv] [])) : PG X (.Subscript (.Name x px) k pos) (tG (ky X) W p (subU i fk)) := (pg_sub (pe_var hN hv hd hcd) hk set_list ha).imp fun v σ H Q h => by
  obtain ⟨Γ, H0, d, r, hvd, h⟩ := h
  unfold subU at h
  by_cases hl : isLst (gt Γ i) = true
  · rw [if_pos hl] at h
    rw [bnd_int] at h
    show ∃ ov, σ[i]? = some (some ov) ∧ tE (ky X) W fk σ H fun iv H2 => rSetL ov iv v H2 fun H3 => Q σ H3
    cases g : gt Γ i with
    | ow o =>
      obtain ⟨q, ho, e1, e2, e3, e4⟩ := r.ow i o g
      refine ⟨.ref q, e1, Γ, H0, r, h.bnd.mono fun oa Γ1 H01 H1 r1 s1 h1 iv qv => ?_⟩
      -- the index
      have h1' : ∃ k, iv = .int k ∧ endU (ky X) W p Γ1 σ H01 H1 Q (setL i k d Γ1) := by
        rw [bnd_assoc] at h1
        obtain ⟨dk, hx, h2⟩ := sem.soft r1 qv h1.bnd
        cases dk with
        | int k => exact ⟨k, hx.int, h2⟩
        | _ => exact False.elim h2
      obtain ⟨k, rfl, h2⟩ := h1'
      unfold setL at h2
      cases g1 : gt Γ1 i with
      | ow o1 =>
        rw [g1] at h2
        cases o1 with
        | lst ds =>
          dsimp only at h2
          obtain ⟨q', ho', f1, f2, f3, f4⟩ := r1.ow i _ g1
          rw [e1] at f1
          cases f1
          cases ho' with
          | lst vs =>
            cases ix : ixN ds.length k with
            | none => rw [ix] at h2; exact False.elim h2
            | some j =>
              rw [ix] at h2
              have f4' : VdAll H01 vs ds := f4
              refine ⟨q, vs, k, j, rfl, rfl, f3, by rw [f4'.length]; exact ix, ?_⟩
              obtain ⟨r3, s3⟩ := r1.write (o' := .lst (ds.set j d)) (ho := .lst (vs.set j v)) g1 e1 f2 (VdAll.set (Vd.mono s1.fr d v hvd) j f4')
              exact h2 σ H01 _ r3 s3.sts
          | _ => exact False.elim f4
        | _ => exact False.elim h2
      | _ => rw [g1] at h2; exact False.elim h2
    | _ => rw [g] at hl; cases hl
  · rw [if_neg hl] at h
    exact False.elim h
theorem g_nil : PGs X [] (tGs (ky X) W p nilU) := pgs_nil.imp fun vs σ H Q h => by
  obtain ⟨Γ, H0, ds, r, hv, h⟩ := h
  cases hv with
  | nil => exact ⟨rfl, h σ H0 H r StS.refl⟩
  | cons a b => exact False.elim h
theorem g_cons {m : MU} {ms : List PyData → M Unit} (h1 : PG X e (tG (ky X) W p m)) (h2 : PGs X es (tGs (ky X) W p ms)) (hs : (assignEach (e :: es) X.env).map (·.2) = assign e X.env :: (assignEach es X.env).map (·.2)) : PGs X (e :: es) (tGs (ky X) W p (consU m ms)) := (pgs_cons h1 h2 hs).imp fun vs σ H Q h => by
  obtain ⟨Γ, H0, ds, r, hv, h⟩ := h
  cases hv with
  | nil => exact False.elim h
  | cons q1 q2 =>
    refine ⟨_, _, rfl, Γ, H0, _, r, q1, h.then.mono fun σ' H' ⟨Γ', H0', r', s', _, h'⟩ => ?_⟩
    exact ⟨Γ', H0', _, r', VdAll.mono s'.fr _ _ q2, h'⟩
theorem g_tup {m : List PyData → M Unit} {k : Nat} {n : Nat} (hc : X.calm = true) (h : PGs X es (tGs (ky X) W p m)) (hn : (assignEach es X.env).length = n) (hst : (assignEach es X.env).findIdx? (·.1) = none) : PG X (.Tuple es k pos) (tG (ky X) W p (tupU n m)) := ((pg_tup hc h hn hst).or (pg_lst hc h hn hst)).imp fun v σ H Q h => by
  obtain ⟨Γ, H0, d, r, hv, h⟩ := h
  unfold tupU at h
  cases d with
  | tuple ds =>
    by_cases hl : ds.length = n
    · dsimp only at h
      rw [if_pos hl] at h
      cases hv with
      | tup e q => exact .inl ⟨_, _, rfl, SqT.of (r.same _ _ e), by rw [q.length]; exact hl, Γ, H0, ds, r, q, h⟩
    · dsimp only at h
      rw [if_neg hl] at h; exact False.elim h
  | list ds =>
    by_cases hl : ds.length = n
    · dsimp only at h
      rw [if_pos hl] at h
      cases hv with
      | lst e q => exact .inr ⟨_, _, rfl, SqL.of (r.same _ _ e), by rw [q.length]; exact hl, Γ, H0, ds, r, q, h⟩
    · dsimp only at h
      rw [if_neg hl] at h; exact False.elim h
  | _ => exact False.elim h
theorem asg_ok {m : MU} {D : Ends} {σ : St} {H : Hp} {Y : Ky} (h : tS Y W p (asgS m fa) D σ H) : tAsg (tE Y W fa) (tG Y W p m) D σ H := by
  obtain ⟨Γ, H0, r, h⟩ := h
  refine ⟨Γ, H0, r, h.bndS.mono fun x Γ1 H01 H1 r1 s1 h1 v qv => ?_⟩
  obtain ⟨d, Γ2, e, h2⟩ := h1.hd
  obtain ⟨H02, r2, s2, sm, hv⟩ := hard_back r1 s1 qv r e
  refine ⟨Γ2, H02, d, r2, hv, (h2.step s2.sts).asg.mono fun σ' H' ⟨Γ', H0', r', s', h'⟩ => ?_⟩
  exact h' σ' H0' H' r' StS.refl
theorem v_asg {m : MU} (ha : PE X a (tE (ky X) W fa)) (hg : PG X e (tG (ky X) W p m)) (hs : swapsWithSole [e] a pos.line X.env = pure false) (hw : swappedStores [e] a X.env = pure none) (h1 : (assignEach [e] X.env).map (·.2) = [assign e X.env]) :
    PS X (.Assign [e] a pos) (tS (ky X) W p (asgS m fa)) := (ps_asg ha hg hs hw h1).imp fun D σ H h => asg_ok h
theorem hards_back {Y : Ky} {Γs Γ : VL.Env} {σ : St} {H0s Hs H0 H : Hp} {os : List Od} {vs : List V} {ds : List PyData} {Γ1 : VL.Env} (r : Rep Y Γ H0 σ H) (s : StE Γs σ H0s Hs Γ H0 H) (q : RepOds Hs σ H0 H os vs) (rs : Rep Y Γs H0s σ Hs) (e : hards os Γ = .ok ds Γ1) :
    ∃ H01, Rep Y Γ1 H01 σ H ∧ StE Γs σ H0s Hs Γ1 H01 H ∧ Same H0 H01 ∧ VdAll H01 vs ds := by
  obtain ⟨ds', Γ1', H01, r1, s1, sm, hv, h⟩ := hards_ok (W := W0) (f := ret) (K := fun a Γ' _ _ => a = ds ∧ Γ' = Γ1) rs r s q.weak (by
    unfold semS VL.bnd
    rw [e]
    exact fun _ _ _ _ => ⟨rfl, rfl⟩)
  obtain ⟨rfl, rfl⟩ := h H01 H r1 s1
  exact ⟨H01, r1, s1, sm, hv⟩
theorem hards_ex {os : List Od} {Γ Γ1 : VL.Env} {c : Str} : hards os Γ ≠ .ex c Γ1 := by
  induction os generalizing Γ Γ1 c with
  | nil => intro e; cases e
  | cons o r ih =>
    intro e
    unfold hards bnd at e
    cases q : hard o Γ with
    | ok d Γ2 =>
      rw [q] at e
      dsimp only at e
      cases q2 : hards r Γ2 with
      | ok xs Γ3 => rw [q2] at e; cases e
      | ex c' g => exact absurd q2 ih
      | bad => rw [q2] at e; cases e
    | ex c' g =>
      unfold hard at q
      split at q <;> try (cases q)
      split at q <;> cases q
    | bad => rw [q] at e; cases e
theorem endS.hds {Y : Ky} {Γ Γ2 : VL.Env} {σ : St} {H0 H : Hp} {D : Ends} {os : List Od} {f : List PyData → M Fl} (h : endS Y W p Γ2 σ H0 H D (VL.bnd (hards os) f Γ)) : ∃ d Γ1, hards os Γ = .ok d Γ1 ∧ endS Y W p Γ2 σ H0 H D (f d Γ1) := by
  unfold VL.bnd at h
  cases q : hards os Γ with
  | ok d Γ1 => rw [q] at h; exact ⟨d, Γ1, rfl, h⟩
  | ex c g => exact absurd q hards_ex
  | bad => rw [q] at h; exact False.elim h
theorem v_par {i j : Nat} {x y : Str} {px py pt : Pos} {kt k2 pt2} (hc : X.calm = true) (hN : X.N.Nodup) (hi : X.N[i]? = some x) (hj : X.N[j]? = some y) (hij : i ≠ j)
    (hx : X.env.scope.names.lookup x = some .local) (hy : X.env.scope.names.lookup y = some .local) (ha : PE X a (tE (ky X) W fa)) (hb : PE X b (tE (ky X) W fb)) (na : noStar a = true) (nb : noStar b = true)
    (hw : swappedStores [.Tuple [.Name x px, .Name y py] kt pt] (.Tuple [a, b] k2 pt2) X.env = pure (some [x, y])) (hs : swapsWithSole [.Tuple [.Name x px, .Name y py] kt pt] (.Tuple [a, b] k2 pt2) pos.line X.env = pure false) :
    PS X (.Assign [.Tuple [.Name x px, .Name y py] kt pt] (.Tuple [a, b] k2 pt2) pos) (tS (ky X) W p (par2S p i j fa fb)) := (ps_par hc hN hi hj hij hx hy (v_cons ha (v_cons hb v_nil nb) na) hw hs).imp fun D σ H h => by
  obtain ⟨Γ, H0, r, h⟩ := h
  refine ⟨Γ, H0, r, h.bndS.mono fun os Γ1 H01 H1 r1 s1 h1 vs qv => ?_⟩
  obtain ⟨ds, Γ2, e, h2⟩ := h1.hds
  obtain ⟨H02, r2, s2, sm, hv⟩ := hards_back r1 s1 qv r e
  cases hv with
  | nil => exact False.elim h2
  | cons q1 hv =>
    cases hv with
    | nil => exact False.elim h2
    | cons q2 hv =>
      cases hv with
      | cons _ _ => exact False.elim h2
      | nil =>
        obtain ⟨p1, h3⟩ := put_no h2
        obtain ⟨p2, h4⟩ := put_no h3
        refine ⟨_, _, rfl, ?_⟩
        have r3 := r2.set (i := i) (.inl ⟨_, rfl, q1⟩)
        have r4 := r3.set (i := j) (.inl ⟨_, rfl, q2⟩)
        exact h4 _ H02 H1 r4 ((StS.put p1 s2 (.inl fun o z => by cases z)).trans (StS.put p2 StE.refl (.inl fun o z => by cases z)))
/-! ### loops -/
theorem gt_mask : ∀ (Γ0 Γ : VL.Env) (i : Nat), Γ0.length = Γ.length → gt (maskS Γ0 Γ) i = match gt Γ0 i with | .no => .no | _ => gt Γ i
  | [], [], i, _ => by cases i <;> rfl
  | [], _ :: _, _, h => by simp at h
  | _ :: _, [], _, h => by simp at h
  | s :: r, t :: q, 0, h => by cases s <;> rfl
  | s :: r, t :: q, i + 1, h => by
    have e : gt (maskS (s :: r) (t :: q)) (i + 1) = gt (maskS r q) i := by cases s <;> rfl
    rw [e, gt_mask r q i (by simpa using h)]
    rfl
theorem len_mask : ∀ (Γ0 Γ : VL.Env), Γ0.length = Γ.length → (maskS Γ0 Γ).length = Γ.length
  | [], [], _ => rfl
  | [], _ :: _, h => by simp at h
  | _ :: _, [], h => by simp at h
  | s :: r, t :: q, h => by
    have e : (maskS (s :: r) (t :: q)).length = (maskS r q).length + 1 := by cases s <;> rfl
    rw [e, len_mask r q (by simpa using h), List.length_cons]
theorem mask_key {Γ0 Γ : VL.Env} (hl : Γ0.length = Γ.length) {i : Nat} {s : Slot} (h : gt (maskS Γ0 Γ) i = s) (n : s ≠ .no) : gt Γ i = s := by
  rw [gt_mask Γ0 Γ i hl] at h
  split at h
  · exact absurd h.symm n
  · exact h
theorem Rep.mask {Y : Ky} {Γ0 Γ : VL.Env} {σ : St} {H0 H : Hp} (r : Rep Y Γ H0 σ H) (hl : Γ0.length = Γ.length) : Rep Y (maskS Γ0 Γ) H0 σ H :=
  ⟨by rw [len_mask Γ0 Γ hl]; exact r.len, r.same, fun i d h => r.va i d (mask_key hl h (by simp)), fun i d h => r.ow i d (mask_key hl h (by simp)), fun i j o o' a h1 h2 => r.inj i j o o' a (mask_key hl h1 (by simp)) (mask_key hl h2 (by simp)),
    fun i d h => r.xc i d (mask_key hl h (by simp)), fun i d h => r.sc i d (mask_key hl h (by simp))⟩
theorem StE.mask {Γ0 Γ : VL.Env} {σ : St} {H0 H : Hp} (hl : Γ0.length = Γ.length) : StE Γ σ H0 H (maskS Γ0 Γ) H0 H := ⟨Same.refl _, fun _ h => .inl h, fun _ _ h _ => h, fun i o h => ⟨o, mask_key hl h (by simp)⟩, fun _ h => h⟩
/-- a loop's turns, one after another -/
theorem forL_turn {Y : Ky} {D : Ends} {m : MU} {body : M Fl} {Γ0 Γ : VL.Env} {σ : St} {H0 H : Hp} {x : PyData} {ds : List PyData} (hl : Γ0.length = Γ.length) (r0 : Rep Y Γ H0 σ H) (h : endS Y W p Γ σ H0 H D (forL m body Γ0 (x :: ds) Γ)) :
    endU Y W p Γ σ H0 H (fun σ2 H2 => tS Y W p body { D with nx := fun σ' H' => ∃ Γ' H0', Rep Y Γ' H0' σ' H' ∧ StS p Γ σ H0 H Γ' σ' H0' H' ∧ Γ0.length = Γ'.length ∧ endS Y W p Γ' σ' H0' H' D (forL m body Γ0 ds Γ'), ct := fun σ' H' => ∃ Γ' H0', Rep Y Γ' H0' σ' H' ∧ StS p Γ σ H0 H Γ' σ' H0' H' ∧ Γ0.length = Γ'.length ∧ endS Y W p Γ' σ' H0' H' D (forL m body Γ0 ds Γ'), bk := D.nx } σ2 H2) (m x Γ) := by
  unfold forL bnd at h
  cases q : m x Γ with
  | ok u Γ1 =>
    rw [q] at h
    dsimp only at h
    intro σ2 H02 H2 r2 s2
    refine ⟨Γ1, H02, r2, ?_⟩
    have lq : Γ.length = Γ1.length := by rw [r0.len, r2.len, s2.ln]
    have nxt : ∀ {Γ2 : VL.Env} {σ' : St} {H0' H' : Hp}, Rep Y Γ2 H0' σ' H' → StS p Γ1 σ2 H02 H2 Γ2 σ' H0' H' → Γ0.length = Γ2.length ∧ Rep Y (maskS Γ0 Γ2) H0' σ' H' ∧ StS p Γ σ H0 H (maskS Γ0 Γ2) σ' H0' H' := fun {Γ2 σ' H0' H'} r3 s3 => by
      have l2 : Γ0.length = Γ2.length := by rw [hl, lq, r2.len, r3.len, s3.ln]
      exact ⟨l2, r3.mask l2, s2.trans (s3.trans (StE.mask l2).sts)⟩
    cases qb : body Γ1 with
    | ok f Γ2 =>
      rw [qb] at h
      intro σ' H0' H' r3 s3
      obtain ⟨l2, r4, s4⟩ := nxt r3 s3
      cases f with
      | nx => exact ⟨_, H0', r4, s4, by rw [len_mask Γ0 Γ2 l2]; exact l2, h.step s4⟩
      | ct => exact ⟨_, H0', r4, s4, by rw [len_mask Γ0 Γ2 l2]; exact l2, h.step s4⟩
      | bk => exact h σ' H0' H' r4 s4
      | rt rs => exact fun v hv => h σ' H0' H' r3 (s2.trans s3) v (hv.step s2)
    | ex c Γ2 =>
      rw [qb] at h
      exact fun C σ' H0' H' e r3 s3 => h C σ' H0' H' e r3 (s2.trans s3)
    | bad => rw [qb] at h; exact h
  | ex c Γ1 =>
    rw [q] at h
    exact h
  | bad => rw [q] at h; exact h
theorem lock_ow {l : Option Nat} {Γ Γ1 : VL.Env} {x : Itm} {ds : List PyData} {σ : St} {b : Addr} (e : frzI x Γ = .ok ds Γ1) (h : Ow Γ1 σ b) : Ow (lockS x.lock Γ) σ b := by
  unfold frzI at e
  unfold lockS
  cases ql : x.lock with
  | none =>
    rw [ql] at e
    cases e
    exact h
  | some i =>
    rw [ql] at e
    dsimp only at e ⊢
    cases g : gt Γ i with
    | ow o =>
      rw [g] at e
      cases o with
      | lst es =>
        cases e
        obtain ⟨j, o, h1, h2⟩ := h
        refine ⟨j, o, ?_, h2⟩
        rw [gt_st] at h1 ⊢
        split at h1
        · cases h1
        · rename_i hj
          rw [if_neg hj]; exact h1
      | _ => cases e
    | _ => rw [g] at e; cases e
theorem for_ok {Y : Ky} {D : Ends} {m : MU} {im : M Itm} {body : M Fl} {σ : St} {H : Hp} (h : tS Y W p (forS m im body) D σ H) : tFor (tI Y W im) (tG Y W p m) (tS Y W p body) D σ H := by
  obtain ⟨Γ, H0, r, h⟩ := h
  refine ⟨Γ, H0, r, h.bndS.mono fun x Γ1 H01 H1 r1 s1 h1 J G wk hG => ?_⟩
  -- what is walked is frozen
  have fz : ∃ Γ2 H02, frzI x Γ1 = .ok x.ds Γ2 ∧ Rep Y Γ2 H02 σ H1 ∧ StE Γ σ H0 H Γ2 H02 H1 ∧ Same H01 H02 ∧ endS Y W p Γ σ H0 H D (forL m body Γ2 x.ds Γ2) := by
    unfold bnd at h1
    cases q : frzI x Γ1 with
    | ok ds Γ2 =>
      rw [q] at h1
      dsimp only at h1
      have q' := q
      unfold frzI at q'
      cases ql : x.lock with
      | none =>
        rw [ql] at q'
        cases q'
        exact ⟨_, H01, rfl, r1, s1, Same.refl _, h1⟩
      | some i =>
        rw [ql] at q'
        dsimp only at q'
        cases g : gt Γ1 i with
        | ow o =>
          rw [g] at q'
          cases o with
          | lst es =>
            cases q'
            obtain ⟨a, ho, e1, _⟩ := r1.ow i _ g
            have eh : hard (.rf i) Γ1 = .ok (.list es) (st Γ1 i (.va (.list es))) := by unfold hard; simp only [g]
            obtain ⟨H02, r2, s2, sm, _⟩ := hard_back (o := .rf i) (v := .ref a) r1 s1 e1 r eh
            exact ⟨_, H02, rfl, r2, s2, sm, h1⟩
          | _ => cases q'
        | _ => rw [g] at q'; cases q'
    | ex c g =>
      unfold frzI at q
      split at q
      · cases q
      · split at q <;> cases q
    | bad => rw [q] at h1; exact False.elim h1
  obtain ⟨Γ2, H02, ef, r2, s2, sm, h2⟩ := fz
  refine for_it wk (fun i σ' H' => ∃ Γ' H0', Rep Y Γ' H0' σ' H' ∧ StS p Γ2 σ H02 H1 Γ' σ' H0' H' ∧ Γ2.length = Γ'.length ∧ endS Y W p Γ' σ' H0' H' D (forL m body Γ2 (x.ds.drop i) Γ')) ⟨Γ2, H02, r2, StS.refl, rfl, h2.step s2.sts⟩ ?_ ?_ ?_
  · rintro i σ' H' _ ⟨Γ', H0', r', s', l', h'⟩
    exact hG H' fun b o e n _ => s'.ke b o e fun z => n (lock_ow (l := x.lock) ef z)
  · rintro i v σ' H' H'' hi ⟨Γ', H0', r', s', l', h'⟩ ⟨eH, d, hd, hv⟩
    have eH := eH.symm
    subst eH
    rw [drop_get hd] at h'
    refine ⟨Γ', H0', d, r', Vd.mono (sm.trans s'.fr) d v hv, (forL_turn l' r' h').mono fun σ2 H2 t => ?_⟩
    obtain ⟨Γ3, H03, r3, t3⟩ := t
    refine ⟨Γ3, H03, r3, ?_⟩
    have imp : ∀ σ'' H'', (∃ Γ'' H0'', Rep Y Γ'' H0'' σ'' H'' ∧ StS p Γ' σ' H0' H' Γ'' σ'' H0'' H'' ∧ Γ2.length = Γ''.length ∧ endS Y W p Γ'' σ'' H0'' H'' D (forL m body Γ2 (x.ds.drop (i + 1)) Γ'')) → ∃ Γ'' H0'', Rep Y Γ'' H0'' σ'' H'' ∧ StS p Γ2 σ H02 H1 Γ'' σ'' H0'' H'' ∧ Γ2.length = Γ''.length ∧ endS Y W p Γ'' σ'' H0'' H'' D (forL m body Γ2 (x.ds.drop (i + 1)) Γ'') := fun σ'' H'' ⟨Γ'', H0'', a, b, c, d⟩ => ⟨Γ'', H0'', a, s'.trans b, c, d⟩
    cases q : body Γ3 with
    | ok f Γ4 =>
      rw [q] at t3
      intro σ'' H0'' H'' a b
      have z := t3 σ'' H0'' H'' a b
      cases f with
      | nx => exact imp _ _ z
      | ct => exact imp _ _ z
      | bk => exact z
      | rt rs => exact z
    | ex c Γ4 => rw [q] at t3; exact t3
    | bad => rw [q] at t3; exact t3
  · rintro σ' H' ⟨Γ', H0', r', s', l', h'⟩
    rw [List.drop_length] at h'
    exact h' σ' H0' H' r' StS.refl
theorem v_for {tg iter : Expr} {body : List Stmt} {m : MU} {im : M Itm} {s1 : M Fl} (hp : PassesOwn (model X.prog X.w) X.A X.env X.xe) (hc : X.calm = true) (hi : PI X tg iter (tI (ky X) W im)) (hg : PG X tg (tG (ky X) W p m)) (hb : PSs X body (tS (ky X) W p s1)) (hs : ∀ x, foldedSetIterable iter X.env x = pure x) :
    PS X (.For tg iter body [] pos) (tS (ky X) W p (forS m im s1)) := (ps_for hp hc hi hg hb hs).imp fun D σ H h => for_ok h
theorem v_while {body : List Stmt} {t : M Bool} {s1 : M Fl} {n : Nat} (hp : PassesOwn (model X.prog X.w) X.A X.env X.xe) (hc : PT X c (tT (ky X) W t)) (hb : PSs X body (tS (ky X) W p s1)) : PS X (.While c body [] pos) (tS (ky X) W p (whS n t s1)) := (ps_while hp hc hb).imp fun D σ H h => by
  obtain ⟨Γ, H0, r, h⟩ := h
  refine ⟨fun k σ' H' => ∃ Γ' H0', Rep (ky X) Γ' H0' σ' H' ∧ Γ.length = Γ'.length ∧ endS (ky X) W p Γ' σ' H0' H' D (whL t s1 Γ k Γ'), ⟨n, Γ, H0, r, rfl, h⟩, ?_⟩
  rintro k σ' H' ⟨Γ', H0', r', l', h'⟩
  cases k with
  | zero => exact False.elim h'
  | succ k =>
    refine ⟨Γ', H0', r', ?_⟩
    unfold whL at h'
    unfold sem
    cases q : t Γ' with
    | ok b Γ1 =>
      rw [q] at h'
      intro H01 H1 r1 s1
      have l1 : Γ.length = Γ1.length := by rw [l', r'.len, r1.len]
      cases b with
      | false => exact h' σ' H01 H1 r1 s1.sts
      | true =>
        simp only [if_true]
        dsimp only at h'
        refine ⟨fun σ2 H2 => ∃ Γ2 H02, Rep (ky X) Γ2 H02 σ2 H2 ∧ Γ.length = Γ2.length ∧ endS (ky X) W p Γ2 σ2 H02 H2 D (whL t _ Γ k Γ2), fun σ2 H2 z => ⟨k, Nat.lt_succ_self _, z⟩, Γ1, H01, r1, ?_⟩
        rename_i s1'
        cases qb : s1' Γ1 with
        | ok f Γ2 =>
          rw [qb] at h'
          intro σ2 H02 H2 r2 s2
          have l2 : Γ.length = Γ2.length := by rw [l1, r1.len, r2.len, s2.ln]
          have s4 := s1.sts.trans (s2.trans (StE.mask (Γ0 := Γ) l2).sts)
          cases f with
          | nx => exact ⟨_, H02, r2.mask l2, by rw [len_mask Γ Γ2 l2]; exact l2, h'.step s4⟩
          | ct => exact ⟨_, H02, r2.mask l2, by rw [len_mask Γ Γ2 l2]; exact l2, h'.step s4⟩
          | bk => exact h' σ2 H02 H2 (r2.mask l2) s4
          | rt rs => exact fun v hv => h' σ2 H02 H2 r2 (s1.sts.trans s2) v (hv.step s1.sts)
        | ex c Γ2 =>
          rw [qb] at h'
          exact fun C σ2 H02 H2 e r2 s2 => h' C σ2 H02 H2 e r2 (s1.sts.trans s2)
        | bad => rw [qb] at h'; exact h'
    | ex c Γ1 =>
      rw [q] at h'
      exact fun C H01 H1 e r1 s1 => h' C σ' H01 H1 e r1 s1.sts
    | bad => rw [q] at h'; exact h'
end
end VL

/-! VO: name = [..] on one line; try; isinstance of what is caught. -/
namespace VL
open PySem PySem.Spec PyProof.Rows L2
section
variable {X : Cx} {W : WX} {p : Nat} {pos : Pos} {fe : M Od} {cs : M Bool} {im : M Itm}
/-- name = [..], stored within the comprehension's own clean-up -/
theorem asgLc {i : Nat} {own : List Nat} {y : Nat} (hi : i ∈ own) {D : Ends} {σ : St} {H : Hp} (h : tAsg (tE (ky X) W (compE i own im cs fe)) (gName y) D σ H) : tAsg (tLc (tI (ky X) W im) (gName i) (tT (kyb (ky X)) W0 cs) (tE (kyb (ky X)) W0 fe) own) (gName y) D σ H := comp_ok hi h
theorem v_setLc {st : M Od → M Fl} {y : Nat} {x : Str} {py spos : Pos} {tg elt iter : Expr} {ifs : List Expr} {scope : Scope} {own : List (Str × Nat)} {i : Nat} (hst : ∀ (fa : M Od) D σ H, tS (ky X) W p (st fa) D σ H → tAsg (tE (ky X) W fa) (gName y) D σ H)
    (hc : X.calm = true) (hN : X.N.Nodup) (hy : X.N[y]? = some x) (hyl : X.env.scope.names.lookup x = some .local) (hsw : swapsWith (.ListComp elt [⟨tg, iter, ifs, 0⟩] scope pos) (some (.Name x py)) spos.line X.env = pure true)
    (hi : PI X tg iter (tI (ky X) W im)) (ok : BlkOk X.N X.env.scope scope own) (ho : i ∈ own.map (·.2))
    (hg : ∀ (s : Shared) (H : Hp) (C : Addr) (cl : List (Str × Addr)) (fp : List Addr), PG (X.blk s H scope (compEnvC scope cl C X.env) fp) tg (gName i)) (ht : ∀ (s : Shared) (H : Hp) (C : Addr) (cl : List (Str × Addr)) (fp : List Addr), PTs (X.blk s H scope (compEnvC scope cl C X.env) fp) ifs (tT (kyb (ky X)) W0 cs))
    (he : ∀ (s : Shared) (H : Hp) (C : Addr) (cl : List (Str × Addr)) (fp : List Addr), PE (X.blk s H scope (compEnvC scope cl C X.env) fp) elt (tE (kyb (ky X)) W0 fe)) (hs : ∀ x, foldedSetIterable iter X.env x = pure x) :
    PS X (.Assign [.Name x py] (.ListComp elt [⟨tg, iter, ifs, 0⟩] scope pos) spos) (tS (ky X) W p (st (compE i (own.map (·.2)) im cs fe))) :=
  (ps_setLc hc hN hy hyl hsw hi ok hg ht he hs).imp fun D σ H h => asgLc ho (hst _ D σ H h)

/-! ### try -/
theorem noX_get {Γ : VL.Env} {i : Nat} : gt (noX Γ) i = noXc (gt Γ i) := by
  unfold noX
  rw [gt_hide]
  rfl
theorem noX_key {Γ : VL.Env} {i : Nat} {s : Slot} (h : gt (noX Γ) i = s) (n : s ≠ .no) : gt Γ i = s := by
  rw [noX_get] at h
  exact noXc_eq h n
/-- no slot holds an exception: whatever is pinned -/
theorem Rep.noX {Y Y' : Ky} {Γ : VL.Env} {σ : St} {H0 H : Hp} (hK : Y'.K = Y.K) (r : Rep Y Γ H0 σ H) : Rep Y' (VL.noX Γ) H0 σ H :=
  ⟨by unfold VL.noX; rw [len_hide]; exact r.len, r.same, fun i d h => r.va i d (noX_key h (by simp)), fun i o h => r.ow i o (noX_key h (by simp)), fun i j o o' a h1 h2 => r.inj i j o o' a (noX_key h1 (by simp)) (noX_key h2 (by simp)), fun i c h => (by
    rw [noX_get] at h
    cases q : gt Γ i <;> rw [q] at h <;> cases h), fun i ns h => by
    obtain ⟨a, h1, h2⟩ := r.sc i ns (noX_key h (by simp))
    exact ⟨a, h1, by rw [hK]; exact h2⟩⟩
theorem StE.noX {Γ : VL.Env} {σ : St} {H0 H : Hp} : StE Γ σ H0 H (VL.noX Γ) H0 H := ⟨Same.refl _, fun _ h => .inl h, fun _ _ h _ => h, fun i o h => ⟨o, noX_key h (by simp)⟩, fun _ h => h⟩
/-- anc tells of the classes' ancestors: h among them -/
def AncOk (X : Cx) (anc : Anc) (h : Str) (c : Value) : Prop := ∀ k l C, anc.lookup k = some l → X.mg k = some (.ref C) → PySem.W.exmOne X.K (.ref C) c = some (l.contains h)
/-- the run's end, told of other pins -/
theorem endS.pins {Y Y' : Ky} {W : WX} {Γ Γ2 : VL.Env} {σ : St} {H0 H : Hp} {D : Ends} {f : Fl} {Γ1 : VL.Env} (hK : Y'.K = Y.K) (s : StS p Γ2 σ H0 H Γ σ H0 H) (h : endS Y W p Γ2 σ H0 H D (.ok f (noX Γ1))) : endS Y' W0 p Γ σ H0 H D (.ok f Γ1) := fun σ' H0' H' r t => by
  have q := h σ' H0' H' (r.noX hK.symm) (s.trans (t.trans StE.noX.sts))
  cases f with
  | nx => exact q
  | rt rs => exact fun v hv => q v (hv.step s)
  | bk => exact q
  | ct => exact q
/-- an exception that is handled: its context is None -/
def HotZ (oe : Obj) : Prop := PySem.PXN.CtxN oe ∧ ∃ vs, oe.data = .fields vs
theorem v_try {x : Str} {c : Value} {body suite : List Stmt} {b₀ : Stmt} {np pos' : Pos} {anc : Anc} {s1 s2 : M Fl} (hs : X.stack = X.env :: X.outer) (hf : X.env.frame = some X.env.locals) (hc : Names X x c) (tk : L2N.Takes X W) (ha : AncOk X anc x c)
    (hb : ∀ (W : WX) (pn : List (Addr × Obj)) (xe : Value → Shared → Prop), L2N.Takes (X.tr pn xe) W → PassesOwn (model X.prog X.w) X.A X.env xe → PSs (X.tr pn xe) body (tS ⟨X.K, X.mg, pn⟩ W p s1))
    (hsu : ∀ (a : Addr) (oe : Obj) (pn : List (Addr × Obj)), HotZ oe → PSs (X.suite a ((a, oe) :: pn)) (b₀ :: suite) (tS ⟨X.K, X.mg, (a, oe) :: pn⟩ W0 p s2)) :
    PS X (.Try body [.ExceptHandler (some (.Name x np)) none (b₀ :: suite) pos'] [] [] pos) (tS (ky X) W p (tryS anc s1 x s2)) := by
  refine (L2N.ps_try_many hs hf tk (tb := fun W D σ H => ∀ pn, tS ⟨X.K, X.mg, pn⟩ W p s1 D σ H) (l := [(c, fun a cls d D σ H => ∀ oe pn, tS ⟨X.K, X.mg, (a, oe) :: pn⟩ W0 p s2 D σ H)]) (fun W pn xe t ps => (hb W pn xe t ps).imp fun D σ H h => h pn) (.cons hc (fun a oe cls d pn z1 z2 => (hsu a oe pn ⟨z1.2.2, z2⟩).imp fun D σ H h => h oe pn) .nil)).imp fun D σ H h => ?_
  obtain ⟨Γ, H0, r, h⟩ := h
  intro pn
  refine ⟨noX Γ, H0, r.noX (by rfl), ?_⟩
  unfold tryS at h
  have s0 : StS p Γ σ H0 H (noX Γ) σ H0 H := StE.noX.sts
  cases q : s1 (noX Γ) with
  | ok f Γ1 =>
    rw [q] at h
    intro σ' H0' H' r' t
    have q := h σ' H0' H' (r'.noX (by rfl)) (s0.trans (t.trans StE.noX.sts))
    cases f with
    | nx => exact q
    | rt rs => exact fun v hv => q v (hv.step s0)
    | bk => exact q
    | ct => exact q
  | bad => rw [q] at h; exact h
  | ex k Γ1 =>
    rw [q] at h
    dsimp only at h
    intro C σ' H0' H' hC r' t
    have t' := s0.trans (t.trans (StE.noX (Γ := Γ1) (σ := σ') (H0 := H0') (H := H')).sts)
    cases ql : anc.lookup k with
    | none => rw [ql] at h; exact False.elim h
    | some l =>
      rw [ql] at h
      dsimp only at h
      refine ⟨l.contains x, ha k l C ql hC, fun hb => ?_, fun hb => ?_⟩
      · rw [if_pos hb] at h
        intro a hna oe pn'
        refine ⟨noX Γ1, H0', r'.noX (by rfl), ?_⟩
        unfold suiteS at h
        cases q2 : s2 (noX Γ1) with
        | ok f Γ2 =>
          rw [q2] at h
          exact endS.pins (Y := ky X) rfl StS.refl (h.step t')
        | ex c2 Γ2 => rw [q2] at h; exact False.elim h
        | bad => rw [q2] at h; exact False.elim h
      · rw [if_neg (by rw [hb]; decide)] at h
        exact h C σ' H0' H' hC (r'.noX (by rfl)) t'
/-- a name that holds the exception -/
theorem Rep.exc {Y : Ky} {Γ : VL.Env} {σ : St} {H0 H : Hp} {i : Nat} {k : Str} {a : Addr} (r : Rep Y Γ H0 σ H) (e : ExAt Y a k) : Rep Y (st Γ i (.xc k)) H0 (σ.set i (some (.ref a))) H := by
  have other : ∀ {j : Nat}, ¬ (j = i ∧ i < Γ.length) → (σ.set i (some (.ref a)))[j]? = σ[j]? := fun {j} h => by
    by_cases e : j = i
    · subst e
      have hl : ¬ j < Γ.length := fun z => h ⟨rfl, z⟩
      rw [List.getElem?_eq_none (by rw [List.length_set, ← r.len]; omega), List.getElem?_eq_none (by rw [← r.len]; omega)]
    · exact List.getElem?_set_ne (Ne.symm e)
  have key : ∀ {j : Nat} {s : Slot}, gt (st Γ i (.xc k)) j = s → (∀ c, s ≠ .xc c) → gt Γ j = s ∧ (σ.set i (some (.ref a)))[j]? = σ[j]? := fun {j s} h n => by
    rw [gt_st] at h
    split at h
    · exact absurd h.symm (n k)
    · rename_i hj
      exact ⟨h, other hj⟩
  refine ⟨by rw [len_st, List.length_set]; exact r.len, r.same, fun j d h => ?_, fun j o h => ?_, fun j l o o' b h1 h2 e1 e2 => ?_, fun j c h => ?_, fun j ns h => ?_⟩
  · obtain ⟨h1, h2⟩ := key h (fun c z => nomatch z)
    rw [h2]; exact r.va j d h1
  · obtain ⟨h1, h2⟩ := key h (fun c z => nomatch z)
    rw [h2]; exact r.ow j o h1
  · obtain ⟨h1, h1'⟩ := key h1 (fun c z => nomatch z)
    obtain ⟨h2, h2'⟩ := key h2 (fun c z => nomatch z)
    rw [h1'] at e1
    rw [h2'] at e2
    exact r.inj j l o o' b h1 h2 e1 e2
  · rw [gt_st] at h
    split at h
    · rename_i hj
      cases h
      rw [hj.1]
      exact ⟨a, List.getElem?_set_self (by rw [← r.len]; exact hj.2), e⟩
    · rename_i hj
      rw [other hj]
      exact r.xc j c h
  · obtain ⟨h1, h2⟩ := key h (fun c z => nomatch z)
    rw [h2]; exact r.sc j ns h1
theorem Rep.unset {Y : Ky} {Γ : VL.Env} {σ : St} {H0 H : Hp} {i : Nat} (r : Rep Y Γ H0 σ H) : Rep Y (st Γ i .no) H0 (σ.set i none) H := by
  have key : ∀ {j : Nat} {s : Slot}, gt (st Γ i .no) j = s → s ≠ .no → gt Γ j = s ∧ (σ.set i none)[j]? = σ[j]? := fun {j s} h n => by
    rw [gt_st] at h
    split at h
    · exact absurd h.symm n
    · rename_i hj
      refine ⟨h, ?_⟩
      by_cases e : i = j
      · exact absurd ⟨e.symm, e ▸ gt_lt (by rw [h]; exact n)⟩ hj
      · exact List.getElem?_set_ne e
  exact ⟨by rw [len_st, List.length_set]; exact r.len, r.same, fun j d h => by obtain ⟨h1, h2⟩ := key h (by simp); rw [h2]; exact r.va j d h1, fun j o h => by obtain ⟨h1, h2⟩ := key h (by simp); rw [h2]; exact r.ow j o h1,
    fun j l o o' b h1 h2 e1 e2 => by
      obtain ⟨h1, h1'⟩ := key h1 (by simp)
      obtain ⟨h2, h2'⟩ := key h2 (by simp)
      rw [h1'] at e1
      rw [h2'] at e2
      exact r.inj j l o o' b h1 h2 e1 e2, fun j o h => by obtain ⟨h1, h2⟩ := key h (by simp); rw [h2]; exact r.xc j o h1, fun j o h => by obtain ⟨h1, h2⟩ := key h (by simp); rw [h2]; exact r.sc j o h1⟩
theorem StS.slot {Γ : VL.Env} {σ : St} {H0 H : Hp} {i : Nat} {s : Slot} {v : Option V} (hi : ¬ i < p) (hs : ∀ o, s ≠ .ow o) : StS p Γ σ H0 H (st Γ i s) (σ.set i v) H0 H := by
  have key : ∀ {j o b}, gt (st Γ i s) j = .ow o → (σ.set i v)[j]? = some (some (.ref b)) → gt Γ j = .ow o ∧ σ[j]? = some (some (.ref b)) := fun {j o b} h1 h2 => by
    rw [gt_st] at h1
    split at h1
    · exact absurd h1 (hs o)
    · rename_i hj
      by_cases e : i = j
      · subst e
        exact absurd ⟨rfl, gt_lt (by rw [h1]; simp)⟩ hj
      · rw [List.getElem?_set_ne e] at h2
        exact ⟨h1, h2⟩
  exact ⟨Same.refl _, fun _ h => .inl h, fun _ _ h _ => h, fun b ⟨j, o, h1, h2⟩ => let ⟨h3, h4⟩ := key h1 h2; .inl ⟨j, o, h3, h4⟩, fun b ⟨j, o, hp, h1, h2⟩ => let ⟨h3, h4⟩ := key h1 h2; .inl ⟨j, o, hp, h3, h4⟩, fun j hj => List.getElem?_set_ne (by omega), by rw [List.length_set], fun _ h => h⟩
theorem v_tryAs {x n : Str} {c : Value} {i : Nat} {body suite : List Stmt} {b₀ : Stmt} {np pos' : Pos} {anc : Anc} {s1 s2 : M Fl} (hs : X.stack = X.env :: X.outer) (hf : X.env.frame = some X.env.locals) (hN : X.N.Nodup) (hi : X.N[i]? = some n) (hip : ¬ i < p) (hln : X.env.kindOf n = some .local) (hc : Names X x c) (tk : L2N.Takes X W) (ha : AncOk X anc x c)
    (hb : ∀ (W : WX) (pn : List (Addr × Obj)) (xe : Value → Shared → Prop), L2N.Takes (X.tr pn xe) W → PassesOwn (model X.prog X.w) X.A X.env xe → PSs (X.tr pn xe) body (tS ⟨X.K, X.mg, pn⟩ W p s1))
    (hsu : ∀ (a : Addr) (oe : Obj) (pn : List (Addr × Obj)), HotZ oe → PSs (X.suite a ((a, oe) :: pn)) (b₀ :: suite) (tS ⟨X.K, X.mg, (a, oe) :: pn⟩ W0 p s2)) :
    PS X (.Try body [.ExceptHandler (some (.Name x np)) (some n) (b₀ :: suite) pos'] [] [] pos) (tS (ky X) W p (tryAs anc s1 x i s2)) := by
  refine (L2N.ps_try_as hs hf hN hi hln hc tk (tb := fun W D σ H => ∀ pn, tS ⟨X.K, X.mg, pn⟩ W p s1 D σ H) (ts := fun a cls d D σ H => ∀ oe pn, L2N.Zn cls d oe → (∃ vs, oe.data = .fields vs) → tS ⟨X.K, X.mg, (a, oe) :: pn⟩ W0 p s2 D σ H) (fun W pn xe t ps => (hb W pn xe t ps).imp fun D σ H h => h pn) (fun a oe cls d pn z1 z2 => (hsu a oe pn ⟨z1.2.2, z2⟩).imp fun D σ H h => h oe pn z1 z2)).imp fun D σ H h => ?_
  obtain ⟨Γ, H0, r, h⟩ := h
  intro pn
  refine ⟨noX Γ, H0, r.noX (by rfl), ?_⟩
  unfold tryAs at h
  have s0 : StS p Γ σ H0 H (noX Γ) σ H0 H := StE.noX.sts
  cases q : s1 (noX Γ) with
  | ok f Γ1 =>
    rw [q] at h
    intro σ' H0' H' r' t
    have q := h σ' H0' H' (r'.noX (by rfl)) (s0.trans (t.trans StE.noX.sts))
    cases f with
    | nx => exact q
    | rt rs => exact fun v hv => q v (hv.step s0)
    | bk => exact q
    | ct => exact q
  | bad => rw [q] at h; exact h
  | ex k Γ1 =>
    rw [q] at h
    dsimp only at h
    intro C σ' H0' H' hC r' t
    have t' := s0.trans (t.trans (StE.noX (Γ := Γ1) (σ := σ') (H0 := H0') (H := H')).sts)
    cases ql : anc.lookup k with
    | none => rw [ql] at h; exact False.elim h
    | some l =>
      rw [ql] at h
      dsimp only at h
      refine ⟨l.contains x, ha k l C ql hC, fun hb => ?_, fun hb => ?_⟩
      · rw [if_pos hb] at h
        intro a hna oe pn' hz hfd
        refine ⟨st (noX Γ1) i (.xc k), H0', Rep.exc (r'.noX (by rfl)) ⟨oe, C, List.mem_cons_self, hz, hfd, hC⟩, ?_⟩
        unfold suiteS at h
        cases q2 : s2 (st (noX Γ1) i (.xc k)) with
        | ok f Γ2 =>
          rw [q2] at h
          intro σ2 H02 H2 r2 t2
          have t3 : StS p Γ σ H0 H (st (noX Γ1) i (.xc k)) (σ'.set i (some (.ref a))) H0' H' := t'.trans (StS.slot hip (fun o z => nomatch z))
          have r3 : Rep (ky X) (noX (st Γ2 i .no)) H02 (σ2.set i none) H2 := r2.unset.noX (by rfl)
          have t4 : StS p Γ σ H0 H (noX (st Γ2 i .no)) (σ2.set i none) H02 H2 := t3.trans (t2.trans ((StS.slot hip (fun o z => by cases z)).trans StE.noX.sts))
          have z := h (σ2.set i none) H02 H2 r3 t4
          cases f with
          | nx => exact z
          | rt rs => exact fun v hv => z v (hv.step t3)
          | bk => exact z
          | ct => exact z
        | ex c2 Γ2 => rw [q2] at h; exact False.elim h
        | bad => rw [q2] at h; exact False.elim h
      · rw [if_neg (by rw [hb]; decide)] at h
        exact h C σ' H0' H' hC (r'.noX (by rfl)) t'
/-! ### isinstance of what is caught -/
theorem is_exc {a D : Addr} {oe : Obj} (hp : (a, oe) ∈ X.pn) (C : ExcC X.K D) (hz : Zc (.ref D) none oe) (hf : ∃ vs, oe.data = .fields vs) : CallR X (.builtin "isinstance") (rIsE X.K D a) := by
  intro pins s σ H xs us Q I r h
  obtain ⟨c, cv, b, rfl, hcv, e, q⟩ := h
  obtain ⟨u1, u2, rfl, r1, r2⟩ : ∃ u1 u2, us = [u1, u2] ∧ RelV (.ref a) u1 ∧ RelV c u2 := by
    cases r with
    | cons ra rb =>
      cases rb with
      | cons rc rd => cases rd; exact ⟨_, _, rfl, ra, rc⟩
  obtain rfl : u1 = .ref a := r1
  obtain rfl := hcv _ r2
  have hget := (I.pin (a, oe) (List.mem_append.mpr (.inl hp))).1
  have J : PySem.W.InstAt s.heap a oe D none := by
    obtain ⟨vs, hv⟩ := hf
    obtain ⟨h1, h2⟩ := hz
    obtain ⟨oc, od, oda, osl⟩ := oe
    dsimp only at h1 h2 hv
    subst h1 h2 hv
    exact ⟨hget, rfl, rfl, trivial⟩
  refine PySem.W.kia_one (PySem.W.handS_kitx_exc C.hg C.hk C.hs C.hd C.ha C.hn C.ht C.hm) I.kIn J e (fun z => by cases z) fun tk => ?_
  exact ⟨.bl b, H, I.kept (t' := tk) fun _ _ z => z, rfl, q⟩
/-- what the table says of isinstance(.., c) -/
def IsaOk (X : Cx) (anc : Anc) (c : Str) (cv : Value) : Prop := ∀ k l D, anc.lookup k = some l → X.mg k = some (.ref D) → ExcC X.K D ∧ PySem.W.kitOne X.K (.ref D) cv = some (l.contains c)
def isaE (anc : Anc) (i : Nat) (c : Str) : M Od := fun Γ => match gt Γ i with
  | .xc k => match anc.lookup k with
    | some l => .ok (.d (.bool (l.contains c))) Γ
    | none => .bad
  | _ => .bad
end
end VL

/-! VOH: a def that is handed the exception that is handled. -/
namespace VL
open PySem PySem.Spec PyProof.Rows L2 L2H
structure FnHp (P : Program) (w : World) (K : PySem.W.Frag) (mg : Str → Option Value) (base : Heap) (CX : CXT) (k : Nat) (f : Addr) (fd : FuncData) (ps : List Str) (sp : Addr × Obj → Sp) : Prop where
  len : ∀ q vs H Q E, sp q vs H Q E → vs.length = ps.length
  run : ∀ (A : Around) (outer : List PySem.Env) (s : Shared) (H : Hp) (args : Args) (us : List Value) (vs : List V) (Q : VK) (E : XK) (p q : Addr × Obj), RoomH k A → Hot1 A p → PinOk outer H s p → PinOk outer H s q → Env0 P w K mg base A outer s H →
    BindsTo s fd args (ps.zip us) → Vals vs us → sp q vs H Q E → codeAny (model P w) A (.call (.ref f) args) (CR CX outer P w H s Q E) s
/-- the context of its body -/
abbrev cx2 (CX : CXT) (P : Program) (w : World) (K : PySem.W.Frag) (mg : Str → Option Value) (base : Heap) (N : List Str) (qual : Str) (scope : Scope) (f : Addr) (cd : Value) (A : Around) (outer : List PySem.Env) (s : Shared) (H : Hp) (E : XK) (p q : Addr × Obj) : Cx :=
  (cxH CX P w K mg base N qual scope f cd A outer s H E p).tr [p, q] (cxH CX P w K mg base N qual scope f cd A outer s H E p).xe
section
variable {P : Program} {w : World} {K : PySem.W.Frag} {mg : Str → Option Value} {base : Heap} {x qual : Str} {params : Arguments} {body : List Stmt} {scope : Scope} {dvs : List V} {kws : List (Str × V)} {f : Addr} {fd : FuncData}
theorem fn_hot {CX : CXT} {N ps : List Str} {k : Nat} {sp : Addr × Obj → Sp} (F : FunD K x qual params body scope dvs kws f fd) (S : FnScope N ps scope) (len : ∀ q vs H Q E, sp q vs H Q E → vs.length = ps.length)
    (hbody : ∀ (cdv : Value) (A : Around) (outer : List PySem.Env) (s : Shared) (H : Hp) (vs : List V) (Q : VK) (E : XK) (p q : Addr × Obj), Hot1 A p → RoomH k (A.deeper (envOfC qual scope s.heap.objs.size f cdv)) → sp q vs H Q E →
      ∃ t, PSs (cx2 CX P w K mg base N qual scope f cdv A outer s H E p q) body t ∧ t { nx := fun _ H' => Q .non H', rt := Q } (L2.start N vs) H) : FnHp P w K mg base CX (k + 1) f fd ps sp := by
  obtain ⟨oc, od, dV, kV, doc, pm, an, cdv, ct, osl, rfl, lk, hcd, _, _⟩ := F.ex
  refine ⟨len, fun A outer s H args us vs Q E p q hr hot pp pq e0 hb r hsp => ?_⟩
  have hl := len _ _ _ _ _ hsp
  have KX : K.In s.heap := e0.mod.kin.keeps fun b o e => (e0.bs b o e).1
  have lim : s.heap.NoLimit := e0.mod.nolimit.keeps fun b o e => (e0.bs b o e).1
  have kinds : ∀ y ∈ ps.zip us, scope.names.lookup y.1 = some .local ∨ (scope.names.lookup y.1 = some .cell ∧ ((cellsFrom (s.heap.objs.size + 1) scope.names []).lookup y.1).isSome = true) := fun ⟨n, v⟩ hy =>
    (S.par n (List.of_mem_zip hy).1).imp id fun z => ⟨z, PySem.W.cellsFrom_some _ _ _ (.inl z)⟩
  refine codeAny_call_function hr.depth (KX _ _ lk) rfl S.co S.gen rfl (PySem.W.codeRec_of KX hcd) (hb _ _ _ _ ?_)
  refine wpAny_newFunctionEnv_cells S.kind kinds fun env he s1 xx => ?_
  subst he
  refine ⟨lim.keeps xx.toInCall.keep, codeAny_func ?_⟩
  obtain ⟨t, ht, hq⟩ := hbody cdv A outer s H vs Q E p q hot (hr.deeper _) hsp
  have I1 : Inv (cxH CX P w K mg base N qual scope f cdv A outer s H E p) [] (L2.start N vs) H s1 := inv_startH S pp e0 hl r xx
  have I2 : Inv (cxH CX P w K mg base N qual scope f cdv A outer s H E q) [] (L2.start N vs) H s1 := inv_startH S pq e0 hl r xx
  have I : Inv (cx2 CX P w K mg base N qual scope f cdv A outer s H E p q) [] (L2.start N vs) H s1 := by
    refine ⟨I1.ok.toTry _ _, I1.os, I1.bare, I1.base, I1.loc, I1.cell, I1.free, I1.freeC, fun y hy => ?_, I1.hok, I1.len⟩
    have hy : y ∈ [p, q] := by simpa using hy
    rcases List.mem_cons.mp hy with e | e
    · rw [e]; exact I1.pin p (List.mem_append_left _ (List.mem_singleton.mpr rfl))
    · rw [List.mem_singleton.mp e]; exact I2.pin q (List.mem_append_left _ (List.mem_singleton.mpr rfl))
  have fin : ∀ {σ' : L2.St} {H' : Hp} {v : V} {u : Value} {s' : Shared}, Inv (cx2 CX P w K mg base N qual scope f cdv A outer s H E p q) [] σ' H' s' → RelV v u → Q v H' → CE outer P w H s Q u s' :=
    fun {σ' H' v u s'} J rv z => ⟨v, H', J.os, J.bare, J.base, J.hok, rv, z⟩
  refine wpAny_mono (ht.run [] s1 (L2.start N vs) H _ I hq) (fun fl s' hs => ?_) fun e s' hs => hs
  cases fl with
  | next =>
    obtain ⟨σ', H', J, z⟩ := hs
    exact fin (v := V.non) (u := Value.none) J rfl z
  | ret u =>
    obtain ⟨v, σ', H', J, rv, z⟩ := hs
    exact fin J rv z
  | brk => exact hs.elim fun _ y => y.elim fun _ y => False.elim y.2
  | cont => exact hs.elim fun _ y => y.elim fun _ y => False.elim y.2
end
section
variable {X : Cx} {CX : CXT} {k : Nat} {f : Addr} {fd : FuncData} {ps : List Str} {sp : Addr × Obj → Sp} {E : St → XK} {x : Str} {pp pos : Pos} {e : Expr} {t : TA}
theorem pinOk_of {pins : List (Addr × Obj)} {σ : St} {H : Hp} {s : Shared} {q : Addr × Obj} (I : Inv X pins σ H s) (hq : q ∈ X.pn) : PinOk X.stack H s q := by
  obtain ⟨g0, g1, g2, g3, g4⟩ := I.pin q (List.mem_append_left _ hq)
  exact ⟨g0, g1, fun hm => (List.mem_cons.mp (I.stkSub q.1 hm)).elim g2 g3, g4⟩
theorem pe_callHp (F : FnHp X.prog X.w X.K X.mg X.base CX k f fd ps sp) (hr : RoomH k X.A) (hc : HotC X) (hg : Gl X x) (hm : X.mg x = some (.ref f)) (hk : PySem.W.keepIn X.K (.ref f) = true) (hb : Binds X.K fd ps []) (hx : ∀ σ, PassesAt CX X σ (E σ))
    (ha : PA X [e] t) (hdb : (x == ("__debug__" : Str)) = false) (he : starEach [e] X.env = (false, eval e X.env) :: starEach [] X.env) :
    PE X (.Call (.Name x pp) [e] [] pos) (fun σ H Q => t σ H fun vs H1 => ∃ q, q ∈ X.pn ∧ sp q vs H1 Q (E σ)) := by
  refine ⟨fun pins s σ H Q I h => ?_⟩
  refine wpAny_Call_Name_kw (ld_glob I hg hm ?_ hdb)
  refine PySem.W.callWith_K (h₀ := X.base) I.ok.mod.kin hk (thn (ha.run pos pins s σ H _ I h) fun us s1 ⟨vs, H1, I1, r, q, hq, h1⟩ => ⟨I1.kIn, ?_⟩) he (by rfl)
  obtain ⟨p, hot, hp⟩ := hc
  have hl : us.length = ps.length := by rw [← r.length]; exact F.len _ _ _ _ _ h1
  have b := hb s1 us I1.kIn (by rw [List.append_nil]; exact hl)
  rw [List.append_nil] at b
  refine wpAny_call (codeAny_mono (F.run X.A X.stack s1 H1 ⟨us, []⟩ us vs Q (E σ) p q hr hot (pinOk_of I1 hp) (pinOk_of I1 hq) I1.env0 b r h1) fun rr s' z => ?_)
  cases rr with
  | error e => exact hx σ pins H1 s1 e s' I1 z
  | ok fl =>
    cases fl with
    | ret u => exact I1.after z
    | next => exact False.elim z
    | brk => exact False.elim z
    | cont => exact False.elim z
end
/-- what it answers, by the class of the exception -/
def spH (K : PySem.W.Frag) (mg : Str → Option Value) (R : List Slot → R1) : Addr × Obj → Sp := fun q vs H Q E => ∃ H0 c C, Same H0 H ∧ vs = [.ref q.1] ∧ L2N.Zn (.ref C) none q.2 ∧ (∃ fs, q.2.data = .fields fs) ∧ mg c = some (.ref C) ∧ match R [.xc c] with
  | .ok r _ => ∀ v H0' H', FnSt (fun _ => False) H0 H H0' H' → RepRs H H0' H' r v → Q v H'
  | _ => False
structure Fh (P : Program) (w : World) (K : PySem.W.Frag) (mg : Str → Option Value) (base : Heap) (k : Nat) (f : Str) (R : List Slot → R1) : Prop where
  ex : ∃ (a : Addr) (fd : FuncData) (ps : List Str), mg f = some (.ref a) ∧ PySem.W.keepIn K (.ref a) = true ∧ FnHp P w K mg base (L2N.CX P w) k a fd ps (spH K mg R) ∧ Binds K fd ps []
def hotE (F : FT) (f : Str) (i : Nat) : M Od := fun Γ => match gt Γ i with
  | .xc c => match F f [.xc c] with
    | .ok r _ => .ok (odR r) Γ
    | _ => .bad
  | _ => .bad
theorem v_hot {X : Cx} {W : WX} {k i : Nat} {f n : Str} {F : FT} {pp pn pos : Pos} (fh : Fh X.prog X.w X.K X.mg X.base k f (F f)) (hr : RoomH k X.A) (hc : HotC X) (hg : Gl X f) (hd : (f == ("__debug__" : Str)) = false)
    (hN : X.N[i]? = some n) (hv : Vis X.env.scope n) (hnd : (n == ("__debug__" : Str)) = false) (hcd : (n == ("__classdict__" : Str)) = false) : PE X (.Call (.Name f pp) [.Name n pn] [] pos) (tE (ky X) W (hotE F f i)) := by
  obtain ⟨a, fd, ps, hm, hk, F1, hb⟩ := fh.ex
  refine (pe_callHp (E := fun _ _ _ _ => False) F1 hr hc hg hm hk hb (fun σ pins H s e s' _ c => ?_) (pa_cons (pe_var hN hv hnd hcd) pa_nil (star_cons rfl _)) hd (star_cons rfl _)).imp fun σ H Q h => ?_
  · obtain ⟨_, _, _, _, _, _, _, _, _, _, _, _, z⟩ := c
    exact False.elim z
  obtain ⟨Γ, H0, r, h⟩ := h
  unfold sem hotE at h
  cases g : gt Γ i with
  | xc c =>
    rw [g] at h
    dsimp only at h
    obtain ⟨b, e1, oe, C, h1, h2, h3, h4⟩ := r.xc i c g
    refine ⟨V.ref b, e1, (b, oe), h1, H0, c, C, r.same, rfl, h2, h3, h4, ?_⟩
    revert h
    cases F f [.xc c] with
    | ok rr out =>
      intro h v H0' H' t hv'
      have gr : Grow H0 H H0' H' := ⟨t.fr, fun b o hb => t.ke b o hb fun z => z, t.nf, t.s2⟩
      exact h H0' H' (r.grow gr) gr.ste v (RepOd.from (fun b hb => hb) hv')
    | ex c out => intro h; exact False.elim h
    | bad => intro h; exact False.elim h
  | _ => rw [g] at h; exact False.elim h
section
variable {X : Cx} {W : WX} {p : Nat} {pos : Pos} {fa fe : M Od} {cs : M Bool} {im : M Itm}
theorem v_rg1H {tg a : Expr} {pp : Pos} (hg : Gl X "range") (hm : X.mg "range" = none) (ha : PE X a (tE (ky X) W fa)) (hs : noStar a = true) : PIH X tg (.Call (.Name "range" pp) [a] [] pos) (tI (ky X) W (rg1E fa)) := by
  refine PIH.imp (pi_range1H hg hm (pa_cons ha pa_nil (star_cons hs _)) (star_cons hs _)) fun σ H R h => ?_
  obtain ⟨Γ, H0, r0, h⟩ := h
  unfold rg1E at h
  rw [bnd_int] at h
  refine ⟨Γ, H0, r0, (sem.bnd h).mono fun oa Γ1 H01 H1 r1 s1 h1 v qv => ?_⟩
  obtain ⟨n, rfl, h2⟩ := sem.int r1 qv h1
  by_cases hn : rngOk n = true
  · obtain ⟨b1, b2⟩ := rng_ok hn
    have w := rng_walk (lo := 0) (hi := n) (H0 := H01)
    rw [if_pos hn] at h2
    rw [Int.sub_zero] at w
    exact ⟨n, rfl, b1, b2, h2 _ _ r1 StE.refl _ _ w fun _ _ => trivial⟩
  · rw [if_neg hn] at h2
    exact False.elim h2
theorem v_compH {tg elt iter : Expr} {ifs : List Expr} {scope : Scope} {own : List (Str × Nat)} {i : Nat} (hc : HotC X) (hN : X.N.Nodup) (hi : PIH X tg iter (tI (ky X) W im)) (ok : BlkOk X.N X.env.scope scope own) (ho : i ∈ own.map (·.2))
    (hg : ∀ (s : Shared) (H : Hp) (C : Addr) (cl : List (Str × Addr)) (fp : List Addr), PG (X.blk s H scope (compEnvC scope cl C X.env) fp) tg (gName i)) (ht : ∀ (s : Shared) (H : Hp) (C : Addr) (cl : List (Str × Addr)) (fp : List Addr), PTs (X.blk s H scope (compEnvC scope cl C X.env) fp) ifs (tT (kyb (ky X)) W0 cs))
    (he : ∀ (s : Shared) (H : Hp) (C : Addr) (cl : List (Str × Addr)) (fp : List Addr), PE (X.blk s H scope (compEnvC scope cl C X.env) fp) elt (tE (kyb (ky X)) W0 fe)) (hs : ∀ x, foldedSetIterable iter X.env x = pure x) :
    PE X (.ListComp elt [⟨tg, iter, ifs, 0⟩] scope pos) (tE (ky X) W (compE i (own.map (·.2)) im cs fe)) :=
  (pe_hot hc hN hi ok hg ht he hs).imp fun σ H Q h => comp_ok ho h
theorem v_setLcH {st : M Od → M Fl} {y : Nat} {x : Str} {py spos : Pos} {tg elt iter : Expr} {ifs : List Expr} {scope : Scope} {own : List (Str × Nat)} {i : Nat} (hst : ∀ (fa : M Od) D σ H, tS (ky X) W p (st fa) D σ H → tAsg (tE (ky X) W fa) (gName y) D σ H)
    (hc : HotC X) (hN : X.N.Nodup) (hy : X.N[y]? = some x) (hyl : X.env.scope.names.lookup x = some .local) (hsw : swapsWith (.ListComp elt [⟨tg, iter, ifs, 0⟩] scope pos) (some (.Name x py)) spos.line X.env = pure true)
    (hi : PIH X tg iter (tI (ky X) W im)) (ok : BlkOk X.N X.env.scope scope own) (ho : i ∈ own.map (·.2))
    (hg : ∀ (s : Shared) (H : Hp) (C : Addr) (cl : List (Str × Addr)) (fp : List Addr), PG (X.blk s H scope (compEnvC scope cl C X.env) fp) tg (gName i)) (ht : ∀ (s : Shared) (H : Hp) (C : Addr) (cl : List (Str × Addr)) (fp : List Addr), PTs (X.blk s H scope (compEnvC scope cl C X.env) fp) ifs (tT (kyb (ky X)) W0 cs))
    (he : ∀ (s : Shared) (H : Hp) (C : Addr) (cl : List (Str × Addr)) (fp : List Addr), PE (X.blk s H scope (compEnvC scope cl C X.env) fp) elt (tE (kyb (ky X)) W0 fe)) (hs : ∀ x, foldedSetIterable iter X.env x = pure x) :
    PS X (.Assign [.Name x py] (.ListComp elt [⟨tg, iter, ifs, 0⟩] scope pos) spos) (tS (ky X) W p (st (compE i (own.map (·.2)) im cs fe))) :=
  (ps_setHot hc hN hy hyl hsw hi ok hg ht he hs).imp fun D σ H h => asgLc ho (hst _ D σ H h)
end
end VL

/-! VP: isinstance of what is caught; the checks; what is known of a law's world and of a context. -/
namespace VL
open PySem PySem.Spec PyProof.Rows L2
open L2H (HotC RoomH)
section
variable {X : Cx} {W : WX} {pos : Pos}
def rIsA (X : Cx) (c : V) (cv : Value) : List V → Hp → VK → Prop := fun xs H Q => ∃ a oe D b, (a, oe) ∈ X.pn ∧ ExcC X.K D ∧ L2N.Zn (.ref D) none oe ∧ (∃ vs, oe.data = .fields vs) ∧ xs = [.ref a, c] ∧ PySem.W.kitOne X.K (.ref D) cv = some b ∧ Q (.bl b) H
theorem call_isA {c : V} {cv : Value} (hcv : ∀ u, RelV c u → u = cv) : CallR X (.builtin "isinstance") (rIsA X c cv) := fun pins s σ H xs us Q I r h => by
  obtain ⟨a, oe, D, b, h1, h2, h3, h4, rfl, h5, q⟩ := h
  exact is_exc h1 h2 h3.zc h4 pins s σ H _ us Q I r ⟨c, cv, b, rfl, hcv, h5, q⟩
theorem v_isa {i : Nat} {n x : Str} {p pn px : Pos} {c : V} {cv : Value} {anc : Anc} (hN : X.N[i]? = some n) (hv : Vis X.env.scope n) (hd : (n == ("__debug__" : Str)) = false) (hcd : (n == ("__classdict__" : Str)) = false) (hg : Gl X "isinstance") (hm : X.mg "isinstance" = none)
    (hx : PE X (.Name x px) (tC c)) (hcv : ∀ u, RelV c u → u = cv) (ok : IsaOk X anc x cv) : PE X (.Call (.Name "isinstance" p) [.Name n pn, .Name x px] [] pos) (tE (ky X) W (isaE anc i x)) := by
  refine (pe_callB (call_isA hcv) hg hm (by first | rfl | decide +kernel) (pa_cons (pe_var hN hv hd hcd) (pa_cons hx pa_nil (star_cons rfl _)) (star_cons rfl _)) (by decide) (by decide) (star_cons rfl _) (back_star rfl)).imp fun σ H Q h => ?_
  obtain ⟨Γ, H0, r, h⟩ := h
  unfold sem isaE at h
  cases g : gt Γ i with
  | xc k =>
    rw [g] at h
    dsimp only at h
    obtain ⟨a, e1, oe, C, h1, h2, h3, h4⟩ := r.xc i k g
    cases ql : anc.lookup k with
    | none => rw [ql] at h; exact False.elim h
    | some l =>
      rw [ql] at h
      obtain ⟨z1, z2⟩ := ok k l C ql h4
      refine ⟨V.ref a, e1, ?_⟩
      exact ⟨a, oe, C, l.contains x, h1, z1, h2, h3, rfl, z2, h H0 H r StE.refl _ (.bl _)⟩
  | _ => rw [g] at h; exact False.elim h
end
/-! ### checks of forms -/
def notComp : Expr → Bool
  | .ListComp .. => false
  | .SetComp .. => false
  | .DictComp .. => false
  | _ => true
def notSet : Expr → Bool
  | .Set .. => false
  | _ => true
def plainT : Expr → Bool
  | .UnaryOp .Not _ _ => false
  | .BoolOp .. => false
  | .IfExp .. => false
  | .Compare .. => false
  | _ => true
theorem swaps_no {e : Expr} {t : Option Expr} {l : Nat} {env : PySem.Env} (h : notComp e = true) : swapsWith e t l env = pure false := by
  cases e <;> first | rfl | cases h
theorem sole_no {e t : Expr} {l : Nat} {env : PySem.Env} (h : notComp e = true) : swapsWithSole [t] e l env = pure false := swaps_no h
theorem folded_no {e : Expr} {env : PySem.Env} (h : notSet e = true) (x : Value) : foldedSetIterable e env x = pure x := by
  cases e <;> first | rfl | cases h
theorem marks_no {op : CmpOp} {e : Expr} (h : notSet e = true) : behindInMarks op e = false := by
  cases e <;> first | rfl | cases h
theorem marks2_no {op op' : CmpOp} {b c : Expr} (h : notSet c = true) : lastMarks [op, op'] [b, c] = false := marks_no h
theorem plain_tru {e : Expr} {env : PySem.Env} (h : plainT e = true) (whole : Sem Value) : isTrue e env whole = (do let v ← whole; standAt e.pos; holding [v] (truthy v)) := by
  cases e with
  | UnaryOp op a p => cases op <;> first | rfl | cases h
  | BoolOp => cases h
  | IfExp => cases h
  | Compare => cases h
  | _ => rfl
def plainIxC : Expr → Bool
  | .Slice .. => false
  | .Constant .. => true
  | .Name .. => true
  | .BinOp .. => true
  | .Call .. => true
  | .UnaryOp .. => true
  | .Subscript .. => true
  | .IfExp .. => true
  | _ => false
theorem plain_ix {e : Expr} (h : plainIxC e = true) : PlainIx e := by
  cases e <;> first | (intro o i; rfl) | cases h
def okN (x : Str) : Bool := !(x == ("__debug__" : Str)) && !(x == ("__classdict__" : Str))
theorem okN_ok {x : Str} (h : okN x = true) : (x == ("__debug__" : Str)) = false ∧ (x == ("__classdict__" : Str)) = false := by
  unfold okN at h
  rw [Bool.and_eq_true] at h
  exact ⟨by simpa using h.1, by simpa using h.2⟩

/-! ### tables -/
structure Gt where
  defs : List (Str × Sig)
  nums : List (Str × Int)
  txts : List (Str × Str)
  excs : List Str
  anc : Anc
  /-- names that the module leaves to the builtins -/
  free : List Str
  /-- defs that are handed the exception in an except suite -/
  hots : List Str
structure Cc where
  g : Gt
  N : List Str
  sc : Scope
  /-- the names that may be stored although they are cells: all, or those of raw -/
  all : Bool
  raw : Scope
  own : List Str
  p : Nat
  calm : Bool
  hotc : Bool
  scr : List Str
def kindC (C : Cc) (x : Str) : Option NameKind := C.sc.names.lookup x
def glC (C : Cc) (x : Str) : Bool := decide (kindC C x = some .globalImplicit) && okN x
def visC (C : Cc) (x : Str) : Bool := (decide (kindC C x = some .local) || decide (kindC C x = some .cell) || decide (kindC C x = some .free)) && okN x
def locC (C : Cc) (x : Str) : Bool := decide (kindC C x = some .local) || (decide (kindC C x = some .cell) && (C.all || decide (C.raw.names.lookup x = some .cell)))
/-- the names of a block as its context sees them -/
def relC (sc scope : Scope) : Scope := { scope with names := scope.names.map fun (n, k) => if k == .free && sc.kind == .function && sc.names.lookup n == some .cell then (n, .cell) else (n, k) }
def Cc.blk (C : Cc) (scope : Scope) : Cc := { C with sc := relC C.sc scope, all := false, raw := scope, hotc := false }
def ixC (C : Cc) (x : Str) : Option Nat := match C.N.findIdx? (fun y => decide (y = x)) with
  | some i => if C.N[i]? = some x then some i else none
  | none => none
theorem ixC_ok {C : Cc} {x : Str} {i : Nat} (h : ixC C x = some i) : C.N[i]? = some x := by
  unfold ixC at h
  split at h
  · split at h
    · cases h; assumption
    · cases h
  · cases h
/-- the exceptions' base -/
def veB : List Value := [.type "ValueError", .type "Exception", .type "BaseException", .type "object"]
structure ExcOk (K : PySem.W.Frag) (mg : Str → Option Value) (x : Str) (C : Addr) : Prop where
  mg : mg x = some (.ref C)
  ex : PySem.W.excIn K C veB "ValueError.__new__" = true
  keep : PySem.W.keepIn K (.ref C) = true
  sub : PySem.W.subIn K (.ref C) (.type "BaseException") = some true
  ty : PySem.W.typeIn K (.ref C) = some (.type "type")
  isa : ExcC K C
/-- what is known of the law's world -/
structure Wf (g : Gt) (K : PySem.W.Frag) (mg : Str → Option Value) : Prop where
  nums : ∀ x i, g.nums.lookup x = some i → ∃ t, mg x = some (.int i t)
  txts : ∀ x i, g.txts.lookup x = some i → ∃ t, mg x = some (.str i t)
  free : ∀ x, x ∈ g.free → mg x = none
  excs : ∀ x, x ∈ g.excs → ∃ C, ExcOk K mg x C
  anc : ∀ k l C x cx, g.anc.lookup k = some l → mg k = some (.ref C) → x ∈ g.excs → mg x = some cx → PySem.W.exmOne K (.ref C) cx = some (l.contains x) ∧ PySem.W.kitOne K (.ref C) cx = some (l.contains x)
  ancE : ∀ k l C, g.anc.lookup k = some l → mg k = some (.ref C) → ExcC K C
  ancB : ∀ k l C, g.anc.lookup k = some l → mg k = some (.ref C) → PySem.W.kitOne K (.ref C) (.type "ValueError") = some true
/-- a context of the law -/
structure Good (C : Cc) (F : FT) (k : Nat) (X : Cx) : Prop where
  N : X.N = C.N
  nd : C.N.Nodup
  sc : X.env.scope = C.sc
  kd : C.sc.kind = .function
  fn : ∀ x, (C.all || decide (C.raw.names.lookup x = some .cell)) = true → X.fn x = true
  calm : C.calm = true → X.calm = true
  un : X.A.units + 65 < cLine
  wf : Wf C.g X.K X.mg
  room : C.calm = true → Room k X.A
  defs : ∀ f sg, C.g.defs.lookup f = some sg → Fk X.prog X.w X.K X.mg X.base k f sg (F f)
  roomH : RoomH k X.A
  hot : C.hotc = true → HotC X
  hots : ∀ f, f ∈ C.g.hots → Fh X.prog X.w X.K X.mg X.base k f (F f)
section
variable {C : Cc} {F : FT} {k : Nat} {X : Cx} {W : WX}
theorem Good.gl (G : Good C F k X) {x : Str} (h : glC C x = true) : Gl X x ∧ (x == ("__debug__" : Str)) = false := by
  unfold glC at h
  rw [Bool.and_eq_true, decide_eq_true_eq] at h
  refine ⟨?_, (okN_ok h.2).1⟩
  show X.env.scope.names.lookup x = _
  rw [G.sc]
  exact h.1
theorem Good.vis (G : Good C F k X) {x : Str} (h : visC C x = true) : Vis X.env.scope x ∧ (x == ("__debug__" : Str)) = false ∧ (x == ("__classdict__" : Str)) = false := by
  unfold visC at h
  rw [Bool.and_eq_true, Bool.or_eq_true, Bool.or_eq_true, decide_eq_true_eq, decide_eq_true_eq, decide_eq_true_eq] at h
  refine ⟨?_, okN_ok h.2⟩
  unfold Vis
  rw [G.sc]
  rcases h.1 with (h | h) | h
  · exact .inl h
  · exact .inr (.inl h)
  · exact .inr (.inr h)
theorem Good.loc (G : Good C F k X) {x : Str} (h : locC C x = true) : Loc X.env.scope x ∧ (X.fn x = true ∨ X.env.scope.names.lookup x = some .local) := by
  unfold locC at h
  rw [Bool.or_eq_true, Bool.and_eq_true, decide_eq_true_eq, decide_eq_true_eq] at h
  unfold L2.Loc
  rw [G.sc]
  rcases h with h | h
  · exact ⟨.inl h, .inr h⟩
  · exact ⟨.inr h.1, .inl (G.fn x h.2)⟩
theorem Good.ix (G : Good C F k X) {x : Str} {i : Nat} (h : ixC C x = some i) : X.N[i]? = some x := by
  rw [G.N]
  exact ixC_ok h
theorem Good.nodup (G : Good C F k X) : X.N.Nodup := by
  rw [G.N]
  exact G.nd
/-- the context of a comprehension's block -/
theorem Good.blk (G : Good C F k X) {scope : Scope} (hk : scope.kind = .function) (s : Shared) (H : Hp) (D : Addr) (cl : List (Str × Addr)) (fp : List Addr) : Good (C.blk scope) F k (X.blk s H scope (compEnvC scope cl D X.env) fp) where
  N := G.N
  nd := G.nd
  sc := by
    show relabel scope X.env = relC C.sc scope
    rw [← G.sc]
    rfl
  kd := hk
  fn := fun x h => by
    have h : (false || decide (scope.names.lookup x = some .cell)) = true := h
    rw [Bool.false_or] at h
    show (scope.names.lookup x == some .cell) = true
    rw [of_decide_eq_true h]
    decide
  calm := G.calm
  un := G.un
  wf := G.wf
  room := G.room
  defs := G.defs
  roomH := G.roomH
  hot := fun h => Bool.noConfusion (show false = true from h)
  hots := G.hots
theorem Good.blkTakes {scope : Scope} (s : Shared) (H : Hp) (D : Addr) (cl : List (Str × Addr)) (fp : List Addr) : L2N.Takes (X.blk s H scope (compEnvC scope cl D X.env) fp) W0 := fun u s' ⟨a, B, sI, pins, σ, H, cls, d, e, I, nb, up, sky, na, os, ag, w⟩ => False.elim w
end
end VL

/-! VQ: comprehensions of two clauses. -/
namespace VL
open PySem PySem.Spec PyProof.Rows L2
/-- a turn whose body is a loop of its own -/
def Inn2 (Y : Ky) (cs : M Bool) (im : M Itm) (j : Nat) (own2 : List Nat) (cs2 : M Bool) (fe : M Od) (L : Addr) : (Hp → Prop) → St → Hp → Prop := fun P σ2 H => tT Y W0 cs σ2 H fun b H3 => if b = true then tI Y W0 im σ2 H3 fun J1 H4 => ∃ W1 : Nat → Nat → Hp → Prop, (∃ m, W1 0 m H4) ∧ ∀ k m H, W1 k m H →
  (J1.stop k H ∧ P H) ∨ (J1.go k H ∧ ∃ Nx1 : Hp → Prop, (∀ H', Nx1 H' → ∃ m', m' < m ∧ W1 (k + 1) m' H') ∧ ∀ x H', J1.yld k H x H' → Inn1 Y cs2 fe L Nx1 ((wipe σ2 own2).set j (some x)) H') else P H3
theorem turn2 {Y : Ky} {L : Addr} {cs cs2 : M Bool} {im : M Itm} {fe : M Od} {j : Nat} {own2 : List Nat} (hj : j ∈ own2) : TurnOk (kyb Y) L (bnd cs fun k => if k then compG j own2 im (bodyE cs2 fe) else ret []) (Inn2 (kyb Y) cs im j own2 cs2 fe L) := by
  intro Γb σ2 H0b Hb vs ds ys Γa P rb l0 l1 no hv e hz hP
  refine ⟨Γb, H0b, rb, ?_⟩
  unfold bnd at e
  cases q1 : cs Γb with
  | ok k Γ1 =>
    rw [q1] at e
    unfold sem
    rw [q1]
    intro H01 H1 r1 s1
    obtain ⟨m0, m1, m2⟩ := kept (Y := Y) s1 l0 l1 no
    cases k with
    | false =>
      simp only [Bool.false_eq_true, if_false] at e ⊢
      cases e
      exact hP H1 H01 vs r1 (s1.del (by rw [l1]; simp)) m0 m1 (by rw [List.append_nil]; exact VdAll.mono s1.fr ds vs hv)
    | true =>
      simp only [if_true] at e ⊢
      refine ⟨Γ1, H01, r1, ?_⟩
      unfold sem
      unfold compG bnd at e
      cases q2 : im Γ1 with
      | ok x Γ2 =>
        rw [q2] at e
        dsimp only at e
        intro H02 H2 r2 s2 J G wk hG
        obtain ⟨n0, n1, n2⟩ := kept (Y := Y) s2 m0 m1 m2
        cases q3 : compL j own2 (bodyE cs2 fe) x.ds (hideS (keepP own2 x.lock) 0 Γ2) with
        | ok zs Γ3 =>
          rw [q3] at e
          cases e
          have st12 : StE Γb σ2 H0b Hb Γ2 H02 H2 := s1.trans s2
          have rd : Rep (kyb Y) Γ2 H02 σ2 (del H2 L) := r2.del n0 n2
          have hv2 := VdAll.mono st12.fr ds vs hv
          obtain ⟨W1, h2, h3⟩ := comp_loop (Qd := P) (turn1 (Y := kyb (kyb Y)) (L := L) (cs := cs2) (fe := fe)) hj rd del_same hv2 wk (fun Hx stx => hG Hx fun b o hb hn hc => by
            by_cases eb : b = L
            · subst eb
              rcases hc with z | z | z
              · rw [m1] at z; cases z
              · exact absurd m0 z
              · exact absurd z m2
            · exact stx b o (by rw [del_ne eb]; exact hb) hn) q3 hz fun H' H0' vs' r3 s3 f0 f1 hvs => by
            refine hP H' H0' vs' r3 ⟨st12.fr.trans s3.fr, fun b hb => ?_, fun b o hb hn => ?_, fun i o h => ?_, fun b hb => ?_⟩ f0 f1 hvs
            · rcases s3.nf b hb with z | z | z
              · rcases st12.nf b z with z | z | z
                · exact .inl z
                · refine .inr (.inl ?_)
                  by_cases eb : b = L
                  · rw [eb]; exact del_same
                  · rw [del_ne eb]; exact z
                · exact .inr (.inr z)
              · refine .inr (.inl ?_)
                by_cases eb : b = L
                · rw [eb]; exact del_same
                · rw [del_ne eb] at z ⊢; exact st12.new z
              · exact .inr (.inr (st12.ow b z))
            · have eb : b ≠ L := fun z => by rw [z, del_same] at hb; cases hb
              rw [del_ne eb] at hb
              refine s3.ke b o (by rw [del_ne eb]; exact st12.ke b o hb hn) fun z => hn (st12.ow b z)
            · obtain ⟨o', h⟩ := s3.sl i o h
              exact st12.sl i o' h
            · have eb : b ≠ L := fun z => hb (by rw [z]; exact del_same)
              rw [del_ne eb] at hb
              exact s3.dm b (by rw [del_ne eb]; exact st12.dm b hb)
          rw [upd_del n1] at h2
          exact ⟨W1, h2, h3⟩
        | ex c g => rw [q3] at e; cases e
        | bad => rw [q3] at e; cases e
      | ex c g => rw [q2] at e; cases e
      | bad => rw [q2] at e; cases e
  | ex c g => rw [q1] at e; cases e
  | bad => rw [q1] at e; cases e
section
variable {X : Cx} {W : WX} {fe : M Od} {cs cs2 : M Bool} {im im2 : M Itm} {pos : Pos}
theorem comp2_ok {i j : Nat} {own own2 : List Nat} (hi : i ∈ own) (hj : j ∈ own2) {σ : St} {H : Hp} {Q : VK} (h : tE (ky X) W (comp2E i own im cs j own2 im2 cs2 fe) σ H Q) : tLc2 (tI (ky X) W im) (gName i) (tT (kyb (ky X)) W0 cs) (tI (kyb (ky X)) W0 im2) (gName j) (tT (kyb (ky X)) W0 cs2) (tE (kyb (ky X)) W0 fe) own own2 σ H Q := by
  obtain ⟨Γ, H0, r0, h⟩ := h
  unfold comp2E at h
  have tk : ∀ D, TurnOk (kyb (ky X)) D (bnd cs fun k => if k then compG j own2 im2 (bodyE cs2 fe) else ret []) (Inn2 (kyb (ky X)) cs im2 j own2 cs2 fe D) := fun D => turn2 (Y := ky X) hj
  generalize (bnd cs fun k => if k then compG j own2 im2 (bodyE cs2 fe) else ret []) = B at h tk
  unfold compG at h
  rw [bnd_assoc] at h
  refine ⟨Γ, H0, r0, (sem.bndS h).mono fun x Γ1 H01 H1 r1 s1 h1 J G wk hG D hD => ?_⟩
  unfold semS bnd at h1
  dsimp only at h1
  cases qc : compL i own B x.ds (hideS (keepP own x.lock) 0 Γ1) with
  | ok zs Γ2 =>
    rw [qc] at h1
    dsimp only at h1
    by_cases hz : zs.length ≤ SZ
    · rw [if_pos hz] at h1
      have h1 : ∀ H0' H', Rep (ky X) (backS (keepP own x.lock) 0 Γ1 Γ2) H0' σ H' → StE Γ σ H0 H (backS (keepP own x.lock) 0 Γ1 Γ2) H0' H' → ∀ v, RepOd H σ H0' H' (.fl zs) v → Q v H' := h1
      obtain ⟨W', h2, h3⟩ := comp_loop (Qd := Q (.ref D)) (tk D) hi r1 hD .nil wk (fun Hx st => hG Hx st.stay) qc (by simpa using hz) fun H' H0' vs r2 s2 l0 l1 hvs =>
        h1 H0' H' r2 (s1.trans s2) _ ⟨D, vs, rfl, s1.new hD, l0, l1, hvs⟩
      refine ⟨W', h2, fun k m H w => ?_⟩
      rcases h3 k m H w with a | ⟨b, Nx, c, d⟩
      · exact .inl a
      · refine .inr ⟨b, Nx, c, fun x' H' y => ⟨wipe_set hi, ?_⟩⟩
        obtain ⟨Γb, H0b, rb, hb⟩ := d x' H' y
        refine ⟨Γb, H0b, rb, hb.mono fun bb Γ3 H03 H3 r3 s3 h4 => ?_⟩
        cases bb with
        | false => exact h4
        | true =>
          obtain ⟨Γc, H0c, rc, hc⟩ := h4
          refine ⟨Γc, H0c, rc, hc.mono fun im' Γ4 H04 H4 r4 s4 h5 J1 G1 wk1 hG1 => ?_⟩
          obtain ⟨W1, h6, h7⟩ := h5 J1 G1 wk1 hG1
          refine ⟨W1, h6, fun k1 m1 H5 w1 => ?_⟩
          rcases h7 k1 m1 H5 w1 with a1 | ⟨b1, Nx1, c1, d1⟩
          · exact .inl a1
          · exact .inr ⟨b1, Nx1, c1, fun x1 H6 y1 => ⟨wipe_set hj, d1 x1 H6 y1⟩⟩
    · rw [if_neg hz] at h1; exact False.elim h1
  | ex c g => rw [qc] at h1; exact False.elim h1
  | bad => rw [qc] at h1; exact False.elim h1
theorem v_comp2 {tg elt iter tg1 iter1 : Expr} {ifs ifs1 : List Expr} {scope : Scope} {own : List (Str × Nat)} {own2 : List Nat} {i j : Nat} (hc : X.calm = true) (hN : X.N.Nodup) (hi : PI X tg iter (tI (ky X) W im)) (ok : BlkOk X.N X.env.scope scope own) (ho : i ∈ own.map (·.2)) (hj : j ∈ own2) (hv : ∀ i ∈ own2, i ∈ own.map (·.2))
    (hg : ∀ (s : Shared) (H : Hp) (C : Addr) (cl : List (Str × Addr)) (fp : List Addr), PG (X.blk s H scope (compEnvC scope cl C X.env) fp) tg (gName i)) (ht : ∀ (s : Shared) (H : Hp) (C : Addr) (cl : List (Str × Addr)) (fp : List Addr), PTs (X.blk s H scope (compEnvC scope cl C X.env) fp) ifs (tT (kyb (ky X)) W0 cs))
    (hi1 : ∀ (s : Shared) (H : Hp) (C : Addr) (cl : List (Str × Addr)) (fp : List Addr), PI (X.blk s H scope (compEnvC scope cl C X.env) fp) tg1 iter1 (tI (kyb (ky X)) W0 im2))
    (hg1 : ∀ (s : Shared) (H : Hp) (C : Addr) (cl : List (Str × Addr)) (fp : List Addr), PG (X.blk s H scope (compEnvC scope cl C X.env) fp) tg1 (gName j)) (ht1 : ∀ (s : Shared) (H : Hp) (C : Addr) (cl : List (Str × Addr)) (fp : List Addr), PTs (X.blk s H scope (compEnvC scope cl C X.env) fp) ifs1 (tT (kyb (ky X)) W0 cs2))
    (he : ∀ (s : Shared) (H : Hp) (C : Addr) (cl : List (Str × Addr)) (fp : List Addr), PE (X.blk s H scope (compEnvC scope cl C X.env) fp) elt (tE (kyb (ky X)) W0 fe)) (hs : ∀ x, foldedSetIterable iter X.env x = pure x) (hs1 : ∀ env x, foldedSetIterable iter1 env x = pure x) :
    PE X (.ListComp elt [⟨tg, iter, ifs, 0⟩, ⟨tg1, iter1, ifs1, 0⟩] scope pos) (tE (ky X) W (comp2E i (own.map (·.2)) im cs j own2 im2 cs2 fe)) :=
  (pe_lc2 hc hN hi ok hv hg ht hi1 hg1 ht1 he hs hs1).imp fun σ H Q h => comp2_ok ho hj h
end
end VL

/-! VR: the evaluator of expressions, and that it is right. -/
namespace VL
open PySem PySem.Spec PyProof.Rows L2
def gd {α : Type} (b : Bool) (x : Option α) : Option α := if b = true then x else none
theorem gd_some {α : Type} {b : Bool} {x : Option α} {y : α} (h : gd b x = some y) : b = true ∧ x = some y := by
  unfold gd at h
  split at h
  · exact ⟨by assumption, h⟩
  · cases h
theorem gdB {a b : Bool} (h : (a && b) = true) : a = true ∧ b = true := Bool.and_eq_true_iff.mp h
theorem mp_some {α β : Type} {x : Option α} {f : α → β} {y : β} (h : x.map f = some y) : ∃ a, x = some a ∧ f a = y := Option.map_eq_some_iff.mp h
theorem bd_some {α β : Type} {x : Option α} {f : α → Option β} {y : β} (h : x.bind f = some y) : ∃ a, x = some a ∧ f a = some y := Option.bind_eq_some_iff.mp h
abbrev EvT := Cc → Expr → Option (M Od)
def isB (C : Cc) (f : Str) (n : String) : Bool := glC C f && (C.g.free.contains f && decide (f = (n : Str)))
/-- several joined by and, or -/
def evBs {α : Type} (f : Expr → Option α) (op : α → α → α) : List Expr → Option α
  | [] => none
  | [a] => f a
  | a :: b :: r => (f a).bind fun x => (evBs f op (b :: r)).bind fun y => some (op x y)
def evNm (C : Cc) (x : Str) : Option (M Od) :=
  if visC C x = true then (ixC C x).map vr
  else gd (glC C x) (match C.g.nums.lookup x with
    | some i => some (kd (.int i))
    | none => (C.g.txts.lookup x).map fun s => kd (.str s))
def evK : Const → Option (M Od)
  | .none => some (kd .none)
  | .bool b => some (kd (.bool b))
  | .int i => some (kd (.int i))
  | .str s => some (kd (.str s))
  | _ => none
def bfOf (f : Str) : Option Bf :=
  if f = "len" then some .len else if f = "abs" then some .abs else if f = "int" then some .int else if f = "bool" then some .bool else if f = "str" then some .str else if f = "list" then some .list
  else if f = "tuple" then some .tuple else if f = "sum" then some .sum else if f = "max" then some .max else if f = "min" then some .min else if f = "sorted" then some .sorted else none
def tyOf (f : Str) : Option String :=
  if f = "int" then some "int" else if f = "bool" then some "bool" else if f = "str" then some "str" else if f = "list" then some "list" else if f = "tuple" then some "tuple" else none
def mtOf (f : Str) : Option Mt :=
  if f = "append" then some .append else if f = "extend" then some .extend else if f = "insert" then some .insert else if f = "pop" then some .pop else none
def mvOf (f : Str) : Option Mv :=
  if f = "count" then some .count else if f = "index" then some .index else if f = "join" then some .join else none
def ownC (C : Cc) (scope : Scope) : List (Str × Nat) := scope.names.filterMap fun p => match p.2 with
  | .local => (ixC C p.1).map fun i => (p.1, i)
  | .cell => (ixC C p.1).map fun i => (p.1, i)
  | _ => none
def fnK (scope : Scope) : Bool := match scope.kind with
  | .function => true
  | _ => false
/-- range(e), where an exception is handled -/
def hotIt (C : Cc) (e : Expr) : Bool := C.hotc && (match e with
  | .Call (.Name f _) [a] [] _ => isB C f "range" && noStar a
  | _ => false)
section
variable (F : FT) (ev : EvT)
def evAs (C : Cc) : List Expr → Option (List (M Od))
  | [] => some []
  | e :: r => gd (noStar e) ((ev C e).bind fun m => (evAs C r).bind fun ms => some (m :: ms))
def evCmp (C : Cc) (a : Expr) : List CmpOp → List Expr → Option (M Od)
  | [op], [b] => gd (notSet b) ((ev C a).bind fun x => (ev C b).bind fun y => some (lift2 (bl2 (cmpD op)) x y))
  | [op, op'], [b, c] => gd (notSet c) ((ev C a).bind fun x => (ev C b).bind fun y => (ev C c).bind fun z => some (chainE (cmpD op) (cmpD op') x y z))
  | _, _ => none
def evT (C : Cc) : Nat → Expr → Option (M Bool)
  | 0, _ => none
  | n + 1, e => match e with
    | .UnaryOp .Not a _ => (evT C n a).map notT
    | .BoolOp .And es _ => evBs (evT C n) andT es
    | .BoolOp .Or es _ => evBs (evT C n) orT es
    | .Compare a ops cs _ => (evCmp ev C a ops cs).map valT
    | e => gd (plainT e) ((ev C e).map truE)
def evRng (C : Cc) : List Expr → Option (M Itm)
  | [a] => gd (noStar a) ((ev C a).map rg1E)
  | [a, b] => gd (noStar a && noStar b) ((ev C a).bind fun x => (ev C b).bind fun y => some (rg2E x y))
  | [a, b, c] => gd (noStar a && noStar b) ((ev C a).bind fun x => (ev C b).bind fun y => match c with
    | .UnaryOp .USub (.Constant (.int 1) _ _) _ => some (rgDE x y)
    | _ => none)
  | _ => none
def evRev (C : Cc) : List Expr → Option (M Itm)
  | [a] => gd (noStar a) ((ev C a).map revE)
  | _ => none
def evI (C : Cc) (e : Expr) : Option (M Itm) := match e with
  | .Call (.Name f p) as [] q => if isB C f "range" = true then evRng ev C as else if isB C f "reversed" = true then evRev ev C as else (ev C (.Call (.Name f p) as [] q)).map itE
  | e => (ev C e).map itE
def evO (C : Cc) : Option Expr → Option (M (Option Int))
  | none => some partN
  | some a => (ev C a).map partE
def evIf (C : Cc) : List Expr → Option (M Bool)
  | [] => some (ret true)
  | [c] => evT ev C 30 c
  | _ => none
/-- isinstance(a, t) -/
def evIsa (C : Cc) : List Expr → Option (M Od)
  | [a, .Name T _] => if (glC C T && C.g.free.contains T) = true then
      match tyOf T with
      | some n => gd (noStar a) ((ev C a).map fun x => isinsE x n)
      | none => match a with
        | .Name n _ => gd (visC C n && (decide (T = ("ValueError" : Str)) && C.g.anc.all fun p => p.2.contains T)) ((ixC C n).map fun i => isaE C.g.anc i T)
        | _ => none
    else match a with
      | .Name n _ => gd (visC C n && (glC C T && C.g.excs.contains T)) ((ixC C n).map fun i => isaE C.g.anc i T)
      | _ => none
  | [a, .Tuple [.Name T _, .Name T' _] _ _] => gd ((noStar a && (glC C T && C.g.free.contains T)) && (glC C T' && C.g.free.contains T')) ((tyOf T).bind fun n => (tyOf T').bind fun m => (ev C a).map fun x => isins2E x n m)
  | _ => none
/-- list(range(..)), list(reversed(..)), list(script) -/
def evLst (C : Cc) (a : Expr) : Option (M Od) := match a with
  | .Call (.Name g p) as [] q => if isB C g "range" = true then
      match as with
      | [x] => gd (C.calm && noStar x) ((ev C x).map fun m => listItE (rg1E m))
      | [x, y] => gd (C.calm && (noStar x && noStar y)) ((ev C x).bind fun m => (ev C y).bind fun n => some (listItE (rg2E m n)))
      | _ => none
    else if isB C g "reversed" = true then
      match as with
      | [x] => gd (C.calm && noStar x) ((ev C x).map fun m => listItE (revE m))
      | _ => none
    else (ev C (.Call (.Name g p) as [] q)).map fun m => bfE .list [m]
  | .Name x p => if (C.scr.contains x && visC C x) = true then (ixC C x).map listScr else (ev C (.Name x p)).map fun m => bfE .list [m]
  | a => gd (noStar a) ((ev C a).map fun m => bfE .list [m])
/-- f(problem) in an except suite -/
def evHot (C : Cc) (f : Str) (as : List Expr) : Option (M Od) := match as with
  | [.Name n _] => gd (glC C f && visC C n) ((ixC C n).map fun i => hotE F f i)
  | _ => none
def evCall (C : Cc) (f : Str) (as : List Expr) : Option (M Od) := if (C.hotc && C.g.hots.contains f) = true then evHot F C f as else
  match C.g.defs.lookup f with
  | some sg => gd (glC C f && (C.calm && (decide (as.length ≤ sg.np) && (decide (sg.np ≤ as.length + sg.dfl.length) && !as.isEmpty)))) ((evAs ev C as).map fun ms => callE F f sg ms)
  | none => gd (glC C f && C.g.free.contains f) (if f = ("isinstance" : Str) then evIsa ev C as else if f = ("list" : Str) ∧ as.length = 1 then (match as with | [a] => evLst ev C a | _ => none) else
      gd ((C.calm || decide (f = ("len" : Str))) && !as.isEmpty) ((bfOf f).bind fun b => (evAs ev C as).map fun ms => bfE b ms))
def evMeth (C : Cc) (o : Expr) (m : Str) (ap : Pos) (as : List Expr) (pos : Pos) : Option (M Od) :=
  gd ((ap.endLine == pos.line) && decide (as.length < 30)) (match mtOf m with
    | some t => match o with
      | .Name x _ => gd (visC C x) ((ixC C x).bind fun i => (evAs ev C as).map fun ms => mtE i t ms)
      | _ => none
    | none => gd (notSup o && !as.isEmpty) ((mvOf m).bind fun v => (ev C o).bind fun x => (evAs ev C as).map fun ms => mvE v x ms))
def evComp (C : Cc) (elt : Expr) (scope : Scope) : List Comprehension → Option (M Od)
  | [⟨.Name x _, it, ifs, 0⟩] => gd (((C.calm || hotIt C it) && (fnK scope && (blkC C.N C.sc scope (ownC C scope)))) && (notSet it && locC (C.blk scope) x))
    ((ixC C x).bind fun i => gd (((ownC C scope).map (·.2)).contains i) ((evI ev C it).bind fun im => (evIf ev (C.blk scope) ifs).bind fun cs => (ev (C.blk scope) elt).bind fun fe => some (compE i ((ownC C scope).map (·.2)) im cs fe)))
  | [⟨.Name x _, it, ifs, 0⟩, ⟨.Name y _, it2, ifs2, 0⟩] => gd ((C.calm && (fnK scope && (blkC C.N C.sc scope (ownC C scope)))) && ((notSet it && notSet it2) && (locC (C.blk scope) x && locC (C.blk scope) y)))
    ((ixC C x).bind fun i => (ixC C y).bind fun j => gd (((ownC C scope).map (·.2)).contains i && ((ownC C scope).map (·.2)).contains j) ((evI ev C it).bind fun im => (evIf ev (C.blk scope) ifs).bind fun cs =>
      (evI ev (C.blk scope) it2).bind fun im2 => (evIf ev (C.blk scope) ifs2).bind fun cs2 => (ev (C.blk scope) elt).bind fun fe => some (comp2E i ((ownC C scope).map (·.2)) im cs j [j] im2 cs2 fe)))
  | _ => none
def stepE (C : Cc) (e : Expr) : Option (M Od) := match e with
  | .Name x _ => evNm C x
  | .Constant c _ _ => evK c
  | .BinOp a op b _ => (ev C a).bind fun x => (ev C b).bind fun y => some (bin2 (binD op) x y)
  | .UnaryOp .USub a _ => (ev C a).map (lift1 negD)
  | .UnaryOp .Not a _ => (ev C a).map notE
  | .Compare a ops cs _ => evCmp ev C a ops cs
  | .BoolOp .And es _ => evBs (ev C) andE es
  | .BoolOp .Or es _ => evBs (ev C) orE es
  | .IfExp c a b _ => (evT ev C 30 c).bind fun t => (ev C a).bind fun x => (ev C b).bind fun y => some (ifT t x y)
  | .List es _ => (evAs ev C es).map listE
  | .Tuple es _ _ => (evAs ev C es).map tupE
  | .Subscript a i _ => (match i with
    | .Slice lo hi none _ => (ev C a).bind fun x => (evO ev C lo).bind fun l => (evO ev C hi).bind fun h => some (sliceE x l h)
    | i => gd (plainIxC i) ((ev C a).bind fun x => (ev C i).bind fun y => some (lift2 idxD x y)))
  | .Call (.Name f _) as [] _ => evCall F ev C f as
  | .Call (.Attribute o m ap) as [] pos => evMeth ev C o m ap as pos
  | .ListComp elt gens scope _ => evComp ev C elt scope gens
  | _ => none
end
/-- n: how deep -/
def evE (F : FT) : Nat → EvT
  | 0 => fun _ _ => none
  | n + 1 => stepE F (evE F n)
end VL

/-! VS: the evaluator of expressions is right. -/
namespace VL
open PySem PySem.Spec PyProof.Rows L2
def SndE (F : FT) (k : Nat) (ev : EvT) : Prop := ∀ C e m, ev C e = some m → ∀ X W, Good C F k X → L2N.Takes X W → PE X e (tE (ky X) W m)
section
variable {F : FT} {k : Nat} {ev : EvT} (S : SndE F k ev) {C : Cc} {X : Cx} {W : WX} (G : Good C F k X) (T : L2N.Takes X W) {a b c e : Expr} {es : List Expr} {pos : Pos}
include S G T
theorem s_as : ∀ {es : List Expr} {ms : List (M Od)}, evAs ev C es = some ms → PA X es (tA (ky X) W (argsE ms)) ∧ es.all noStar = true ∧ ms.length = es.length
  | [], ms, h => by cases h; exact ⟨v_nil, rfl, rfl⟩
  | e :: r, ms, h => by
    unfold evAs at h
    replace h := gd_some h
    obtain ⟨h1, h⟩ := h
    replace h := bd_some h
    obtain ⟨m, h2, h⟩ := h
    replace h := bd_some h
    obtain ⟨t, h3, h⟩ := h
    cases h
    obtain ⟨g1, g2, g3⟩ := s_as h3
    exact ⟨v_cons (S C e m h2 X W G T) g1 h1, by rw [List.all_cons, h1, g2]; rfl, by rw [List.length_cons, List.length_cons, g3]⟩
theorem s_cmp {ops : List CmpOp} {cs : List Expr} {m : M Od} (h : evCmp ev C a ops cs = some m) : PE X (.Compare a ops cs pos) (tE (ky X) W m) ∧ PT X (.Compare a ops cs pos) (tT (ky X) W (valT m)) := by
  unfold evCmp at h
  split at h
  · obtain ⟨h1, h⟩ := gd_some h
    replace h := bd_some h
    obtain ⟨x, h2, h⟩ := h
    replace h := bd_some h
    obtain ⟨y, h3, h⟩ := h
    cases h
    have ha := S C _ _ h2 X W G T
    have hb := S C _ _ h3 X W G T
    exact ⟨v_cmp G.un ha hb (marks_no h1), v_valT G.un ha hb (marks_no h1)⟩
  · obtain ⟨h1, h⟩ := gd_some h
    replace h := bd_some h
    obtain ⟨x, h2, h⟩ := h
    replace h := bd_some h
    obtain ⟨y, h3, h⟩ := h
    replace h := bd_some h
    obtain ⟨z, h4, h⟩ := h
    cases h
    have ha := S C _ _ h2 X W G T
    have hb := S C _ _ h3 X W G T
    have hc := S C _ _ h4 X W G T
    refine ⟨(pe_chain (opd_cmp G.un _) (opd_cmp G.un _) ha hb hc (marks2_no h1)).imp fun σ H Q h => chain_body h, (pt_chain (opd_cmp G.un _) (opd_cmp G.un _) ha hb hc (marks2_no h1)).imp fun σ H Q h => ?_⟩
    refine chain_body (oneT h fun v H0 H1 d o sm hv e q => ?_)
    cases d <;> simp only [boolOf, reduceCtorEq] at e
    cases e
    exact ⟨_, hv.bool, q⟩
  · cases h
theorem s_bT {f : Expr → Option (M Bool)} (sf : ∀ e m, f e = some m → PT X e (tT (ky X) W m)) : ∀ {es : List Expr} {m : M Bool}, (evBs f andT es = some m → PW X (.BoolOp .And es pos) (tT (ky X) W m)) ∧ (evBs f orT es = some m → PW X (.BoolOp .Or es pos) (tT (ky X) W m))
  | [], m => ⟨fun h => (by cases h), fun h => (by cases h)⟩
  | [a], m => ⟨fun h => pw_and1 (sf a m h), fun h => pw_or1 (sf a m h)⟩
  | a :: b :: r, m => by
    refine ⟨fun h => ?_, fun h => ?_⟩
    all_goals
      replace h := bd_some h
      obtain ⟨x, h1, h⟩ := h
      replace h := bd_some h
      obtain ⟨y, h2, h⟩ := h
      cases h
    · exact v_andT (sf a x h1) ((s_bT sf (es := b :: r) (m := y)).1 h2)
    · exact v_orT (sf a x h1) ((s_bT sf (es := b :: r) (m := y)).2 h2)
theorem s_bE {f : Expr → Option (M Od)} (sf : ∀ e m, f e = some m → PE X e (tE (ky X) W m)) : ∀ {es : List Expr} {m : M Od}, (evBs f andE es = some m → PE X (.BoolOp .And es pos) (tE (ky X) W m)) ∧ (evBs f orE es = some m → PE X (.BoolOp .Or es pos) (tE (ky X) W m))
  | [], m => ⟨fun h => (by cases h), fun h => (by cases h)⟩
  | [a], m => ⟨fun h => pe_one (sf a m h), fun h => pe_one (sf a m h)⟩
  | a :: b :: r, m => by
    refine ⟨fun h => ?_, fun h => ?_⟩
    all_goals
      replace h := bd_some h
      obtain ⟨x, h1, h⟩ := h
      replace h := bd_some h
      obtain ⟨y, h2, h⟩ := h
      cases h
    · exact v_andE (sf a x h1) ((s_bE sf (es := b :: r) (m := y)).1 h2)
    · exact v_orE (sf a x h1) ((s_bE sf (es := b :: r) (m := y)).2 h2)
theorem s_T : ∀ {n : Nat} {e : Expr} {m : M Bool}, evT ev C n e = some m → PT X e (tT (ky X) W m)
  | 0, e, m, h => by cases h
  | n + 1, e, m, h => by
    unfold evT at h
    split at h
    · obtain ⟨x, h1, rfl⟩ := mp_some h
      exact v_notT (s_T h1)
    · exact ((s_bT S G T (fun e m h => s_T (n := n) h)).1 h).pt
    · exact ((s_bT S G T (fun e m h => s_T (n := n) h)).2 h).pt
    · obtain ⟨x, h1, rfl⟩ := mp_some h
      exact (s_cmp S G T h1).2
    · obtain ⟨h1, h⟩ := gd_some h
      replace h := mp_some h
      obtain ⟨x, h2, rfl⟩ := h
      exact v_tru (S C _ _ h2 X W G T) (plain_tru h1)
omit S T in
theorem s_B {f : Str} {n : String} (h : isB C f n = true) : f = (n : Str) ∧ Gl X f ∧ X.mg f = none := by
  unfold isB at h
  replace h := gdB h
  obtain ⟨h1, h⟩ := h
  replace h := gdB h
  obtain ⟨h2, h3⟩ := h
  exact ⟨of_decide_eq_true h3, (G.gl h1).1, G.wf.free f (by simpa using h2)⟩
theorem s_I {tg e : Expr} {m : M Itm} (h : evI ev C e = some m) : PI X tg e (tI (ky X) W m) := by
  unfold evI at h
  split at h
  · split at h
    · rename_i hb
      obtain ⟨rfl, hg, hm⟩ := s_B G hb
      unfold evRng at h
      split at h
      · obtain ⟨h1, h⟩ := gd_some h
        replace h := mp_some h
        obtain ⟨x, h2, rfl⟩ := h
        exact v_rg1 hg hm (S C _ _ h2 X W G T) h1
      · obtain ⟨h1, h⟩ := gd_some h
        replace h1 := gdB h1
        obtain ⟨h1, h1'⟩ := h1
        replace h := bd_some h
        obtain ⟨x, h2, h⟩ := h
        replace h := bd_some h
        obtain ⟨y, h3, h⟩ := h
        cases h
        exact v_rg2 hg hm (S C _ _ h2 X W G T) (S C _ _ h3 X W G T) h1 h1'
      · obtain ⟨h1, h⟩ := gd_some h
        replace h1 := gdB h1
        obtain ⟨h1, h1'⟩ := h1
        replace h := bd_some h
        obtain ⟨x, h2, h⟩ := h
        replace h := bd_some h
        obtain ⟨y, h3, h⟩ := h
        split at h
        · cases h
          exact v_rgD hg hm (S C _ _ h2 X W G T) (S C _ _ h3 X W G T) h1 h1'
        · cases h
      · cases h
    · split at h
      · rename_i hb
        obtain ⟨rfl, hg, hm⟩ := s_B G hb
        unfold evRev at h
        split at h
        · obtain ⟨h1, h⟩ := gd_some h
          replace h := mp_some h
          obtain ⟨x, h2, rfl⟩ := h
          exact v_rev hg hm (S C _ _ h2 X W G T) h1
        · cases h
      · obtain ⟨x, h2, rfl⟩ := mp_some h
        exact v_it (S C _ _ h2 X W G T)
  · obtain ⟨x, h2, rfl⟩ := mp_some h
    exact v_it (S C _ _ h2 X W G T)
theorem s_O {o : Option Expr} {m : M (Option Int)} (h : evO ev C o = some m) : PO X o (tO (ky X) W m) := by
  unfold evO at h
  split at h
  · cases h; exact v_partN
  · obtain ⟨x, h2, rfl⟩ := mp_some h
    exact v_partE (S C _ _ h2 X W G T)
theorem s_If {es : List Expr} {m : M Bool} (h : evIf ev C es = some m) : PTs X es (tT (ky X) W m) := by
  unfold evIf at h
  split at h
  · cases h; exact v_tests0
  · exact pts_one (s_T S G T h)
  · cases h
omit S T in
theorem s_nm {x : Str} {m : M Od} (h : evNm C x = some m) : PE X (.Name x pos) (tE (ky X) W m) := by
  unfold evNm at h
  split at h
  · rename_i hv
    replace h := mp_some h
    obtain ⟨i, h1, rfl⟩ := h
    obtain ⟨v1, v2, v3⟩ := G.vis hv
    exact v_name (G.ix h1) v1 v2 v3
  · obtain ⟨h1, h⟩ := gd_some h
    obtain ⟨g1, g2⟩ := G.gl h1
    split at h
    · rename_i i e
      cases h
      obtain ⟨t, ht⟩ := G.wf.nums x i e
      exact v_const (pe_glob (v := .int i) g1 ht ⟨t, rfl⟩ g2) fun H => .int i
    · obtain ⟨s, e, rfl⟩ := mp_some h
      obtain ⟨t, ht⟩ := G.wf.txts x s e
      exact v_const (pe_glob (v := .str s) g1 ht ⟨t, rfl⟩ g2) fun H => .str s
omit S G T in
theorem s_K {c : Const} {n : Nat} {m : M Od} (h : evK c = some m) : PE X (.Constant c n pos) (tE (ky X) W m) := by
  unfold evK at h
  split at h <;> cases h
  · exact v_const pe_non fun H => .non
  · exact v_const pe_bl fun H => .bl _
  · exact v_const pe_int fun H => .int _
  · exact v_const pe_str fun H => .str _
omit S T in
theorem s_bf {f : Str} {bf : Bf} {p : Pos} {ms : List (M Od)} (hcl : X.calm = true ∨ f = ("len" : Str)) (h : bfOf f = some bf) (hg : Gl X f) (hm : X.mg f = none) (ha : PA X (e :: es) (tA (ky X) W (argsE ms))) (hs : (e :: es).all noStar = true) : PE X (.Call (.Name f p) (e :: es) [] pos) (tE (ky X) W (bfE bf ms)) := by
  unfold bfOf at h
  have hu : X.A.units + 64 < cLine := by have := G.un; omega
  split at h
  · rename_i e; subst e; cases h; exact v_bfB bf_len hg hm (by decide +kernel) (by decide +kernel) (by decide +kernel) ha hs
  split at h
  · rename_i e; subst e; cases h; exact v_bfB bf_abs hg hm (by decide +kernel) (by decide +kernel) (by decide +kernel) ha hs
  split at h
  · rename_i e; subst e; cases h; exact v_bfT bf_int hg hm (by decide +kernel) (by decide +kernel) (by decide +kernel) ha hs
  split at h
  · rename_i e; subst e; cases h; exact v_bfT bf_bool hg hm (by decide +kernel) (by decide +kernel) (by decide +kernel) ha hs
  split at h
  · rename_i e; subst e; cases h; exact v_bfT bf_str hg hm (by decide +kernel) (by decide +kernel) (by decide +kernel) ha hs
  split at h
  · rename_i e; subst e; cases h; exact v_bfT bf_list hg hm (by decide +kernel) (by decide +kernel) (by decide +kernel) ha hs
  split at h
  · rename_i e; subst e; cases h; exact v_bfT bf_tuple hg hm (by decide +kernel) (by decide +kernel) (by decide +kernel) ha hs
  split at h
  · rename_i e; subst e; cases h; exact v_bfB (bf_sum (hcl.resolve_right (by decide))) hg hm (by decide +kernel) (by decide +kernel) (by decide +kernel) ha hs
  split at h
  · rename_i e; subst e; cases h; exact v_bfB (bf_max (hcl.resolve_right (by decide))) hg hm (by decide +kernel) (by decide +kernel) (by decide +kernel) ha hs
  split at h
  · rename_i e; subst e; cases h; exact v_bfB (bf_min (hcl.resolve_right (by decide))) hg hm (by decide +kernel) (by decide +kernel) (by decide +kernel) ha hs
  split at h
  · rename_i e; subst e; cases h; exact v_bfB (bf_sorted hu) hg hm (by decide +kernel) (by decide +kernel) (by decide +kernel) ha hs
  · cases h
omit S G T in
theorem s_ty {T' : Str} {n : String} (h : tyOf T' = some n) : bootBuiltins T' = some (.type n) ∧ T' ≠ "__name__" ∧ (T' == ("__debug__" : Str)) = false := by
  unfold tyOf at h
  split at h
  · rename_i e; subst e; cases h; exact ⟨by decide +kernel, by decide +kernel, by decide +kernel⟩
  split at h
  · rename_i e; subst e; cases h; exact ⟨by decide +kernel, by decide +kernel, by decide +kernel⟩
  split at h
  · rename_i e; subst e; cases h; exact ⟨by decide +kernel, by decide +kernel, by decide +kernel⟩
  split at h
  · rename_i e; subst e; cases h; exact ⟨by decide +kernel, by decide +kernel, by decide +kernel⟩
  split at h
  · rename_i e; subst e; cases h; exact ⟨by decide +kernel, by decide +kernel, by decide +kernel⟩
  · cases h
theorem s_isa {as : List Expr} {m : M Od} {p : Pos} (hg : Gl X "isinstance") (hm : X.mg "isinstance" = none) (h : evIsa ev C as = some m) : PE X (.Call (.Name "isinstance" p) as [] pos) (tE (ky X) W m) := by
  unfold evIsa at h
  split at h
  · rename_i a T' p'
    split at h
    · rename_i hb
      replace hb := gdB hb
      obtain ⟨h1, h2⟩ := hb
      have hf := G.wf.free T' (by simpa using h2)
      split at h
      · rename_i n e
        replace h := gd_some h
        obtain ⟨h3, h⟩ := h
        replace h := mp_some h
        obtain ⟨x, h4, rfl⟩ := h
        obtain ⟨t1, t2, t3⟩ := s_ty e
        exact v_isins t1 hg hm (G.gl h1).1 hf t2 t3 (S C _ _ h4 X W G T) h3
      · split at h
        · rename_i nn pn
          replace h := gd_some h
          obtain ⟨h3, h⟩ := h
          replace h3 := gdB h3
          obtain ⟨h3, h5⟩ := h3
          replace h5 := gdB h5
          obtain ⟨h5, h6⟩ := h5
          replace h := mp_some h
          obtain ⟨i, h4, rfl⟩ := h
          have e := of_decide_eq_true h5
          subst e
          obtain ⟨v1, v2, v3⟩ := G.vis h3
          refine v_isa (c := .ty "ValueError") (cv := .type "ValueError") (G.ix h4) v1 v2 v3 hg hm (pe_bltn (G.gl h1).1 hf (by decide +kernel) rfl (by decide +kernel) (by decide +kernel)) (fun u hu => hu) fun kk l D ql hD => ⟨G.wf.ancE kk l D ql hD, ?_⟩
          rw [G.wf.ancB kk l D ql hD]
          have hmem : (kk, l) ∈ C.g.anc := PySem.mem_of_lookup ql
          have := List.all_eq_true.mp h6 (kk, l) hmem
          rw [show l.contains ("ValueError" : Str) = true from this]
        · cases h
    · split at h
      · obtain ⟨h3, h⟩ := gd_some h
        replace h3 := gdB h3
        obtain ⟨h3, h5⟩ := h3
        replace h5 := gdB h5
        obtain ⟨h5, h6⟩ := h5
        replace h := mp_some h
        obtain ⟨i, h4, rfl⟩ := h
        obtain ⟨v1, v2, v3⟩ := G.vis h3
        have hmem : T' ∈ C.g.excs := by simpa using h6
        obtain ⟨cc, q⟩ := G.wf.excs T' hmem
        exact v_isa (c := .ref cc) (cv := .ref cc) (G.ix h4) v1 v2 v3 hg hm (pe_glob (G.gl h5).1 q.mg rfl (G.gl h5).2) (fun u hu => hu) fun kk l D ql hD => ⟨G.wf.ancE kk l D ql hD, (G.wf.anc kk l D T' _ ql hD hmem q.mg).2⟩
      · cases h
  · obtain ⟨h1, h⟩ := gd_some h
    replace h1 := gdB h1
    obtain ⟨h1, h2⟩ := h1
    replace h1 := gdB h1
    obtain ⟨h1, h3⟩ := h1
    replace h3 := gdB h3
    obtain ⟨h3, h4⟩ := h3
    replace h2 := gdB h2
    obtain ⟨h2, h5⟩ := h2
    replace h := bd_some h
    obtain ⟨n, e1, h⟩ := h
    replace h := bd_some h
    obtain ⟨n', e2, h⟩ := h
    replace h := mp_some h
    obtain ⟨x, h6, rfl⟩ := h
    obtain ⟨t1, t2, t3⟩ := s_ty e1
    obtain ⟨u1, u2, u3⟩ := s_ty e2
    exact v_isins2 t1 u1 hg hm (G.gl h3).1 (G.wf.free _ (by simpa using h4)) t2 t3 (G.gl h2).1 (G.wf.free _ (by simpa using h5)) u2 u3 (S C _ _ h6 X W G T) h1
  · cases h
omit S T in
theorem s_lst1 {x : M Od} {p : Pos} (hg : Gl X "list") (hm : X.mg "list" = none) (ha : PE X a (tE (ky X) W x)) (hs : noStar a = true) : PE X (.Call (.Name "list" p) [a] [] pos) (tE (ky X) W (bfE .list [x])) :=
  v_bfT bf_list hg hm (by decide +kernel) (by decide +kernel) (by decide +kernel) (v_cons ha v_nil hs) (by rw [List.all_cons, hs]; rfl)
theorem s_lst {m : M Od} {p : Pos} (hg : Gl X "list") (hm : X.mg "list" = none) (h : evLst ev C a = some m) : PE X (.Call (.Name "list" p) [a] [] pos) (tE (ky X) W m) := by
  unfold evLst at h
  split at h
  · split at h
    · rename_i hb
      obtain ⟨rfl, hg2, hm2⟩ := s_B G hb
      split at h
      · obtain ⟨h1, h⟩ := gd_some h
        replace h1 := gdB h1
        obtain ⟨h1, h1'⟩ := h1
        replace h := mp_some h
        obtain ⟨x, h2, rfl⟩ := h
        exact v_listRg1 (G.calm h1) hg hm hg2 hm2 (S C _ _ h2 X W G T) h1'
      · obtain ⟨h1, h⟩ := gd_some h
        replace h1 := gdB h1
        obtain ⟨h1, h1'⟩ := h1
        replace h1' := gdB h1'
        obtain ⟨h1', h1''⟩ := h1'
        replace h := bd_some h
        obtain ⟨x, h2, h⟩ := h
        replace h := bd_some h
        obtain ⟨y, h3, h⟩ := h
        cases h
        exact v_listRg2 (G.calm h1) hg hm hg2 hm2 (S C _ _ h2 X W G T) (S C _ _ h3 X W G T) h1' h1''
      · cases h
    · split at h
      · rename_i hb
        obtain ⟨rfl, hg2, hm2⟩ := s_B G hb
        split at h
        · obtain ⟨h1, h⟩ := gd_some h
          replace h1 := gdB h1
          obtain ⟨h1, h1'⟩ := h1
          replace h := mp_some h
          obtain ⟨x, h2, rfl⟩ := h
          exact v_listRev (G.calm h1) hg hm hg2 hm2 (S C _ _ h2 X W G T) h1'
        · cases h
      · obtain ⟨x, h2, rfl⟩ := mp_some h
        exact s_lst1 G hg hm (S C _ _ h2 X W G T) rfl
  · split at h
    · rename_i hb
      replace hb := gdB hb
      obtain ⟨_, h1⟩ := hb
      replace h := mp_some h
      obtain ⟨i, h2, rfl⟩ := h
      obtain ⟨v1, v2, v3⟩ := G.vis h1
      exact v_listScr (G.ix h2) v1 v2 v3 hg hm
    · obtain ⟨x, h2, rfl⟩ := mp_some h
      exact s_lst1 G hg hm (S C _ _ h2 X W G T) rfl
  · obtain ⟨h1, h⟩ := gd_some h
    replace h := mp_some h
    obtain ⟨x, h2, rfl⟩ := h
    exact s_lst1 G hg hm (S C _ _ h2 X W G T) h1
omit S T in
theorem s_hot {f : Str} {as : List Expr} {m : M Od} {p : Pos} (hc : (C.hotc && C.g.hots.contains f) = true) (h : evHot F C f as = some m) : PE X (.Call (.Name f p) as [] pos) (tE (ky X) W m) := by
  unfold evHot at h
  split at h
  · replace h := gd_some h
    obtain ⟨h1, h⟩ := h
    replace h1 := gdB h1
    obtain ⟨h1, h2⟩ := h1
    replace h := mp_some h
    obtain ⟨i, h3, rfl⟩ := h
    replace hc := gdB hc
    obtain ⟨c1, c2⟩ := hc
    obtain ⟨v1, v2, v3⟩ := G.vis h2
    exact v_hot (G.hots f (by simpa using c2)) G.roomH (G.hot c1) (G.gl h1).1 (G.gl h1).2 (G.ix h3) v1 v2 v3
  · cases h
theorem s_IH {tg e : Expr} {im : M Itm} (hc : hotIt C e = true) (h : evI ev C e = some im) : L2H.PIH X tg e (tI (ky X) W im) ∧ L2H.HotC X := by
  unfold hotIt at hc
  replace hc := gdB hc
  obtain ⟨c1, c2⟩ := hc
  refine ⟨?_, G.hot c1⟩
  split at c2
  · rename_i f pp a q
    replace c2 := gdB c2
    obtain ⟨c2, c3⟩ := c2
    obtain ⟨rfl, hg, hm⟩ := s_B G c2
    unfold evI at h
    dsimp only at h
    rw [if_pos c2] at h
    unfold evRng at h
    dsimp only at h
    replace h := gd_some h
    obtain ⟨_, h⟩ := h
    replace h := mp_some h
    obtain ⟨x, h2, rfl⟩ := h
    exact v_rg1H hg hm (S C _ _ h2 X W G T) c3
  · cases c2
theorem s_call {f : Str} {as : List Expr} {m : M Od} {p : Pos} (h : evCall F ev C f as = some m) : PE X (.Call (.Name f p) as [] pos) (tE (ky X) W m) := by
  unfold evCall at h
  split at h
  · rename_i hh
    exact s_hot G hh h
  split at h
  · rename_i sg e
    replace h := gd_some h
    obtain ⟨h1, h⟩ := h
    replace h1 := gdB h1
    obtain ⟨h1, h2⟩ := h1
    replace h2 := gdB h2
    obtain ⟨h2, h3⟩ := h2
    replace h3 := gdB h3
    obtain ⟨h3, h4⟩ := h3
    replace h4 := gdB h4
    obtain ⟨h4, h5⟩ := h4
    replace h := mp_some h
    obtain ⟨ms, h6, rfl⟩ := h
    obtain ⟨g1, g2, g3⟩ := s_as S G T h6
    cases as with
    | nil => cases h5
    | cons a r => exact v_call (G.defs f sg e) (G.room h2) T (G.gl h1).1 (G.gl h1).2 g1 g2 (of_decide_eq_true h3) (of_decide_eq_true h4) g3
  · obtain ⟨h1, h⟩ := gd_some h
    replace h1 := gdB h1
    obtain ⟨h1, h2⟩ := h1
    have hg := (G.gl h1).1
    have hm := G.wf.free f (by simpa using h2)
    split at h
    · rename_i e
      rw [e] at hg hm ⊢
      exact s_isa S G T hg hm h
    · split at h
      · rename_i e
        obtain ⟨e, _⟩ := e
        rw [e] at hg hm ⊢
        split at h
        · exact s_lst S G T hg hm h
        · cases h
      · obtain ⟨h3, h⟩ := gd_some h
        replace h3 := gdB h3
        obtain ⟨h3, h4⟩ := h3
        replace h3 : X.calm = true ∨ f = ("len" : Str) := by
          rw [Bool.or_eq_true, decide_eq_true_eq] at h3
          exact h3.imp G.calm id
        replace h := bd_some h
        obtain ⟨b, h5, h⟩ := h
        replace h := mp_some h
        obtain ⟨ms, h6, rfl⟩ := h
        obtain ⟨g1, g2, g3⟩ := s_as S G T h6
        cases as with
        | nil => cases h4
        | cons a r => exact s_bf G h3 h5 hg hm g1 g2
theorem s_meth {o : Expr} {t : Str} {ap : Pos} {as : List Expr} {m : M Od} (h : evMeth ev C o t ap as pos = some m) : PE X (.Call (.Attribute o t ap) as [] pos) (tE (ky X) W m) := by
  unfold evMeth at h
  replace h := gd_some h
  obtain ⟨h1, h⟩ := h
  replace h1 := gdB h1
  obtain ⟨h1, h2⟩ := h1
  have h2 := of_decide_eq_true h2
  split at h
  · rename_i mt e
    split at h
    · rename_i xx pxx
      obtain ⟨h3, h⟩ := gd_some h
      replace h := bd_some h
      obtain ⟨i, h4, h⟩ := h
      replace h := mp_some h
      obtain ⟨ms, h5, rfl⟩ := h
      obtain ⟨g1, g2, g3⟩ := s_as S G T h5
      obtain ⟨v1, v2, v3⟩ := G.vis h3
      have fin : ∀ {id : String} (slot : PySem.Slot "list" t id) (hty : typeOf (.builtin id) = pure (.type "method_descriptor")) (hm : MtR X id (rMt mt)), PE X (.Call (.Attribute (.Name xx pxx) t ap) as [] pos) (tE (ky X) W (mtE i mt ms)) := fun slot hty hm => by
        cases as with
        | nil =>
          cases ms with
          | nil => exact v_mt0 PySem.F.plainAttrs_list slot hty hm (G.ix h4) v1 v2 v3 h1
          | cons => cases g3
        | cons a r => exact v_mt PySem.F.plainAttrs_list slot hty hm (G.ix h4) v1 v2 v3 g1 g2 h2 h1
      unfold mtOf at e
      split at e
      · rename_i q; subst q; cases e; exact fin PySem.F.slot_list_append PySem.F.type_list_append mtd_append
      split at e
      · rename_i q; subst q; cases e; exact fin PySem.F.slot_list_extend PySem.F.type_list_extend mtd_extend
      split at e
      · rename_i q; subst q; cases e; exact fin PySem.F.slot_list_insert PySem.F.type_list_insert mtd_insert
      split at e
      · rename_i q; subst q; cases e; exact fin PySem.F.slot_list_pop PySem.F.type_list_pop mtd_pop
      · cases e
    · cases h
  · obtain ⟨h3, h⟩ := gd_some h
    replace h3 := gdB h3
    obtain ⟨h3, h4⟩ := h3
    replace h := bd_some h
    obtain ⟨mv, e, h⟩ := h
    replace h := bd_some h
    obtain ⟨x, h5, h⟩ := h
    replace h := mp_some h
    obtain ⟨ms, h6, rfl⟩ := h
    obtain ⟨g1, g2, g3⟩ := s_as S G T h6
    have ho := S C _ _ h5 X W G T
    cases as with
    | nil => cases h4
    | cons a r =>
      unfold mvOf at e
      split at e
      · rename_i q; subst q; cases e; exact v_mv (mv_list (.inl rfl)) PySem.F.plainAttrs_list PySem.F.slot_list_count PySem.F.type_list_count mv_count ho h3 g1 g2 h2 h1
      split at e
      · rename_i q; subst q; cases e; exact v_mv (mv_list (.inr rfl)) PySem.F.plainAttrs_list PySem.F.slot_list_index PySem.F.type_list_index (mv_index G.un) ho h3 g1 g2 h2 h1
      split at e
      · rename_i q; subst q; cases e; exact v_mv mv_str PySem.F.plainAttrs_str PySem.F.slot_str_join PySem.F.type_str_join mv_join ho h3 g1 g2 h2 h1
      · cases e
omit S G T in
theorem fnK_ok {scope : Scope} (h : fnK scope = true) : scope.kind = .function := by
  unfold fnK at h
  split at h
  · assumption
  · cases h
omit S T in
theorem s_blkNm {scope : Scope} {x : Str} {i : Nat} {px : Pos} (hk : scope.kind = .function) (hl : locC (C.blk scope) x = true) (hi : ixC C x = some i) (s : Shared) (H : Hp) (D : Addr) (cl : List (Str × Addr)) (fp : List Addr) : PG (X.blk s H scope (compEnvC scope cl D X.env) fp) (.Name x px) (gName i) := by
  have G' := G.blk hk s H D cl fp
  obtain ⟨l1, l2⟩ := G'.loc hl
  exact pg_name G'.nodup (G.ix hi) l1 l2
theorem s_comp {elt : Expr} {scope : Scope} {gs : List Comprehension} {m : M Od} (h : evComp ev C elt scope gs = some m) : PE X (.ListComp elt gs scope pos) (tE (ky X) W m) := by
  unfold evComp at h
  split at h
  · obtain ⟨h1, h⟩ := gd_some h
    replace h1 := gdB h1
    obtain ⟨h1, h2⟩ := h1
    replace h1 := gdB h1
    obtain ⟨c1, h1⟩ := h1
    replace h1 := gdB h1
    obtain ⟨c2, c3⟩ := h1
    replace h2 := gdB h2
    obtain ⟨c4, c5⟩ := h2
    replace h := bd_some h
    obtain ⟨i, h3, h⟩ := h
    replace h := gd_some h
    obtain ⟨h4, h⟩ := h
    replace h := bd_some h
    obtain ⟨im, h5, h⟩ := h
    replace h := bd_some h
    obtain ⟨cs, h6, h⟩ := h
    replace h := bd_some h
    obtain ⟨fe, h7, h⟩ := h
    cases h
    have hk := fnK_ok c2
    rw [Bool.or_eq_true] at c1
    rcases c1 with c1 | c1
    · exact v_comp (G.calm c1) G.nodup (s_I S G T h5) (by rw [G.N, G.sc]; exact blkOk_by c3) (by simpa using h4) (fun s H D cl fp => s_blkNm G hk c5 h3 s H D cl fp) (fun s H D cl fp => s_If S (G.blk hk s H D cl fp) (Good.blkTakes s H D cl fp) h6)
        (fun s H D cl fp => S _ _ _ h7 _ W0 (G.blk hk s H D cl fp) (Good.blkTakes s H D cl fp)) (folded_no c4)
    · obtain ⟨hi, hh⟩ := s_IH S G T c1 h5
      exact v_compH hh G.nodup hi (by rw [G.N, G.sc]; exact blkOk_by c3) (by simpa using h4) (fun s H D cl fp => s_blkNm G hk c5 h3 s H D cl fp) (fun s H D cl fp => s_If S (G.blk hk s H D cl fp) (Good.blkTakes s H D cl fp) h6)
        (fun s H D cl fp => S _ _ _ h7 _ W0 (G.blk hk s H D cl fp) (Good.blkTakes s H D cl fp)) (folded_no c4)
  · obtain ⟨h1, h⟩ := gd_some h
    replace h1 := gdB h1
    obtain ⟨h1, h2⟩ := h1
    replace h1 := gdB h1
    obtain ⟨c1, h1⟩ := h1
    replace h1 := gdB h1
    obtain ⟨c2, c3⟩ := h1
    replace h2 := gdB h2
    obtain ⟨c4, c5⟩ := h2
    obtain ⟨c4, c4'⟩ := gdB c4
    obtain ⟨c5, c5'⟩ := gdB c5
    replace h := bd_some h
    obtain ⟨i, h3, h⟩ := h
    replace h := bd_some h
    obtain ⟨j, h3', h⟩ := h
    replace h := gd_some h
    obtain ⟨h4, h⟩ := h
    replace h4 := gdB h4
    obtain ⟨h4, h4'⟩ := h4
    replace h := bd_some h
    obtain ⟨im, h5, h⟩ := h
    replace h := bd_some h
    obtain ⟨cs, h6, h⟩ := h
    replace h := bd_some h
    obtain ⟨im2, h5', h⟩ := h
    replace h := bd_some h
    obtain ⟨cs2, h6', h⟩ := h
    replace h := bd_some h
    obtain ⟨fe, h7, h⟩ := h
    cases h
    have hk := fnK_ok c2
    exact v_comp2 (G.calm c1) G.nodup (s_I S G T h5) (by rw [G.N, G.sc]; exact blkOk_by c3) (by simpa using h4) (List.mem_singleton.mpr rfl) (fun l hl => by rw [List.mem_singleton.mp hl]; simpa using h4') (fun s H D cl fp => s_blkNm G hk c5 h3 s H D cl fp) (fun s H D cl fp => s_If S (G.blk hk s H D cl fp) (Good.blkTakes s H D cl fp) h6)
      (fun s H D cl fp => s_I S (G.blk hk s H D cl fp) (Good.blkTakes s H D cl fp) h5') (fun s H D cl fp => s_blkNm G hk c5' h3' s H D cl fp) (fun s H D cl fp => s_If S (G.blk hk s H D cl fp) (Good.blkTakes s H D cl fp) h6')
      (fun s H D cl fp => S _ _ _ h7 _ W0 (G.blk hk s H D cl fp) (Good.blkTakes s H D cl fp)) (folded_no c4) (fun env => folded_no c4')
  · cases h
theorem s_step {m : M Od} (h : stepE F ev C e = some m) : PE X e (tE (ky X) W m) := by
  unfold stepE at h
  split at h
  · exact s_nm G h
  · exact s_K h
  · obtain ⟨x, h1, h⟩ := bd_some h
    replace h := bd_some h
    obtain ⟨y, h2, h⟩ := h
    cases h
    exact v_bin (S C _ _ h1 X W G T) (S C _ _ h2 X W G T)
  · obtain ⟨x, h1, rfl⟩ := mp_some h
    exact v_neg (S C _ _ h1 X W G T)
  · obtain ⟨x, h1, rfl⟩ := mp_some h
    exact v_notE (S C _ _ h1 X W G T)
  · exact (s_cmp S G T h).1
  · exact (s_bE S G T (fun e m h => S C e m h X W G T)).1 h
  · exact (s_bE S G T (fun e m h => S C e m h X W G T)).2 h
  · obtain ⟨t, h1, h⟩ := bd_some h
    replace h := bd_some h
    obtain ⟨x, h2, h⟩ := h
    replace h := bd_some h
    obtain ⟨y, h3, h⟩ := h
    cases h
    exact v_ifE (s_T S G T h1) (S C _ _ h2 X W G T) (S C _ _ h3 X W G T)
  · obtain ⟨x, h1, rfl⟩ := mp_some h
    exact v_list (s_as S G T h1).1
  · obtain ⟨x, h1, rfl⟩ := mp_some h
    exact v_tup (s_as S G T h1).1
  · split at h
    · obtain ⟨x, h1, h⟩ := bd_some h
      replace h := bd_some h
      obtain ⟨y, h2, h⟩ := h
      replace h := bd_some h
      obtain ⟨z, h3, h⟩ := h
      cases h
      exact v_slice (S C _ _ h1 X W G T) (s_O S G T h2) (s_O S G T h3)
    · obtain ⟨h1, h⟩ := gd_some h
      replace h := bd_some h
      obtain ⟨x, h2, h⟩ := h
      replace h := bd_some h
      obtain ⟨y, h3, h⟩ := h
      cases h
      exact v_ix (S C _ _ h2 X W G T) (S C _ _ h3 X W G T) (plain_ix h1)
  · exact s_call S G T h
  · exact s_meth S G T h
  · exact s_comp S G T h
  · cases h
end
theorem snd (F : FT) (k : Nat) : ∀ n, SndE F k (evE F n)
  | 0 => fun C e m h => by cases h
  | n + 1 => fun C e m h X W G T => s_step (snd F k n) G T h
end VL

/-! VT: the evaluator of statements, and that it is right. -/
namespace VL
open PySem PySem.Spec PyProof.Rows L2
/-- a context of suites -/
structure GoodS (C : Cc) (F : FT) (k : Nat) (X : Cx) : Prop extends Good C F k X where
  ps : C.calm = true → PassesOwn (model X.prog X.w) X.A X.env X.xe
  st : X.stack = X.env :: X.outer
  fr : X.env.frame = some X.env.locals
section
variable {C : Cc} {F : FT} {k : Nat} {X : Cx}
theorem GoodS.tr (G : GoodS C F k X) {pn : List (Addr × Obj)} {xe : Value → Shared → Prop} (hp : PassesOwn (model X.prog X.w) X.A X.env xe) : GoodS { C with hotc := false } F k (X.tr pn xe) :=
  ⟨⟨G.N, G.nd, G.sc, G.kd, G.fn, G.calm, G.un, G.wf, G.room, G.defs, G.roomH, fun h => (Bool.noConfusion (show false = true from h)), G.hots⟩, fun _ => hp, G.st, G.fr⟩
theorem GoodS.suite (G : GoodS C F k X) (a : Addr) (oe : Obj) (pn : List (Addr × Obj)) (hz : HotZ oe) : GoodS { C with calm := false, hotc := true } F k (X.suite a ((a, oe) :: pn)) :=
  ⟨⟨G.N, G.nd, G.sc, G.kd, G.fn, fun h => (Bool.noConfusion (show false = true from h)), G.un, G.wf, fun h => (Bool.noConfusion (show false = true from h)), G.defs, ⟨G.roomH.dp, G.roomH.un⟩, fun _ => ⟨(a, oe), ⟨rfl, hz.2.elim fun vs e => ⟨vs, e, hz.1 vs e⟩⟩, List.mem_cons_self⟩, G.hots⟩, fun h => (Bool.noConfusion (show false = true from h)), G.st, G.fr⟩
end
theorem w0_takes {X : Cx} (h : ∀ u s, ¬ X.xe u s → True) : True := trivial
/-- the name t takes a comprehension's list on the spot -/
def swC (C : Cc) (t : Str) (pt : Pos) (scope : Scope) (pv : Pos) : Bool :=
  decide (kindC C t = some .local) && ((pt.line == pv.line) && !(scope.names.any fun (n, k) => n == t && (k == .local || k == .cell)))
theorem sw_eq {C : Cc} {F : FT} {k : Nat} {X : Cx} (G : Good C F k X) {elt : Expr} {gs : List Comprehension} {scope : Scope} {pv pt : Pos} {t : Str} {l : Nat} : swapsWith (.ListComp elt gs scope pv) (some (.Name t pt)) l X.env = pure (swC C t pt scope pv) := by
  have hb : X.env.blockKind = .function := by
    unfold Env.blockKind
    rw [G.sc, G.kd]; rfl
  unfold swapsWith swC
  simp only [hb, Expr.pos]
  have e : (X.env.kindOf t == some .local) = decide (kindC C t = some .local) := by
    show (X.env.scope.names.lookup t == some .local) = decide (C.sc.names.lookup t = some .local)
    rw [G.sc]
    by_cases h : C.sc.names.lookup t = some .local
    · rw [h]; decide
    · rw [decide_eq_false h]
      simpa using h
  rw [e, show ((ScopeKind.function == ScopeKind.function) = true) from rfl]
  simp only [Bool.true_and, Bool.and_assoc]
/-- how a name takes what is given -/
def toS (C : Cc) (x : Str) (i : Nat) (m : M Od) : M Fl := if C.own.contains x = true then newS C.p i m else setS C.p i m
theorem toS_ok {C : Cc} {x : Str} {i : Nat} {Y : Ky} {W : WX} (fa : M Od) (D : Ends) (σ : St) (H : Hp) (h : tS Y W C.p (toS C x i fa) D σ H) : tAsg (tE Y W fa) (gName i) D σ H := by
  unfold toS at h
  split at h
  · exact new_ok h
  · exact set_ok h
section
variable (F : FT) (ev : EvT)
def evG1 (C : Cc) : Expr → Option MU
  | .Name x _ => gd (locC C x) ((ixC C x).map (nmU C.p))
  | .Subscript (.Name x _) k _ => gd (visC C x && plainIxC k) ((ixC C x).bind fun i => (ev C k).map (subU i))
  | _ => none
def evGs (C : Cc) : List Expr → Option (List PyData → M Unit)
  | [] => some nilU
  | e :: r => (evG1 ev C e).bind fun m => (evGs C r).bind fun ms => some (consU m ms)
def evG (C : Cc) (e : Expr) : Option MU := match e with
  | .Tuple es _ _ => gd C.calm ((evGs ev C es).map (tupU es.length))
  | e => evG1 ev C e
def locNm (C : Cc) : Expr → Bool
  | .Name id _ => decide (kindC C id = some .local)
  | _ => false
/-- no swapped stores -/
def noSw (C : Cc) (tg v : Expr) : Bool := match tg, v with
  | .Name _ _, _ => true
  | .Subscript _ _ _, _ => true
  | .Tuple ts _ _, .Tuple vs _ _ => vs.all (foldedForSure 8) || !(ts.all (locNm C))
  | .Tuple _ _ _, _ => true
  | _, _ => false
def evAsg (C : Cc) (tg v : Expr) : Option (M Fl) := match tg with
  | .Name x px => (match v with
    | .ListComp elt [⟨.Name y py, it, ifs, 0⟩] scope pv => if swC C x px scope pv = true then
        gd (((C.calm || hotIt C it) && (fnK scope && (blkC C.N C.sc scope (ownC C scope)))) && (notSet it && locC (C.blk scope) y))
          ((ixC C x).bind fun j => (ixC C y).bind fun i => gd (((ownC C scope).map (·.2)).contains i) ((evI ev C it).bind fun im => (evIf ev (C.blk scope) ifs).bind fun cs => (ev (C.blk scope) elt).bind fun fe => some (toS C x j (compE i ((ownC C scope).map (·.2)) im cs fe))))
      else gd (locC C x) ((ixC C x).bind fun j => (ev C v).map (toS C x j))
    | .ListComp elt gs scope pv => gd (!swC C x px scope pv && locC C x) ((ixC C x).bind fun j => (ev C v).map (toS C x j))
    | v => gd (notComp v && locC C x) ((ixC C x).bind fun j => (ev C v).map (toS C x j)))
  | tg => gd (notComp v && noSw C tg v) ((evG ev C tg).bind fun m => (ev C v).map (asgS m))
/-- a, b = x, y with plain names, stored from the right -/
def evPar (C : Cc) (tg v : Expr) : Option (M Fl) := match tg, v with
  | .Tuple [.Name x px, .Name y py] _ _, .Tuple [a, b] _ _ => gd ((C.calm && (decide (kindC C x = some .local) && decide (kindC C y = some .local))) && (((px.line == py.line) && !(decide (x = y))) && ((noStar a && noStar b) && (!([a, b].all (foldedForSure 8)) && !([a, b].all (constantsAlone 8))))))
    ((ixC C x).bind fun i => (ixC C y).bind fun j => gd (!decide (i = j)) ((ev C a).bind fun m => (ev C b).bind fun n => some (par2S C.p i j m n)))
  | _, _ => none
end
/-- fu: turns of a while -/
def evS (F : FT) (ev : EvT) (fu : Nat) : Nat → Cc → List Stmt → Option (M Fl)
  | 0, _, _ => none
  | n + 1, C, ss => match ss with
    | [] => some passS
    | s :: r => (match s with
      | .Expr (.Constant (.str _) _ _) _ => some passS
      | .Expr a _ => gd (notComp a) ((ev C a).map exprS)
      | .Return none _ => some retN
      | .Return (some a) _ => (ev C a).map (retS C.p)
      | .Pass _ => some passS
      | .Break _ => some brkS
      | .Continue _ => some cntS
      | .Assign [tg] v _ => if noSw C tg v = true then evAsg ev C tg v else evPar ev C tg v
      | .If c a b _ => (evT ev C 30 c).bind fun t => (evS F ev fu n C a).bind fun x => (evS F ev fu n C b).bind fun y => some (ifS t x y)
      | .For tg it body [] _ => gd (C.calm && notSet it) ((evI ev C it).bind fun im => (evG ev C tg).bind fun m => (evS F ev fu n C body).bind fun x => some (forS m im x))
      | .While c body [] _ => gd C.calm ((evT ev C 30 c).bind fun t => (evS F ev fu n C body).bind fun x => some (whS fu t x))
      | .Raise (some (.Call (.Name x _) [a] [] _)) none _ => gd (C.calm && (glC C x && (C.g.excs.contains x && noStar a))) ((ev C a).map (raiseS x))
      | .Try body [.ExceptHandler (some (.Name x _)) none (b :: suite) _] [] [] _ => gd (C.calm && (glC C x && C.g.excs.contains x)) ((evS F ev fu n { C with hotc := false } body).bind fun m => (evS F ev fu n { C with calm := false, hotc := true } (b :: suite)).bind fun h => some (tryS C.g.anc m x h))
      | .Try body [.ExceptHandler (some (.Name x _)) (some nm) (b :: suite) _] [] [] _ => gd ((C.calm && (glC C x && C.g.excs.contains x)) && decide (kindC C nm = some NameKind.local)) ((ixC C nm).bind fun i => gd (decide (C.p ≤ i)) ((evS F ev fu n { C with hotc := false } body).bind fun m => (evS F ev fu n { C with calm := false, hotc := true } (b :: suite)).bind fun h => some (tryAs C.g.anc m x i h)))
      | _ => none).bind fun m => match r with
        | [] => some m
        | r => (evS F ev fu n C r).map fun y => seqS m y
end VL

/-! VU: the evaluator of statements is right. -/
namespace VL
open PySem PySem.Spec PyProof.Rows L2
section
variable {C : Cc} {F : FT} {k : Nat} {X : Cx}
theorem fm_len {α β : Type} {f : α → Option β} : ∀ {l : List α}, (l.filterMap f).length = l.length → l.all (fun a => (f a).isSome) = true
  | [], _ => rfl
  | a :: r, h => by
    cases e : f a with
    | none =>
      rw [List.filterMap_cons_none e] at h
      have := List.length_filterMap_le f r
      rw [List.length_cons] at h
      omega
    | some b =>
      rw [List.filterMap_cons_some e, List.length_cons, List.length_cons] at h
      rw [List.all_cons, e, fm_len (by omega)]
      rfl
theorem ne_of_bne {a b : Nat} (h : ¬ (a != b) = true) : a = b := by
  by_cases e : a = b
  · exact e
  · exact absurd (by rw [bne_iff_ne]; exact e) h
theorem kind_dec (G : Good C F k X) (x : Str) : (X.env.kindOf x == some .local) = decide (kindC C x = some .local) := by
  show (X.env.scope.names.lookup x == some .local) = decide (C.sc.names.lookup x = some .local)
  rw [G.sc]
  by_cases h : C.sc.names.lookup x = some .local
  · rw [h]; decide
  · rw [decide_eq_false h]
    simpa using h
theorem blk_fn (G : Good C F k X) : X.env.blockKind = .function := by
  unfold Env.blockKind
  rw [G.sc, G.kd]; rfl
theorem noSw_ok (G : Good C F k X) {tg v : Expr} (h : noSw C tg v = true) : swappedStores [tg] v X.env = pure none := by
  cases tg with
  | Name => cases v <;> rfl
  | Subscript => cases v <;> rfl
  | Tuple ts k1 p1 =>
    cases v with
    | Tuple vs k2 p2 =>
      unfold noSw at h
      dsimp only at h
      unfold swappedStores
      dsimp only
      by_cases c1 : (!(ts.length == 2 || ts.length == 3) || vs.length != ts.length || X.env.blockKind != .function) = true
      · rw [if_pos c1]
      rw [if_neg c1]
      split
      · rfl
      split
      · rfl
      rename_i c3
      split
      · rfl
      rename_i c4
      exfalso
      rw [Bool.or_eq_true] at h
      rcases h with h | h
      · exact c4 h
      · rw [Bool.or_eq_true, not_or] at c3
        have c5 := fm_len (ne_of_bne c3.1)
        have : ts.all (locNm C) = true := by
          rw [List.all_eq_true] at c5 ⊢
          intro e he
          have := c5 e he
          cases e with
          | Name id p =>
            show decide (kindC C id = some .local) = true
            rw [← kind_dec G id]
            dsimp only at this
            split at this
            · rename_i q
              rw [Bool.and_eq_true] at q
              exact q.1
            · cases this
          | _ => cases this
        rw [this] at h
        cases h
    | _ => rfl
  | _ => cases h
theorem par_ok (G : Good C F k X) {x y : Str} {px py pt pt2 : Pos} {a b : Expr} {kt k2 : Nat} (hx : kindC C x = some .local) (hy : kindC C y = some .local) (hl : (px.line == py.line) = true) (hxy : x ≠ y) (na : noStar a = true) (nb : noStar b = true)
    (h1 : [a, b].all (foldedForSure 8) = false) (h2 : [a, b].all (constantsAlone 8) = false) : swappedStores [.Tuple [.Name x px, .Name y py] kt pt] (.Tuple [a, b] k2 pt2) X.env = pure (some [x, y]) := by
  have kx : (X.env.kindOf x == some .local) = true := by rw [kind_dec G, hx]; decide
  have ky : (X.env.kindOf y == some .local) = true := by rw [kind_dec G, hy]; decide
  have hl' : (py.line == px.line) = true := by rw [eq_of_beq hl]; exact beq_self_eq_true _
  have ns : ([a, b].any fun | .Starred .. => true | _ => false) = false := by
    cases a <;> cases b <;> first | rfl | exact absurd na Bool.false_ne_true | exact absurd nb Bool.false_ne_true
  unfold swappedStores
  dsimp only
  rw [blk_fn G]
  simp only [List.head?_cons, Option.map_some, Option.getD_some, Expr.pos, List.filterMap_cons, kx, ky, hl', List.filterMap_nil, h1, h2, ns, Bool.and_true, if_true, beq_self_eq_true]
  have hd : [x, y].eraseDups = [x, y] := by
    have : (y == x) = false := by simpa using hxy.symm
    have : (x == y) = false := by simpa using hxy
    simp [List.eraseDups, List.eraseDupsBy, List.eraseDupsBy.loop, *]
  simp [hd]
  intro hh
  exfalso
  rcases hh with hh | hh
  · cases a <;> first | exact absurd hh Bool.false_ne_true | exact absurd na Bool.false_ne_true
  · cases b <;> first | exact absurd hh Bool.false_ne_true | exact absurd nb Bool.false_ne_true
/-! ### targets -/
theorem asg_sub {o kx : Expr} {pos : Pos} {env : PySem.Env} {v : Value} (h : plainIxC kx = true) : assign (.Subscript o kx pos) env v = (do
      let ov ← holding [v] (eval o env)
      let iv ← holding [v, ov] (eval kx env)
      standAt pos
      holding [v, ov, iv] (setItem ov iv v)
      release [v, ov, iv] []) := by
  cases kx <;> first | rfl | exact absurd h Bool.false_ne_true
theorem nostar_tg {ev : EvT} : ∀ {es : List Expr} {m : List PyData → M Unit}, evGs ev C es = some m → ∀ env : PySem.Env, (assignEach es env).length = es.length ∧ (assignEach es env).findIdx? (·.1) = none
  | [], m, _, env => ⟨rfl, rfl⟩
  | e :: r, m, h, env => by
    unfold evGs at h
    replace h := bd_some h
    obtain ⟨x, h1, h⟩ := h
    replace h := bd_some h
    obtain ⟨y, h2, h⟩ := h
    obtain ⟨g1, g2⟩ := nostar_tg h2 env
    have e1 : assignEach (e :: r) env = (false, assign e env) :: assignEach r env := by
      unfold evG1 at h1
      split at h1
      · rfl
      · rfl
      · cases h1
    rw [e1]
    refine ⟨by rw [List.length_cons, g1, List.length_cons], ?_⟩
    rw [List.findIdx?_cons, g2]
    rfl
variable {ev : EvT} (S : SndE F k ev) {W : WX} (G : Good C F k X) (T : L2N.Takes X W)
include S G T
theorem s_G1 {e : Expr} {m : MU} (h : evG1 ev C e = some m) : PG X e (tG (ky X) W C.p m) ∧ (∀ es, (assignEach (e :: es) X.env).map (·.2) = assign e X.env :: (assignEach es X.env).map (·.2)) := by
  unfold evG1 at h
  split at h
  · replace h := gd_some h
    obtain ⟨h1, h⟩ := h
    replace h := mp_some h
    obtain ⟨i, h2, rfl⟩ := h
    obtain ⟨l1, l2⟩ := G.loc h1
    exact ⟨g_nm G.nodup (G.ix h2) l1 l2, fun es => rfl⟩
  · replace h := gd_some h
    obtain ⟨h1, h⟩ := h
    replace h := bd_some h
    obtain ⟨i, h2, h⟩ := h
    replace h := mp_some h
    obtain ⟨y, h3, rfl⟩ := h
    replace h1 := gdB h1
    obtain ⟨h1, h4⟩ := h1
    obtain ⟨v1, v2, v3⟩ := G.vis h1
    exact ⟨g_sub (G.ix h2) v1 v2 v3 (S C _ _ h3 X W G T) (fun v => asg_sub h4), fun es => rfl⟩
  · cases h
theorem s_Gs : ∀ {es : List Expr} {m : List PyData → M Unit}, evGs ev C es = some m → PGs X es (tGs (ky X) W C.p m)
  | [], m, h => by cases h; exact g_nil
  | e :: r, m, h => by
    unfold evGs at h
    replace h := bd_some h
    obtain ⟨x, h1, h⟩ := h
    replace h := bd_some h
    obtain ⟨y, h2, h⟩ := h
    cases h
    obtain ⟨g1, g2⟩ := s_G1 S G T h1
    exact g_cons g1 (s_Gs h2) (g2 r)
theorem s_G {e : Expr} {m : MU} (h : evG ev C e = some m) : PG X e (tG (ky X) W C.p m) ∧ (assignEach [e] X.env).map (·.2) = [assign e X.env] := by
  unfold evG at h
  split at h
  · replace h := gd_some h
    obtain ⟨h1, h⟩ := h
    replace h := mp_some h
    obtain ⟨x, h2, rfl⟩ := h
    obtain ⟨n1, n2⟩ := nostar_tg h2 X.env
    exact ⟨g_tup (G.calm h1) (s_Gs S G T h2) n1 n2, rfl⟩
  · obtain ⟨g1, g2⟩ := s_G1 S G T h
    exact ⟨g1, g2 []⟩
/-! ### assignments -/
theorem toS_v {x : Str} {i : Nat} {px pos : Pos} {v : Expr} {m : M Od} (hl : locC C x = true) (hi : ixC C x = some i) (hv : ev C v = some m) (hs : swapsWith v (some (.Name x px)) pos.line X.env = pure false) : PS X (.Assign [.Name x px] v pos) (tS (ky X) W C.p (toS C x i m)) := by
  obtain ⟨l1, l2⟩ := G.loc hl
  unfold toS
  split
  · exact v_new G.nodup (G.ix hi) l1 l2 (S C _ _ hv X W G T) hs
  · exact v_set G.nodup (G.ix hi) l1 l2 (S C _ _ hv X W G T) hs
theorem s_Asg {tg v : Expr} {pos : Pos} {m : M Fl} (h : evAsg ev C tg v = some m) (hw : noSw C tg v = true) : PS X (.Assign [tg] v pos) (tS (ky X) W C.p m) := by
  unfold evAsg at h
  split at h
  · split at h
    · split at h
      · rename_i hsw
        replace h := gd_some h
        obtain ⟨h1, h⟩ := h
        replace h1 := gdB h1
        obtain ⟨h1, h2⟩ := h1
        replace h1 := gdB h1
        obtain ⟨c1, h1⟩ := h1
        replace h1 := gdB h1
        obtain ⟨c2, c3⟩ := h1
        replace h2 := gdB h2
        obtain ⟨c4, c5⟩ := h2
        replace h := bd_some h
        obtain ⟨j, h3, h⟩ := h
        replace h := bd_some h
        obtain ⟨i, h3', h⟩ := h
        replace h := gd_some h
        obtain ⟨h4, h⟩ := h
        replace h := bd_some h
        obtain ⟨im, h5, h⟩ := h
        replace h := bd_some h
        obtain ⟨cs, h6, h⟩ := h
        replace h := bd_some h
        obtain ⟨fe, h7, h⟩ := h
        cases h
        have hk := fnK_ok c2
        have hsw' := hsw
        unfold swC at hsw'
        replace hsw' := gdB hsw'
        rw [Bool.or_eq_true] at c1
        rcases c1 with c1 | c1
        · refine v_setLc (st := toS C _ j) (fun fa D σ H h => toS_ok fa D σ H h) (G.calm c1) G.nodup (G.ix h3) (by rw [G.sc]; exact of_decide_eq_true hsw'.1) (by rw [sw_eq G, hsw]) (s_I S G T h5) (by rw [G.N, G.sc]; exact blkOk_by c3) (by simpa using h4) (fun s H D cl fp => s_blkNm G hk c5 h3' s H D cl fp)
                (fun s H D cl fp => s_If S (G.blk hk s H D cl fp) (Good.blkTakes s H D cl fp) h6) (fun s H D cl fp => S _ _ _ h7 _ W0 (G.blk hk s H D cl fp) (Good.blkTakes s H D cl fp)) (folded_no c4)
        · obtain ⟨hi, hh⟩ := s_IH S G T c1 h5
          refine v_setLcH (st := toS C _ j) (fun fa D σ H h => toS_ok fa D σ H h) hh G.nodup (G.ix h3) (by rw [G.sc]; exact of_decide_eq_true hsw'.1) (by rw [sw_eq G, hsw]) hi (by rw [G.N, G.sc]; exact blkOk_by c3) (by simpa using h4) (fun s H D cl fp => s_blkNm G hk c5 h3' s H D cl fp)
                (fun s H D cl fp => s_If S (G.blk hk s H D cl fp) (Good.blkTakes s H D cl fp) h6) (fun s H D cl fp => S _ _ _ h7 _ W0 (G.blk hk s H D cl fp) (Good.blkTakes s H D cl fp)) (folded_no c4)
      · rename_i hsw
        replace h := gd_some h
        obtain ⟨h1, h⟩ := h
        replace h := bd_some h
        obtain ⟨j, h2, h⟩ := h
        replace h := mp_some h
        obtain ⟨y, h3, rfl⟩ := h
        exact toS_v S G T h1 h2 h3 (by rw [sw_eq G]; congr 1; simpa using hsw)
    · replace h := gd_some h
      obtain ⟨h1, h⟩ := h
      replace h1 := gdB h1
      obtain ⟨h1, h1'⟩ := h1
      replace h := bd_some h
      obtain ⟨j, h2, h⟩ := h
      replace h := mp_some h
      obtain ⟨y, h3, rfl⟩ := h
      exact toS_v S G T h1' h2 h3 (by rw [sw_eq G]; congr 1; simpa using h1)
    · replace h := gd_some h
      obtain ⟨h1, h⟩ := h
      replace h1 := gdB h1
      obtain ⟨h1, h1'⟩ := h1
      replace h := bd_some h
      obtain ⟨j, h2, h⟩ := h
      replace h := mp_some h
      obtain ⟨y, h3, rfl⟩ := h
      exact toS_v S G T h1' h2 h3 (swaps_no h1)
  · replace h := gd_some h
    obtain ⟨h1, h⟩ := h
    replace h1 := gdB h1
    obtain ⟨h1, h1'⟩ := h1
    replace h := bd_some h
    obtain ⟨g, h2, h⟩ := h
    replace h := mp_some h
    obtain ⟨y, h3, rfl⟩ := h
    obtain ⟨g1, g2⟩ := s_G S G T h2
    exact v_asg (S C _ _ h3 X W G T) g1 (sole_no h1) (noSw_ok G hw) g2
theorem s_Par {tg v : Expr} {pos : Pos} {m : M Fl} (h : evPar ev C tg v = some m) : PS X (.Assign [tg] v pos) (tS (ky X) W C.p m) := by
  unfold evPar at h
  split at h
  · replace h := gd_some h
    obtain ⟨h1, h⟩ := h
    replace h1 := gdB h1
    obtain ⟨h1, h2⟩ := h1
    replace h1 := gdB h1
    obtain ⟨c1, h1⟩ := h1
    replace h1 := gdB h1
    obtain ⟨k1, k2⟩ := h1
    replace h2 := gdB h2
    obtain ⟨h2, h3⟩ := h2
    replace h2 := gdB h2
    obtain ⟨l1, l2⟩ := h2
    replace h3 := gdB h3
    obtain ⟨h3, h4⟩ := h3
    replace h3 := gdB h3
    obtain ⟨n1, n2⟩ := h3
    replace h4 := gdB h4
    obtain ⟨f1, f2⟩ := h4
    replace h := bd_some h
    obtain ⟨i, e1, h⟩ := h
    replace h := bd_some h
    obtain ⟨j, e2, h⟩ := h
    replace h := gd_some h
    obtain ⟨e3, h⟩ := h
    replace h := bd_some h
    obtain ⟨x, e4, h⟩ := h
    replace h := bd_some h
    obtain ⟨y, e5, h⟩ := h
    cases h
    have k1 := of_decide_eq_true k1
    have k2 := of_decide_eq_true k2
    refine v_par (G.calm c1) G.nodup (G.ix e1) (G.ix e2) (by simpa using e3) (by rw [G.sc]; exact k1) (by rw [G.sc]; exact k2) (S C _ _ e4 X W G T) (S C _ _ e5 X W G T) n1 n2 (par_ok G k1 k2 l1 (by simpa using l2) n1 n2 ((Bool.not_eq_true' _).mp f1) ((Bool.not_eq_true' _).mp f2)) (sole_no rfl)
  · cases h
end
end VL

/-! VW: suites are right. -/
namespace VL
open PySem PySem.Spec PyProof.Rows L2
theorem w0_all {X : Cx} : L2N.Takes X W0 := fun u s' ⟨a, B, sI, pins, σ, H, cls, d, e, I, nb, up, sky, na, os, ag, w⟩ => False.elim w
theorem names_of {C : Cc} {F : FT} {k : Nat} {X : Cx} (G : Good C F k X) {x : Str} (h1 : glC C x = true) (h2 : C.g.excs.contains x = true) : ∃ cc, ExcOk X.K X.mg x cc ∧ Names X x (.ref cc) ∧ AncOk X C.g.anc x (.ref cc) := by
  have hm : x ∈ C.g.excs := by simpa using h2
  obtain ⟨cc, q⟩ := G.wf.excs x hm
  exact ⟨cc, q, ⟨(G.gl h1).1, (G.gl h1).2, .inl q.mg⟩, fun kk l D ql hD => (G.wf.anc kk l D x _ ql hD hm q.mg).1⟩
theorem ve_facts : ExcBaseFacts "ValueError" "ValueError.__new__" "ValueError.__init__" veB := PySem.F.excBase_ValueError
/-- suites -/
theorem sndS {F : FT} {k : Nat} {ev : EvT} (S : SndE F k ev) (fu : Nat) : ∀ (n : Nat) (C : Cc) (ss : List Stmt) (m : M Fl), evS F ev fu n C ss = some m → ∀ X W, GoodS C F k X → L2N.Takes X W → PSs X ss (tS (ky X) W C.p m)
  | 0, C, ss, m, h => by cases h
  | n + 1, C, [], m, h => by
    cases h
    exact fun X W G T => v_nilS
  | n + 1, C, s :: r, m, h => by
    unfold evS at h
    dsimp only at h
    replace h := bd_some h
    obtain ⟨a, h1, h⟩ := h
    have one : ∀ X W, GoodS C F k X → L2N.Takes X W → PS X s (tS (ky X) W C.p a) := by
      intro X W G T
      clear h
      split at h1
      · cases h1; exact v_doc
      · replace h1 := gd_some h1
        obtain ⟨g1, h1⟩ := h1
        replace h1 := mp_some h1
        obtain ⟨x, g2, rfl⟩ := h1
        exact v_expr (S C _ _ g2 X W G.toGood T) (swaps_no g1)
      · cases h1; exact v_retN
      · replace h1 := mp_some h1
        obtain ⟨x, g2, rfl⟩ := h1
        exact v_ret (S C _ _ g2 X W G.toGood T)
      · cases h1; exact v_pass
      · cases h1; exact v_brk
      · cases h1; exact v_cnt
      · split at h1
        · rename_i hw
          exact s_Asg S G.toGood T h1 hw
        · exact s_Par S G.toGood T h1
      · replace h1 := bd_some h1
        obtain ⟨t, g1, h1⟩ := h1
        replace h1 := bd_some h1
        obtain ⟨x, g2, h1⟩ := h1
        replace h1 := bd_some h1
        obtain ⟨y, g3, h1⟩ := h1
        cases h1
        exact v_if (s_T S G.toGood T g1) (sndS S fu n C _ _ g2 X W G T) (sndS S fu n C _ _ g3 X W G T)
      · replace h1 := gd_some h1
        obtain ⟨g0, h1⟩ := h1
        replace g0 := gdB g0
        obtain ⟨c1, c2⟩ := g0
        replace h1 := bd_some h1
        obtain ⟨im, g1, h1⟩ := h1
        replace h1 := bd_some h1
        obtain ⟨x, g2, h1⟩ := h1
        replace h1 := bd_some h1
        obtain ⟨y, g3, h1⟩ := h1
        cases h1
        exact v_for (G.ps c1) (G.calm c1) (s_I S G.toGood T g1) (s_G S G.toGood T g2).1 (sndS S fu n C _ _ g3 X W G T) (folded_no c2)
      · replace h1 := gd_some h1
        obtain ⟨c1, h1⟩ := h1
        replace h1 := bd_some h1
        obtain ⟨t, g1, h1⟩ := h1
        replace h1 := bd_some h1
        obtain ⟨x, g2, h1⟩ := h1
        cases h1
        exact v_while (G.ps c1) (s_T S G.toGood T g1) (sndS S fu n C _ _ g2 X W G T)
      · replace h1 := gd_some h1
        obtain ⟨g0, h1⟩ := h1
        replace g0 := gdB g0
        obtain ⟨c1, g0⟩ := g0
        replace g0 := gdB g0
        obtain ⟨c2, g0⟩ := g0
        replace g0 := gdB g0
        obtain ⟨c3, c4⟩ := g0
        replace h1 := mp_some h1
        obtain ⟨x, g2, rfl⟩ := h1
        obtain ⟨cc, q, _, _⟩ := names_of G.toGood c2 c3
        exact v_raise ve_facts q.ex q.mg q.keep (raises_own q.sub q.ty) (G.gl c2).1 (G.gl c2).2 (G.calm c1) T (S C _ _ g2 X W G.toGood T) c4
      · replace h1 := gd_some h1
        obtain ⟨g0, h1⟩ := h1
        replace g0 := gdB g0
        obtain ⟨c1, g0⟩ := g0
        replace g0 := gdB g0
        obtain ⟨c2, c3⟩ := g0
        replace h1 := bd_some h1
        obtain ⟨x, g1, h1⟩ := h1
        replace h1 := bd_some h1
        obtain ⟨y, g2, h1⟩ := h1
        cases h1
        obtain ⟨cc, q, nm, an⟩ := names_of G.toGood c2 c3
        exact v_try G.st G.fr nm T an (fun W' pn xe T' hp => sndS S fu n { C with hotc := false } _ _ g1 (X.tr pn xe) W' (G.tr hp) T') (fun b oe pn hz => sndS S fu n { C with calm := false, hotc := true } _ _ g2 (X.suite b ((b, oe) :: pn)) W0 (G.suite b oe pn hz) w0_all)
      · replace h1 := gd_some h1
        obtain ⟨g0, h1⟩ := h1
        replace g0 := gdB g0
        obtain ⟨g0, c4⟩ := g0
        replace g0 := gdB g0
        obtain ⟨c1, g0⟩ := g0
        replace g0 := gdB g0
        obtain ⟨c2, c3⟩ := g0
        replace h1 := bd_some h1
        obtain ⟨i, g1, h1⟩ := h1
        replace h1 := gd_some h1
        obtain ⟨c5, h1⟩ := h1
        replace h1 := bd_some h1
        obtain ⟨x, g2, h1⟩ := h1
        replace h1 := bd_some h1
        obtain ⟨y, g3, h1⟩ := h1
        cases h1
        obtain ⟨cc, q, nm, an⟩ := names_of G.toGood c2 c3
        exact v_tryAs G.st G.fr G.nodup (G.ix g1) (by have := of_decide_eq_true c5; omega) (by show X.env.scope.names.lookup _ = _; rw [G.sc]; exact of_decide_eq_true c4) nm T an (fun W' pn xe T' hp => sndS S fu n { C with hotc := false } _ _ g2 (X.tr pn xe) W' (G.tr hp) T') (fun b oe pn hz => sndS S fu n { C with calm := false, hotc := true } _ _ g3 (X.suite b ((b, oe) :: pn)) W0 (G.suite b oe pn hz) w0_all)
      · cases h1
    intro X W G T
    cases r with
    | nil =>
      cases h
      exact v_one (one X W G T)
    | cons s2 r2 =>
      replace h := mp_some h
      obtain ⟨y, h2, rfl⟩ := h
      exact v_seq (one X W G T) (sndS S fu n C _ _ h2 X W G T)
end VL

/-! VX: defs. -/
namespace VL
open PySem PySem.Spec PyProof.Rows L2
structure Df where
  name : Str
  ps : List Str
  N : List Str
  sc : Scope
  body : List Stmt
  own : List Str
  io : Bool
  dfl : List D
  scr : List Str
def Df.cc (g : Gt) (d : Df) : Cc := ⟨g, d.N, d.sc, true, d.sc, d.own, if d.io = true then 1 else 0, true, false, d.scr⟩
/-- of a def that is called in an except suite -/
def Df.ccH (g : Gt) (d : Df) : Cc := ⟨g, d.N, d.sc, true, d.sc, d.own, 0, false, true, d.scr⟩
def Df.sg (d : Df) : Sig := ⟨d.ps.length, d.io, d.dfl⟩
def Df.run (d : Df) (m : FT → M Fl) : FT → List Slot → R1 := fun F => runB d.io d.N.length (m F)
/-- the arguments stand at the def's start -/
theorem gt_args : ∀ (args : List Slot) (n i : Nat), gt (args ++ List.replicate n .no) i = (args[i]?).getD .no
  | [], n, i => by
    rw [List.nil_append]
    induction n generalizing i with
    | zero => cases i <;> rfl
    | succ n ih =>
      rw [List.replicate_succ]
      cases i with
      | zero => rfl
      | succ i => exact ih i
  | a :: r, n, 0 => rfl
  | a :: r, n, i + 1 => gt_args r n i
theorem args_at {K : PySem.W.Frag} {H0 H : Hp} : ∀ {ss : List Slot} {vs : List V} {i : Nat} {s : Slot}, RepArgs K H0 H ss vs → ss[i]? = some s → ∃ v, vs[i]? = some v ∧ RepArg K H0 H s v
  | [], vs, i, s, h, e => by simp at e
  | a :: r, vs, 0, s, ⟨v, t, e1, h1, h2⟩, e => by
    cases e
    subst e1
    exact ⟨v, rfl, h1⟩
  | a :: r, vs, i + 1, s, ⟨v, t, e1, h1, h2⟩, e => by
    subst e1
    exact args_at (i := i) h2 e
theorem start_at {N : List Str} {vs : List V} {i : Nat} {v : V} (h : vs[i]? = some v) : (L2.start N vs)[i]? = some (some v) := by
  have hi : i < vs.length := by
    rcases Nat.lt_or_ge i vs.length with h' | h'
    · exact h'
    · rw [List.getElem?_eq_none h'] at h; cases h
  unfold L2.start
  rw [List.getElem?_append_left (by simpa using hi), List.getElem?_map, h]
  rfl
/-- only the first argument may be owned -/
theorem own0 {args : List Slot} {n i : Nat} {o : Own} (ha : (args.drop 1).all (fun s => !isOwS s) = true) (h : gt (args ++ List.replicate n .no) i = .ow o) : i = 0 ∧ ∃ r, args = .ow o :: r := by
  rw [gt_args] at h
  cases args with
  | nil => simp at h
  | cons a r =>
    cases i with
    | zero =>
      have h : a = .ow o := h
      exact ⟨rfl, r, by rw [h]⟩
    | succ i =>
      exfalso
      rw [List.getElem?_cons_succ] at h
      cases e : r[i]? with
      | none => rw [e] at h; cases h
      | some s =>
        rw [e] at h
        have h : s = .ow o := h
        subst h
        have := List.all_eq_true.mp ha _ (List.mem_of_getElem? e)
        cases this
theorem rep_start {Y : Ky} {N : List Str} {H0 H : Hp} {args : List Slot} {vs : List V} (sm : Same H0 H) (r : RepArgs Y.K H0 H args vs) (hl : vs.length ≤ N.length) (ha : (args.drop 1).all (fun s => !isOwS s) = true) : Rep Y (args ++ List.replicate (N.length - args.length) .no) H0 (L2.start N vs) H := by
  have ln := r.length
  have at_ : ∀ i s, gt (args ++ List.replicate (N.length - args.length) .no) i = s → s ≠ .no → ∃ v, (L2.start N vs)[i]? = some (some v) ∧ RepArg Y.K H0 H s v := fun i s h n => by
    rw [gt_args] at h
    cases e : args[i]? with
    | none => rw [e] at h; exact absurd h.symm n
    | some t =>
      rw [e] at h
      have h : t = s := h
      subst h
      obtain ⟨v, h1, h2⟩ := args_at r e
      exact ⟨v, start_at h1, h2⟩
  refine ⟨?_, sm, fun i d h => at_ i _ h (by simp), fun i o h => ?_, fun i j o o' a h1 h2 _ _ => ?_, fun i c h => ?_, fun i ns h => ?_⟩
  · unfold L2.start
    rw [List.length_append, List.length_append, List.length_replicate, List.length_replicate, List.length_map, ln]
  · obtain ⟨v, h1, a, ho, rfl, h2, h3, h4⟩ := at_ i _ h (by simp)
    exact ⟨a, ho, h1, h2, h3, h4⟩
  · rw [(own0 ha h1).1, (own0 ha h2).1]
  · obtain ⟨v, h1, h2⟩ := at_ i _ h (by simp)
    exact False.elim h2
  · obtain ⟨v, h1, a, rfl, h2⟩ := at_ i _ h (by simp)
    exact ⟨a, h1, h2⟩
/-- what a def may have done, told at its end -/
theorem fn_end {Y : Ky} {N : List Str} {H0 H H0' H' : Hp} {args : List Slot} {vs : List V} {Γ' : VL.Env} {σ' : St} {io : Bool} {out : List Slot} (r0 : RepArgs Y.K H0 H args vs) (ha : (args.drop 1).all (fun s => !isOwS s) = true) (hio : headOw args = io)
    (r : Rep Y Γ' H0' σ' H') (s : StS (if io = true then 1 else 0) (args ++ List.replicate (N.length - args.length) .no) (L2.start N vs) H0 H Γ' σ' H0' H') (ho : io = true → ∃ o q, Γ' = .ow o :: q ∧ out = [.ow o]) :
    FnSt (argA args vs) H0 H H0' H' ∧ OutOk H0' H' args vs out ∧ ∀ b, Owp (if io = true then 1 else 0) (args ++ List.replicate (N.length - args.length) .no) (L2.start N vs) b → False := by
  have ow_of : ∀ {b}, Ow (args ++ List.replicate (N.length - args.length) .no) (L2.start N vs) b → ∃ o q t, args = .ow o :: q ∧ vs = .ref b :: t := fun {b} ⟨i, o, h1, h2⟩ => by
    obtain ⟨rfl, q, e⟩ := own0 ha h1
    subst e
    obtain ⟨v, t, e1, ⟨a, ho', e2, _⟩, _⟩ := r0
    subst e1 e2
    rw [start_at (i := 0) (v := V.ref a) rfl] at h2
    cases h2
    exact ⟨o, q, t, rfl, rfl⟩
  -- the first argument's own object at the end
  have out0 : ∀ {b o q t}, args = .ow o :: q → vs = .ref b :: t → ∃ o', out = [.ow o'] ∧ H0' b = none ∧ ∃ ho, H' b = some ho ∧ RepO H0' o' ho := fun {b o q t} e1 e2 => by
    subst e1 e2
    have hio' : io = true := hio.symm
    subst hio'
    obtain ⟨o', q', e3, e4⟩ := ho rfl
    subst e3 e4
    obtain ⟨a, ho2, f1, f2, f3, f4⟩ := r.ow 0 o' rfl
    rw [s.pr 0 (by decide), start_at (i := 0) (v := V.ref b) rfl] at f1
    cases f1
    exact ⟨o', rfl, f2, ho2, f3, f4⟩
  refine ⟨⟨s.fr, r.same, fun b hb => ?_, fun b o hb n => s.ke b o hb fun z => ?_, s.dm⟩, ?_, fun b ⟨i, o, h1, h2, h3⟩ => ?_⟩
  · rcases s.nf b hb with h | h | h
    · exact .inl h
    · exact .inr h
    · obtain ⟨o, q, t, e1, e2⟩ := ow_of h
      obtain ⟨_, _, f, _⟩ := out0 e1 e2
      exact absurd f hb
  · obtain ⟨o', q, t, e1, e2⟩ := ow_of z
    subst e1 e2
    exact n rfl
  · cases args with
    | nil => exact trivial
    | cons a q =>
      cases a with
      | ow o =>
        obtain ⟨v, t, e1, ⟨b, ho', e2, _⟩, _⟩ := r0
        subst e1 e2
        obtain ⟨o', e3, _, ho2, e4, e5⟩ := out0 rfl rfl
        exact ⟨o', ho2, e3, e4, e5⟩
      | _ => exact trivial
  · obtain ⟨rfl, q, e⟩ := own0 ha h2
    subst e
    have hio' : io = true := hio.symm
    subst hio'
    simp at h1
theorem finB_ok {io : Bool} {Γ : VL.Env} {k : List Slot → R1} {P : R1 → Prop} (h : P (finB io Γ k)) (hb : ¬ P .bad) : ∃ out, (io = true → ∃ o q, Γ = .ow o :: q ∧ out = [.ow o]) ∧ P (k out) := by
  unfold finB at h
  cases io with
  | false => exact ⟨[], fun z => Bool.noConfusion z, h⟩
  | true =>
    rw [if_pos rfl] at h
    split at h
    · exact ⟨_, fun _ => ⟨_, _, rfl, rfl⟩, h⟩
    · exact absurd h hb
/-- a def by its body's meaning -/
theorem fk_step {P : Program} {w : World} {K : PySem.W.Frag} {mg : Str → Option Value} {base : Heap} {k fu n : Nat} {g : Gt} {d : Df} {m : M Fl} {F : FT} {args : Arguments} {dvs : List V} {a : Addr} {fd : FuncData} (wf : Wf g K mg) (hk : ∀ f sg, g.defs.lookup f = some sg → Fk P w K mg base k f sg (F f)) (hh : ∀ f, f ∈ g.hots → Fh P w K mg base k f (F f))
    (hF : FunD K d.name d.name args d.body d.sc dvs [] a fd) (S : FnScope d.N d.ps d.sc) (ev : evS F (evE F n) fu n (d.cc g) d.body = some m) : FnOk P w K mg base (L2N.CX P w) (k + 1) a fd d.ps (spF K mg d.ps.length (runB d.io d.N.length m)) := by
  have hpl : d.ps.length ≤ d.N.length := by have := congrArg List.length S.pre; rw [List.length_take] at this; omega
  refine hF.ok S (fun vs H Q E ⟨H0, args, _, h, _⟩ => h) fun cdv A outer s H vs Q E hr hsp => ?_
  refine ⟨tS ⟨K, mg, []⟩ (fun cls d _ H => E cls d H) (d.cc g).p m, sndS (snd F k n) fu n (d.cc g) d.body m ev _ _ ⟨⟨rfl, S.nd, rfl, S.kind, fun _ _ => rfl, fun _ => rfl, ?_, wf, fun _ => hr, hk, L2H.roomH_of hr, fun h => (Bool.noConfusion (show false = true from h)), hh⟩, fun _ => passes_of rfl, rfl, rfl⟩ (L2N.takes_of rfl rfl rfl rfl), ?_⟩
  · have := hr.un
    show (A.deeper _).units + 65 < cLine
    omega
  · obtain ⟨H0, ss, sm, hl, r0, ha, hR⟩ := hsp
    unfold runB at hR
    by_cases hio : headOw ss = d.io
    · rw [if_pos hio] at hR
      refine ⟨ss ++ List.replicate (d.N.length - ss.length) .no, H0, rep_start (Y := ⟨K, mg, []⟩) sm r0 (by omega) ha, ?_⟩
      cases q : m (ss ++ List.replicate (d.N.length - ss.length) .no) with
      | bad => rw [q] at hR; exact hR
      | ex c Γ' =>
        rw [q] at hR
        obtain ⟨out, ho, hR⟩ := finB_ok (P := fun r => match r with
          | .ok r out => ∀ v H0' H', FnSt (argA ss vs) H0 H H0' H' → OutOk H0' H' ss vs out → RepRs H H0' H' r v → Q v H'
          | .ex c out => ∀ C H0' H', mg c = some (.ref C) → FnSt (argA ss vs) H0 H H0' H' → OutOk H0' H' ss vs out → E (.ref C) none H'
          | .bad => False) hR (fun z => z)
        intro C σ' H0' H' hC r s
        obtain ⟨f1, f2, _⟩ := fn_end (N := d.N) r0 ha hio r s ho
        exact hR C H0' H' hC f1 f2
      | ok fl Γ' =>
        rw [q] at hR
        cases fl with
        | nx =>
          obtain ⟨out, ho, hR⟩ := finB_ok (P := fun r => match r with
            | .ok r out => ∀ v H0' H', FnSt (argA ss vs) H0 H H0' H' → OutOk H0' H' ss vs out → RepRs H H0' H' r v → Q v H'
            | .ex c out => ∀ C H0' H', mg c = some (.ref C) → FnSt (argA ss vs) H0 H H0' H' → OutOk H0' H' ss vs out → E (.ref C) none H'
            | .bad => False) hR (fun z => z)
          intro σ' H0' H' r s
          obtain ⟨f1, f2, _⟩ := fn_end (N := d.N) r0 ha hio r s ho
          exact hR .non H0' H' f1 f2 .non
        | rt rs =>
          obtain ⟨out, ho, hR⟩ := finB_ok (P := fun r => match r with
            | .ok r out => ∀ v H0' H', FnSt (argA ss vs) H0 H H0' H' → OutOk H0' H' ss vs out → RepRs H H0' H' r v → Q v H'
            | .ex c out => ∀ C H0' H', mg c = some (.ref C) → FnSt (argA ss vs) H0 H H0' H' → OutOk H0' H' ss vs out → E (.ref C) none H'
            | .bad => False) hR (fun z => z)
          intro σ' H0' H' r s v hv
          obtain ⟨f1, f2, f3⟩ := fn_end (N := d.N) r0 ha hio r s ho
          refine hR v H0' H' f1 f2 ?_
          cases rs with
          | d dd => exact hv
          | fl ds =>
            obtain ⟨p, us, e, h1, h2, h3, h4⟩ := hv
            rcases h4 with h4 | h4
            · exact ⟨p, us, e, h4, h1, h2, h3⟩
            · exact absurd h4 (f3 p)
        | bk => exact False.elim hR
        | ct => exact False.elim hR
    · rw [if_neg hio] at hR
      exact False.elim hR
/-- the handled exception stands in the first slot -/
theorem rep_hot {Y : Ky} {N : List Str} {H0 H : Hp} {c : Str} {a : Addr} (sm : Same H0 H) (hN : N.length ≠ 0) (e : ExAt Y a c) : Rep Y (.xc c :: List.replicate (N.length - 1) .no) H0 (L2.start N [.ref a]) H := by
  have at_ : ∀ i s, gt (.xc c :: List.replicate (N.length - 1) .no) i = s → s ≠ .no → i = 0 ∧ s = .xc c := fun i s h n => by
    cases i with
    | zero => exact ⟨rfl, h.symm⟩
    | succ i =>
      exfalso
      have h : gt (List.replicate (N.length - 1) Slot.no) i = s := h
      have := gt_args [] (N.length - 1) i
      rw [List.nil_append] at this
      rw [this] at h
      exact n h.symm
  refine ⟨?_, sm, fun i d h => ?_, fun i o h => ?_, fun i j o o' b h _ _ _ => ?_, fun i k h => ?_, fun i ns h => ?_⟩
  · unfold L2.start
    rw [List.length_cons, List.length_append, List.length_replicate, List.length_replicate, List.length_map]
    show _ = 1 + (N.length - 1)
    omega
  · cases (at_ i _ h (by simp)).2
  · cases (at_ i _ h (by simp)).2
  · cases (at_ i _ h (by simp)).2
  · obtain ⟨rfl, h2⟩ := at_ i _ h (by simp)
    cases h2
    exact ⟨a, start_at rfl, e⟩
  · cases (at_ i _ h (by simp)).2
theorem fh_step {P : Program} {w : World} {K : PySem.W.Frag} {mg : Str → Option Value} {base : Heap} {k fu n : Nat} {g : Gt} {d : Df} {m : M Fl} {F : FT} {args : Arguments} {dvs : List V} {a : Addr} {fd : FuncData} (wf : Wf g K mg) (hk : ∀ f sg, g.defs.lookup f = some sg → Fk P w K mg base k f sg (F f))
    (hh : ∀ f, f ∈ g.hots → Fh P w K mg base k f (F f)) (hF : FunD K d.name d.name args d.body d.sc dvs [] a fd) (S : FnScope d.N d.ps d.sc) (hp : d.ps.length = 1) (hio : d.io = false) (ev : evS F (evE F n) fu n (d.ccH g) d.body = some m) :
    FnHp P w K mg base (L2N.CX P w) (k + 1) a fd d.ps (spH K mg (runB d.io d.N.length m)) := by
  have hpl : d.ps.length ≤ d.N.length := by have := congrArg List.length S.pre; rw [List.length_take] at this; omega
  refine fn_hot hF S (fun q vs H Q E ⟨H0, c, C, _, h, _⟩ => by rw [h, hp]; rfl) fun cdv A outer s H vs Q E p q hot hr hsp => ?_
  refine ⟨tS ⟨K, mg, [p, q]⟩ W0 (d.ccH g).p m, sndS (snd F k n) fu n (d.ccH g) d.body m ev _ _ ⟨⟨rfl, S.nd, rfl, S.kind, fun _ _ => rfl, fun h => (Bool.noConfusion (show false = true from h)), ?_, wf, fun h => (Bool.noConfusion (show false = true from h)), hk, hr, fun _ => ⟨p, hot, List.mem_cons_self⟩, hh⟩, fun h => (Bool.noConfusion (show false = true from h)), rfl, rfl⟩ w0_all, ?_⟩
  · have := hr.un
    show (A.deeper _).units + 65 < cLine
    omega
  · obtain ⟨H0, c, C, sm, rfl, hz, hf, hC, hR⟩ := hsp
    unfold runB at hR
    rw [if_pos (show headOw [Slot.xc c] = d.io from hio.symm)] at hR
    have r0 : Rep ⟨K, mg, [p, q]⟩ ([Slot.xc c] ++ List.replicate (d.N.length - [Slot.xc c].length) .no) H0 (L2.start d.N [.ref q.1]) H := rep_hot sm (by omega) ⟨q.2, C, List.mem_cons_of_mem _ List.mem_cons_self, hz, hf, hC⟩
    have noOw : ∀ b, ¬ Ow ([Slot.xc c] ++ List.replicate (d.N.length - [Slot.xc c].length) .no) (L2.start d.N [.ref q.1]) b := fun b ⟨i, o, h1, _⟩ => by
      rw [gt_args] at h1
      cases i with
      | zero => cases h1
      | succ i => cases h1
    refine ⟨_, H0, r0, ?_⟩
    have fin : ∀ {Γ' : VL.Env} {σ' : L2.St} {H0' H' : Hp}, Rep ⟨K, mg, [p, q]⟩ Γ' H0' σ' H' → StS (d.ccH g).p ([Slot.xc c] ++ List.replicate (d.N.length - [Slot.xc c].length) .no) (L2.start d.N [.ref q.1]) H0 H Γ' σ' H0' H' → FnSt (fun _ => False) H0 H H0' H' := fun {Γ' σ' H0' H'} r t =>
      ⟨t.fr, r.same, fun b hb => (t.nf b hb).elim .inl fun z => z.elim .inr fun z => absurd z (noOw b), fun b o hb _ => t.ke b o hb (noOw b), t.dm⟩
    cases e : m ([Slot.xc c] ++ List.replicate (d.N.length - [Slot.xc c].length) .no) with
    | bad => rw [e] at hR; exact False.elim hR
    | ex c Γ' =>
      rw [e] at hR
      unfold endB finB at hR
      rw [hio] at hR
      exact False.elim hR
    | ok fl Γ' =>
      rw [e] at hR
      cases fl with
      | nx =>
        unfold endB finB at hR
        rw [hio] at hR
        exact fun σ' H0' H' r t => hR .non H0' H' (fin r t) .non
      | rt rs =>
        unfold endB finB at hR
        rw [hio] at hR
        intro σ' H0' H' r t v hv
        refine hR v H0' H' (fin r t) ?_
        cases rs with
        | d dd => exact hv
        | fl ds =>
          obtain ⟨b, us, e1, h1, h2, h3, h4⟩ := hv
          rcases h4 with h4 | ⟨i, o, _, h4, h5⟩
          · exact ⟨b, us, e1, h4, h1, h2, h3⟩
          · exact absurd ⟨i, o, h4, h5⟩ (noOw b)
      | bk => exact False.elim hR
      | ct => exact False.elim hR
/-- what is known of a def of the table -/
structure DP (g : Gt) (tb : Tb) (K : PySem.W.Frag) (mg : Str → Option Value) (fu n : Nat) (f : Str) (sg : Sig) : Prop where
  ex : ∃ (d : Df) (m : FT → M Fl) (args : Arguments) (dvs : List V) (a : Addr) (fd : FuncData), d.name = f ∧ d.sg = sg ∧ tb.lookup f = some (d.run m) ∧ mg f = some (.ref a) ∧ FunD K d.name d.name args d.body d.sc dvs [] a fd ∧ FnScope d.N d.ps d.sc ∧
    (∀ F, evS F (evE F n) fu n (d.cc g) d.body = some (m F)) ∧
    ∀ j, j ≤ sg.np → sg.np ≤ j + sg.dfl.length → ∃ dvs ds, Vals dvs ds ∧ Binds K fd d.ps ds ∧ dvs.length = sg.np - j ∧ ∀ H, VdAll H dvs (sg.dfl.drop (sg.dfl.length + j - sg.np))
/-- of a def that is called in an except suite -/
structure DH (g : Gt) (tb : Tb) (K : PySem.W.Frag) (mg : Str → Option Value) (fu n : Nat) (f : Str) : Prop where
  ex : ∃ (d : Df) (m : FT → M Fl) (args : Arguments) (dvs : List V) (a : Addr) (fd : FuncData), d.name = f ∧ tb.lookup f = some (d.run m) ∧ mg f = some (.ref a) ∧ FunD K d.name d.name args d.body d.sc dvs [] a fd ∧ FnScope d.N d.ps d.sc ∧ d.ps.length = 1 ∧ d.io = false ∧
    (∀ F, evS F (evE F n) fu n (d.ccH g) d.body = some (m F)) ∧ Binds K fd d.ps []
theorem runK_at {tb : Tb} {k : Nat} {f : Str} {d : Df} {m : FT → M Fl} (e : tb.lookup f = some (d.run m)) : runK tb (k + 1) f = runB d.io d.N.length (m (runK tb k)) := by
  funext args
  show (match tb.lookup f with
    | some m => m (runK tb k) args
    | none => .bad) = _
  rw [e]
  rfl
theorem fk_all {P : Program} {w : World} {K : PySem.W.Frag} {mg : Str → Option Value} {base : Heap} {fu n : Nat} {g : Gt} {tb : Tb} (wf : Wf g K mg) (hd : ∀ f sg, g.defs.lookup f = some sg → DP g tb K mg fu n f sg) (hh : ∀ f, f ∈ g.hots → DH g tb K mg fu n f) :
    ∀ k : Nat, (∀ (f : Str) (sg : Sig), g.defs.lookup f = some sg → Fk P w K mg base k f sg (runK tb k f)) ∧ ∀ f, f ∈ g.hots → Fh P w K mg base k f (runK tb k f)
  | 0 => by
    refine ⟨fun f sg h => ?_, fun f h => ?_⟩
    · obtain ⟨d, m, args, dvs, a, fd, e1, e2, e3, e4, e5, e6, e7, e8⟩ := (hd f sg h).ex
      have no : ∀ vs H Q E, ¬ spF K mg sg.np (runK tb 0 f) vs H Q E := fun vs H Q E ⟨H0, ss, _, _, _, _, z⟩ => z
      exact ⟨a, fd, d.ps, e4, e5.kp, ⟨fun vs H Q E z => absurd z (no _ _ _ _), fun A outer s H args us vs Q E _ _ _ _ z => absurd z (no _ _ _ _)⟩, e8⟩
    · obtain ⟨d, m, args, dvs, a, fd, e1, e3, e4, e5, e6, e7, e8, e9, e10⟩ := (hh f h).ex
      have no : ∀ q vs H Q E, ¬ spH K mg (runK tb 0 f) q vs H Q E := fun q vs H Q E ⟨H0, c, C, _, _, _, _, _, z⟩ => z
      exact ⟨a, fd, d.ps, e4, e5.kp, ⟨fun q vs H Q E z => absurd z (no _ _ _ _ _), fun A outer s H args us vs Q E p q _ _ _ _ _ _ _ z => absurd z (no _ _ _ _ _)⟩, e10⟩
  | k + 1 => by
    obtain ⟨ih1, ih2⟩ := fk_all (P := P) (w := w) (base := base) wf hd hh k
    refine ⟨fun f sg h => ?_, fun f h => ?_⟩
    · obtain ⟨d, m, args, dvs, a, fd, e1, e2, e3, e4, e5, e6, e7, e8⟩ := (hd f sg h).ex
      have q := fk_step (P := P) (w := w) (base := base) (k := k) wf ih1 ih2 e5 e6 (e7 (runK tb k))
      refine ⟨a, fd, d.ps, e4, e5.kp, ?_, e8⟩
      rw [runK_at e3, ← e2]
      exact q
    · obtain ⟨d, m, args, dvs, a, fd, e1, e3, e4, e5, e6, e7, e8, e9, e10⟩ := (hh f h).ex
      have q := fh_step (P := P) (w := w) (base := base) (k := k) wf ih1 ih2 e5 e6 e7 e8 (e9 (runK tb k))
      refine ⟨a, fd, d.ps, e4, e5.kp, ?_, e10⟩
      rw [runK_at e3]
      exact q
end VL

/-! VY: what a head hands over. -/
namespace VL
open PySem PySem.Spec PyProof.Rows L2
def AllP {α : Type} (P : α → Prop) : List α → Prop
  | [] => True
  | a :: r => P a ∧ AllP P r
theorem AllP.mem {α : Type} {P : α → Prop} : ∀ {l : List α}, AllP P l → ∀ a, a ∈ l → P a
  | [], _, a, h => by cases h
  | b :: r, ⟨h1, h2⟩, a, h => by
    rcases List.mem_cons.mp h with e | e
    · rw [e]; exact h1
    · exact AllP.mem h2 a e
theorem AllP.look {β : Type} {P : Str × β → Prop} {l : List (Str × β)} (h : AllP P l) (f : Str) (b : β) (e : l.lookup f = some b) : P (f, b) := h.mem _ (PySem.mem_of_lookup e)
section
variable {K : PySem.W.Frag} {h : Heap} {mg : Str → Option Value}
/-- all that is asked of an exception's class -/
def excB (K : PySem.W.Frag) (C : Addr) : Bool :=
  PySem.W.excIn K C veB "ValueError.__new__" && (PySem.W.keepIn K (.ref C) && (decide (PySem.W.subIn K (.ref C) (.type "BaseException") = some true) && (decide (PySem.W.typeIn K (.ref C) = some (.type "type")) &&
  (decide (PySem.W.findIn K (.ref C) "__getattribute__" = some (some (.builtin "BaseException.__getattribute__"))) && (decide (PySem.W.findIn K (.ref C) "__getattr__" = some none) && (PySem.W.hasDictIn K C &&
  (decide (PySem.W.findIn K (.ref C) "__class__" = some (some (.builtin "object.__class__"))) && (decide (PySem.W.specialIn K (.builtin "object.__class__") "__get__" = some (some (.builtin "getset_descriptor.__get__"))) &&
  (decide (PySem.W.takesIn K (.builtin "object.__class__") = some true) && decide (PySem.W.mroIn K C (.type "object") = some true))))))))))
theorem excB_ok {x : Str} {C : Addr} (X : K.In h) (G : h.Ns mainGlobals mg) (a : PySem.W.nsIn K mainGlobals x = some (some (.ref C))) (b : excB K C = true) : ExcOk K mg x C := by
  unfold excB at b
  simp only [Bool.and_eq_true, decide_eq_true_eq] at b
  obtain ⟨b1, b2, b3, b4, b5, b6, b7, b8, b9, b10, b11⟩ := b
  exact ⟨PySem.W.mg_of X G a, b1, b2, b3, b4, ⟨b5, b6, b3, b7, b8, b9, b10, b11⟩⟩
/-- k against the classes xs: among l or not -/
def ancB (K : PySem.W.Frag) (Ck : Addr) (l : List Str) (xs : List (Str × Addr)) : Bool :=
  decide (PySem.W.kitOne K (.ref Ck) (.type "ValueError") = some true) && xs.all fun p => decide (PySem.W.exmOne K (.ref Ck) (.ref p.2) = some (l.contains p.1)) && decide (PySem.W.kitOne K (.ref Ck) (.ref p.2) = some (l.contains p.1))
theorem wf_mk {g : Gt} (X : K.In h) (G : h.Ns mainGlobals mg) (xs : List (Str × Addr)) (nums : AllP (fun p => ∃ t, PySem.W.nsIn K mainGlobals p.1 = some (some (.int p.2 t))) g.nums) (txts : AllP (fun p => ∃ t, PySem.W.nsIn K mainGlobals p.1 = some (some (.str p.2 t))) g.txts)
    (free : AllP (fun x => PySem.W.nsIn K mainGlobals x = some none) g.free) (hx : xs.map (·.1) = g.excs) (excs : AllP (fun p => PySem.W.nsIn K mainGlobals p.1 = some (some (.ref p.2)) ∧ excB K p.2 = true) xs)
    (anc : AllP (fun p => ∃ C, (p.1, C) ∈ xs ∧ ancB K C p.2 xs = true) g.anc) : Wf g K mg where
  nums := fun x i e => let ⟨t, q⟩ := nums.look x i e; ⟨t, PySem.W.mg_of X G q⟩
  txts := fun x i e => let ⟨t, q⟩ := txts.look x i e; ⟨t, PySem.W.mg_of X G q⟩
  free := fun x e => PySem.W.mg_none_of X G (free.mem x e)
  excs := fun x e => by
    rw [← hx] at e
    obtain ⟨p, hp, rfl⟩ := List.mem_map.mp e
    obtain ⟨q1, q2⟩ := excs.mem p hp
    exact ⟨p.2, excB_ok X G q1 q2⟩
  anc := fun k l C x cx e hk hxx hcx => by
    obtain ⟨C', hm, q⟩ := anc.look k l e
    have e1 := PySem.W.mg_of X G (excs.mem _ hm).1
    rw [hk] at e1
    cases e1
    rw [← hx] at hxx
    obtain ⟨p, hp, rfl⟩ := List.mem_map.mp hxx
    have e2 := PySem.W.mg_of X G (excs.mem p hp).1
    rw [hcx] at e2
    cases e2
    unfold ancB at q
    rw [Bool.and_eq_true, List.all_eq_true] at q
    have z := q.2 p hp
    simp only [Bool.and_eq_true, decide_eq_true_eq] at z
    exact z
  ancE := fun k l C e hk => by
    obtain ⟨C', hm, q⟩ := anc.look k l e
    have e1 := PySem.W.mg_of X G (excs.mem _ hm).1
    rw [hk] at e1
    cases e1
    exact (excB_ok X G (excs.mem _ hm).1 (excs.mem _ hm).2).isa
  ancB := fun k l C e hk => by
    obtain ⟨C', hm, q⟩ := anc.look k l e
    have e1 := PySem.W.mg_of X G (excs.mem _ hm).1
    rw [hk] at e1
    cases e1
    unfold ancB at q
    rw [Bool.and_eq_true, decide_eq_true_eq] at q
    exact q.1
/-- a def without defaults -/
theorem dp_mk {g : Gt} {tb : Tb} {fu n : Nat} {d : Df} {m : FT → M Fl} {args : Arguments} {a : Addr} {oc kV doc pm cdv ct : Value} {od an : Option Addr} {sl : Array (Option Value)} (X : K.In h) (G : h.Ns mainGlobals mg) (hn : PySem.W.nsIn K mainGlobals d.name = some (some (.ref a)))
    (hl : K.lookup a = some ⟨oc, od, .func (PySem.W.fnOf d.name d.name args d.body d.sc .none kV doc pm an cdv ct), sl⟩) (hc : PySem.W.codeIn K cdv d.name = true) (hk : PySem.W.keepIn K (.ref a) = true) (ht : tb.lookup d.name = some (d.run m)) (S : FnScope d.N d.ps d.sc)
    (ev : ∀ F, evS F (evE F n) fu n (d.cc g) d.body = some (m F)) (hd : d.dfl = []) (hb : ∀ (kV doc pm : Value) (an : Option Addr) (cdv ct : Value) (us : List Value), us.length = d.ps.length → bindArgs (PySem.W.fnOf d.name d.name args d.body d.sc .none kV doc pm an cdv ct) ⟨us, []⟩ = pure (d.ps.zip us)) :
    DP g tb K mg fu n d.name d.sg := by
  have F : FunD K d.name d.name args d.body d.sc [] [] a _ := ⟨⟨oc, od, .none, kV, doc, pm, an, cdv, ct, sl, rfl, hl, hc, .inl ⟨rfl, rfl⟩, .inl rfl⟩, hk⟩
  refine ⟨d, m, args, [], a, _, rfl, rfl, ht, PySem.W.mg_of X G hn, F, S, ev, fun j h1 h2 => ⟨[], [], .nil, F.bindsN hb, ?_, fun H => ?_⟩⟩
  · show 0 = d.ps.length - j
    have h2 : d.ps.length ≤ j + d.dfl.length := h2
    rw [hd] at h2
    simp at h2
    omega
  · show VdAll H [] (d.dfl.drop _)
    rw [hd, List.drop_nil]
    exact .nil
/-- a def that is called in an except suite -/
theorem dh_mk {g : Gt} {tb : Tb} {fu n : Nat} {d : Df} {m : FT → M Fl} {args : Arguments} {a : Addr} {oc kV doc pm cdv ct : Value} {od an : Option Addr} {sl : Array (Option Value)} (X : K.In h) (G : h.Ns mainGlobals mg) (hn : PySem.W.nsIn K mainGlobals d.name = some (some (.ref a)))
    (hl : K.lookup a = some ⟨oc, od, .func (PySem.W.fnOf d.name d.name args d.body d.sc .none kV doc pm an cdv ct), sl⟩) (hc : PySem.W.codeIn K cdv d.name = true) (hk : PySem.W.keepIn K (.ref a) = true) (ht : tb.lookup d.name = some (d.run m)) (S : FnScope d.N d.ps d.sc)
    (ev : ∀ F, evS F (evE F n) fu n (d.ccH g) d.body = some (m F)) (hp : d.ps.length = 1) (hio : d.io = false) (hb : ∀ (kV doc pm : Value) (an : Option Addr) (cdv ct : Value) (us : List Value), us.length = d.ps.length → bindArgs (PySem.W.fnOf d.name d.name args d.body d.sc .none kV doc pm an cdv ct) ⟨us, []⟩ = pure (d.ps.zip us)) :
    DH g tb K mg fu n d.name := by
  have F : FunD K d.name d.name args d.body d.sc [] [] a _ := ⟨⟨oc, od, .none, kV, doc, pm, an, cdv, ct, sl, rfl, hl, hc, .inl ⟨rfl, rfl⟩, .inl rfl⟩, hk⟩
  exact ⟨d, m, args, [], a, _, rfl, ht, PySem.W.mg_of X G hn, F, S, hp, hio, ev, F.bindsN hb⟩
/-- a def with defaults that are integers -/
theorem dp_mkD {g : Gt} {tb : Tb} {fu n : Nat} {d : Df} {m : FT → M Fl} {args : Arguments} {a T : Addr} {ns : List Int} {its : List Value} {oT : Obj} {nT : Nat} {oc kV doc pm cdv ct : Value} {od an : Option Addr} {sl : Array (Option Value)} (X : K.In h) (G : h.Ns mainGlobals mg) (hn : PySem.W.nsIn K mainGlobals d.name = some (some (.ref a)))
    (hl : K.lookup a = some ⟨oc, od, .func (PySem.W.fnOf d.name d.name args d.body d.sc (.ref T) kV doc pm an cdv ct), sl⟩) (hc : PySem.W.codeIn K cdv d.name = true) (hk : PySem.W.keepIn K (.ref a) = true) (ht : tb.lookup d.name = some (d.run m)) (S : FnScope d.N d.ps d.sc)
    (ev : ∀ F, evS F (evE F n) fu n (d.cc g) d.body = some (m F)) (hd : d.dfl = ns.map .int) (hne : ns ≠ []) (hns : ns.length ≤ d.ps.length) (hT : K.lookup T = some oT) (hoT : oT.data = .seq its.toArray nT) (hv : Vals (ns.map V.int) its)
    (hb : ∀ j, j ≤ d.ps.length → d.ps.length ≤ j + ns.length → ∀ (T : Addr) (kV doc pm : Value) (an : Option Addr) (cdv ct : Value) (us its : List Value), us.length = j → its.length = ns.length →
      ∃ k, bindArgs (PySem.W.fnOf d.name d.name args d.body d.sc (.ref T) kV doc pm an cdv ct) ⟨us, []⟩ = seqItems? (.ref T) >>= k ∧ k (some its.toArray) = pure (d.ps.zip (us ++ its.drop (ns.length + j - d.ps.length)))) :
    DP g tb K mg fu n d.name d.sg := by
  have hne' : ns.map V.int ≠ [] := fun z => hne (List.map_eq_nil_iff.mp z)
  have F : FunD K d.name d.name args d.body d.sc (ns.map V.int) [] a _ := ⟨⟨oc, od, .ref T, kV, doc, pm, an, cdv, ct, sl, rfl, hl, hc, .inr ⟨hne', T, oT, its, nT, rfl, hT, hoT, hv⟩, .inl rfl⟩, hk⟩
  refine ⟨d, m, args, ns.map V.int, a, _, rfl, rfl, ht, PySem.W.mg_of X G hn, F, S, ev, fun j h1 h2 => ?_⟩
  have h1 : j ≤ d.ps.length := h1
  have h2 : d.ps.length ≤ j + d.dfl.length := h2
  have hz : d.dfl.length = ns.length := by rw [hd, List.length_map]
  rw [hz] at h2
  obtain ⟨ds, q1, q2⟩ := F.binds1 j (ns.length + j - d.ps.length) hne' (by rw [List.length_map]; omega) (fun T kV doc pm an cdv ct us its l1 l2 => hb j h1 h2 T kV doc pm an cdv ct us its l1 (by rw [l2, List.length_map]))
  refine ⟨_, ds, q1, q2, ?_, fun H => ?_⟩
  · show _ = d.ps.length - j
    rw [List.length_drop, List.length_map]
    omega
  · show VdAll H _ (d.dfl.drop (d.dfl.length + j - d.ps.length))
    rw [hz, hd]
    exact VdAll.drop _ (VdAll.ofInts ns)
/-- the law's own def -/
theorem law_end {P : Program} {w : World} {g : Gt} {tb : Tb} {fu n k : Nat} {d : Df} {m : FT → M Fl} {args : Arguments} {fa a : Addr} {oc kV doc pm cdv ct : Value} {od an : Option Addr} {sl : Array (Option Value)} (X : K.In h) (G : h.Ns mainGlobals mg) (wf : Wf g K mg) (hd : ∀ f sg, g.defs.lookup f = some sg → DP g tb K mg fu n f sg) (hh : ∀ f, f ∈ g.hots → DH g tb K mg fu n f)
    (hfa : mg d.name = some (.ref fa)) (hn : PySem.W.nsIn K mainGlobals d.name = some (some (.ref a)))
    (hl : K.lookup a = some ⟨oc, od, .func (PySem.W.fnOf d.name d.name args d.body d.sc .none kV doc pm an cdv ct), sl⟩) (hc : PySem.W.codeIn K cdv d.name = true) (hk : PySem.W.keepIn K (.ref a) = true) (ht : tb.lookup d.name = some (d.run m)) (S : FnScope d.N d.ps d.sc)
    (ev : ∀ F, evS F (evE F n) fu n (d.cc g) d.body = some (m F)) (hps : d.ps = [("script" : Str)]) (hb : ∀ (kV doc pm : Value) (an : Option Addr) (cdv ct : Value) (us : List Value), us.length = d.ps.length → bindArgs (PySem.W.fnOf d.name d.name args d.body d.sc .none kV doc pm an cdv ct) ⟨us, []⟩ = pure (d.ps.zip us)) :
    ∃ fd : FuncData, (∀ (s : Shared) (v : Value), BindsTo s fd ⟨[v], []⟩ [("script", v)]) ∧ ∀ base : Heap, K.In base → base.Ns mainGlobals mg → FnOk P w K mg base (L2N.CX P w) (k + 1) fa fd ["script"] (spF K mg 1 (runK tb (k + 1) d.name)) := by
  have e := PySem.W.mg_of X G hn
  rw [hfa] at e
  cases e
  have F : FunD K d.name d.name args d.body d.sc [] [] fa _ := ⟨⟨oc, od, .none, kV, doc, pm, an, cdv, ct, sl, rfl, hl, hc, .inl ⟨rfl, rfl⟩, .inl rfl⟩, hk⟩
  refine ⟨PySem.W.fnOf d.name d.name args d.body d.sc .none kV doc pm an cdv ct, fun s v => ?_, fun base _ _ => ?_⟩
  · have b := FunD.bindsA F hb s [v] (by rw [hps]; rfl)
    rw [hps] at b
    exact b
  · have al := fk_all (P := P) (w := w) (base := base) wf hd hh k
    have q := fk_step (P := P) (w := w) (base := base) (k := k) wf al.1 al.2 F S (ev (runK tb k))
    rw [runK_at ht]
    rw [hps] at q
    exact q
theorem cx_no {P : Program} {w : World} {H : Hp} {s s' : Shared} {e : Value} (h : L2N.CX P w [] H s (fun _ _ _ => False) e s') : False := by
  obtain ⟨_, _, _, _, _, _, _, _, _, _, _, _, h⟩ := h
  exact h
/-- the law's own promise -/
def spL (K : PySem.W.Frag) (R : List Slot → R1) : Sp := fun vs H Q _ => ∃ (a : Addr) (ns : List Int), vs = [.ref a] ∧ SqL K H a (ns.map V.int) ∧ R [.sc ns] = .ok (.d (.bool true)) [] ∧ ∀ H', Q (.bl true) H'
theorem spL_F {R : List Slot → R1} (vs : List V) (H : Hp) (Q : VK) (E : XK) (h : spL K R vs H Q E) : spF K mg 1 R vs H Q E := by
  obtain ⟨a, ns, rfl, hS, hR, hQ⟩ := h
  refine ⟨H, [.sc ns], Same.refl _, rfl, ⟨.ref a, [], rfl, ⟨a, rfl, hS⟩, rfl⟩, rfl, ?_⟩
  rw [hR]
  intro v H0' H' _ _ hv
  have hv' : Vd H0' v (.bool true) := hv
  cases hv'
  exact hQ H'
theorem law_endL {P : Program} {w : World} {a : Addr} {fd : FuncData} {ps : List Str} {R : List Slot → R1} {base : Heap} {k : Nat} (F : FnOk P w K mg base (L2N.CX P w) k a fd ps (spF K mg 1 R)) : FnOk P w K mg base (L2N.CX P w) k a fd ps (spL K R) := F.imp spL_F
end
end VL

/-! VZ: what a run does when some slots are hidden, whatever is drawn. Plain Lean. -/
namespace VL
open PySem L2
/-! ### the pool -/
structure Po where
  xs : List Int
  p : Int
  r : Int
  c : Int
  n : Int
abbrev Po.sl (P : Po) : Slot := .ow (.lst [.list (P.xs.map .int), .int P.p, .int P.r, .int P.c, .int P.n])
def Po.ok (P : Po) : Prop := 0 ≤ P.p
/-- Γn knows a part of Γ; slot i is the pool in Γ, hidden in Γn -/
structure Hid (i N : Nat) (P : Po) (Γn Γ : VL.Env) : Prop where
  ln : Γn.length = N
  le : Γ.length = N
  at_ : ∀ j, gt Γn j = gt Γ j ∨ gt Γn j = .no
  hid : gt Γn i = .no
  pool : gt Γ i = P.sl
  ok : P.ok
  xc : ∀ j c, gt Γ j ≠ .xc c
section
variable {i N : Nat} {P : Po} {Γn Γ : VL.Env} {α β : Type}
theorem Hid.len (h : Hid i N P Γn Γ) : Γn.length = Γ.length := h.ln.trans h.le.symm
theorem gt_st2 (Γ : VL.Env) (i j : Nat) (s : Slot) : gt (st Γ i s) j = if j = i ∧ i < Γ.length then s else gt Γ j := gt_st ..
theorem Hid.get (h : Hid i N P Γn Γ) {j : Nat} {s : Slot} (e : gt Γn j = s) (n : s ≠ .no) : gt Γ j = s ∧ j ≠ i := by
  rcases h.at_ j with q | q
  · refine ⟨by rw [← q]; exact e, fun z => ?_⟩
    subst z
    rw [h.hid] at e
    exact n e.symm
  · rw [e] at q; exact absurd q n
theorem Hid.st (h : Hid i N P Γn Γ) {j : Nat} (hj : j ≠ i) {s t : Slot} (hs : s = t ∨ s = .no) (nx : ∀ c, t ≠ .xc c) : Hid i N P (VL.st Γn j s) (VL.st Γ j t) where
  ln := by rw [len_st]; exact h.ln
  le := by rw [len_st]; exact h.le
  at_ := fun k => by
    rw [gt_st2, gt_st2, h.len]
    split
    · exact hs
    · exact h.at_ k
  hid := by
    rw [gt_st2, if_neg (fun z => hj z.1.symm)]
    exact h.hid
  pool := by
    rw [gt_st2, if_neg (fun z => hj z.1.symm)]
    exact h.pool
  ok := h.ok
  xc := fun k c => by
    rw [gt_st2]
    split
    · exact nx c
    · exact h.xc k c
theorem Hid.st1 (h : Hid i N P Γn Γ) {j : Nat} (hj : j ≠ i) {t : Slot} (nx : ∀ c, t ≠ .xc c) : Hid i N P (VL.st Γn j t) (VL.st Γ j t) := h.st hj (.inl rfl) nx
theorem Hid.ofPool (h : Hid i N P Γn Γ) {P' : Po} (h' : P'.ok) (hi : i < Γ.length) : Hid i N P' Γn (VL.st Γ i P'.sl) where
  ln := h.ln
  le := by rw [len_st]; exact h.le
  at_ := fun k => by
    rw [gt_st2]
    split
    · rename_i z
      rw [z.1]
      exact .inr h.hid
    · exact h.at_ k
  hid := h.hid
  pool := by rw [gt_st2, if_pos ⟨rfl, hi⟩]
  ok := h'
  xc := fun k c => by
    rw [gt_st2]
    split
    · exact fun z => nomatch z
    · exact h.xc k c
theorem Hid.lt (h : Hid i N P Γn Γ) : i < Γ.length := gt_lt (by rw [h.pool]; exact fun z => nomatch z)
end
/-- code that leaves the pool alone -/
def Mo {α : Type} (i : Nat) (m : M α) : Prop := ∀ N P Γn Γ, Hid i N P Γn Γ → ∀ a Γn', m Γn = .ok a Γn' → ∃ Γ', m Γ = .ok a Γ' ∧ Hid i N P Γn' Γ'
section
variable {i : Nat} {α β : Type}
theorem mo_ret {a : α} : Mo i (ret a) := fun N P Γn Γ h b Γn' e => by cases e; exact ⟨Γ, rfl, h⟩
theorem mo_bad : Mo i (VL.bad : M α) := fun N P Γn Γ h b Γn' e => by cases e
theorem mo_bnd {m : M α} {f : α → M β} (h1 : Mo i m) (h2 : ∀ a, Mo i (f a)) : Mo i (bnd m f) := fun N P Γn Γ h b Γn' e => by
  unfold bnd at e ⊢
  cases q : m Γn with
  | ok a Γ1 =>
    rw [q] at e
    obtain ⟨Γ2, e2, h3⟩ := h1 N P Γn Γ h a Γ1 q
    rw [e2]
    exact h2 a N P Γ1 Γ2 h3 b Γn' e
  | ex c g => rw [q] at e; cases e
  | bad => rw [q] at e; cases e
theorem mo_ofO {o : Option α} : Mo i (ofO o) := fun N P Γn Γ h b Γn' e => by
  unfold ofO at e ⊢
  cases o with
  | none => cases e
  | some a => cases e; exact ⟨Γ, rfl, h⟩
theorem mo_soft (o : Od) : Mo i (soft o) := fun N P Γn Γ h b Γn' e => by
  unfold soft at e ⊢
  cases o with
  | d d => cases e; exact ⟨Γ, rfl, h⟩
  | fl ds => cases e; exact ⟨Γ, rfl, h⟩
  | rf j =>
    dsimp only at e ⊢
    cases q : gt Γn j with
    | va d => rw [q] at e; cases e; rw [(h.get q (by simp)).1]; exact ⟨Γ, rfl, h⟩
    | ow o =>
      rw [q] at e
      cases o with
      | lst ds => cases e; rw [(h.get q (by simp)).1]; exact ⟨Γ, rfl, h⟩
      | _ => cases e
    | _ => rw [q] at e; cases e
theorem mo_hard (o : Od) : Mo i (hard o) := fun N P Γn Γ h b Γn' e => by
  unfold hard at e ⊢
  cases o with
  | d d => cases e; exact ⟨Γ, rfl, h⟩
  | fl ds => cases e; exact ⟨Γ, rfl, h⟩
  | rf j =>
    dsimp only at e ⊢
    cases q : gt Γn j with
    | va d => rw [q] at e; cases e; rw [(h.get q (by simp)).1]; exact ⟨Γ, rfl, h⟩
    | ow o =>
      rw [q] at e
      cases o with
      | lst ds => cases e; obtain ⟨g1, g2⟩ := h.get q (by simp); rw [g1]; exact ⟨_, rfl, h.st1 g2 (fun c z => nomatch z)⟩
      | _ => cases e
    | _ => rw [q] at e; cases e
theorem mo_vr (j : Nat) : Mo i (vr j) := fun N P Γn Γ h b Γn' e => by
  unfold vr at e ⊢
  cases q : gt Γn j with
  | no => rw [q] at e; cases e
  | va d => rw [q] at e; cases e; rw [(h.get q (by simp)).1]; exact ⟨Γ, rfl, h⟩
  | ow o => rw [q] at e; cases e; rw [(h.get q (by simp)).1]; exact ⟨Γ, rfl, h⟩
  | xc c => rw [q] at e; cases e; rw [(h.get q (by simp)).1]; exact ⟨Γ, rfl, h⟩
  | sc c => rw [q] at e; cases e; rw [(h.get q (by simp)).1]; exact ⟨Γ, rfl, h⟩
theorem mo_kd (d : D) : Mo i (kd d) := fun N P Γn Γ h b Γn' e => by cases e; exact ⟨Γ, rfl, h⟩
theorem mo_softs : ∀ xs : List Od, Mo i (softs xs)
  | [] => mo_ret
  | x :: r => mo_bnd (mo_soft x) fun d => mo_bnd (mo_softs r) fun ds => mo_ret
theorem mo_hards : ∀ xs : List Od, Mo i (hards xs)
  | [] => mo_ret
  | x :: r => mo_bnd (mo_hard x) fun d => mo_bnd (mo_hards r) fun ds => mo_ret
theorem mo_args0 : Mo i (argsE []) := mo_ret
theorem mo_args1 {a : M Od} {r : List (M Od)} (h1 : Mo i a) (h2 : Mo i (argsE r)) : Mo i (argsE (a :: r)) := mo_bnd h1 fun _ => mo_bnd h2 fun _ => mo_ret
theorem mo_if {c : Prop} [Decidable c] {m n : M α} (h1 : Mo i m) (h2 : Mo i n) : Mo i (if c then m else n) := by
  split
  · exact h1
  · exact h2
theorem mo_lift1 {f : D → Option D} {a : M Od} (h : Mo i a) : Mo i (lift1 f a) := mo_bnd h fun x => mo_bnd (mo_soft x) fun d => mo_bnd mo_ofO fun r => mo_ret
theorem mo_lift2 {f : D → D → Option D} {a b : M Od} (h : Mo i a) (k : Mo i b) : Mo i (lift2 f a b) := mo_bnd h fun x => mo_bnd k fun y => mo_bnd (mo_soft x) fun d => mo_bnd (mo_soft y) fun e => mo_bnd mo_ofO fun r => mo_ret
theorem mo_bin2 {f : D → D → Option D} {a b : M Od} (h : Mo i a) (k : Mo i b) : Mo i (bin2 f a b) := mo_bnd h fun x => mo_bnd k fun y => mo_bnd (mo_soft x) fun d => mo_bnd (mo_soft y) fun e => mo_bnd mo_ofO fun r => mo_ret
theorem mo_chain {f g : D → D → Option Bool} {a b c : M Od} (h : Mo i a) (k : Mo i b) (l : Mo i c) : Mo i (chainE f g a b c) := mo_bnd h fun x => mo_bnd k fun y => mo_bnd (mo_soft x) fun d => mo_bnd (mo_soft y) fun e => mo_bnd mo_ofO fun r =>
  mo_if (mo_bnd l fun z => mo_bnd (mo_soft y) fun _ => mo_bnd (mo_soft z) fun _ => mo_bnd mo_ofO fun _ => mo_ret) mo_ret
theorem mo_list {as : List (M Od)} (h : Mo i (argsE as)) : Mo i (listE as) := mo_bnd h fun xs => mo_bnd (mo_hards xs) fun ds => mo_if mo_ret mo_bad
theorem mo_tup {as : List (M Od)} (h : Mo i (argsE as)) : Mo i (tupE as) := mo_bnd h fun xs => mo_bnd (mo_hards xs) fun ds => mo_if mo_ret mo_bad
theorem mo_bf {b : Bf} {as : List (M Od)} (h : Mo i (argsE as)) : Mo i (bfE b as) := mo_bnd h fun xs => mo_bnd (mo_softs xs) fun ds => mo_bnd mo_ofO fun _ => mo_ret
theorem mo_tru {a : M Od} (h : Mo i a) : Mo i (truE a) := mo_bnd h fun x => mo_bnd (mo_soft x) fun _ => mo_ofO
theorem mo_and {a b : M Bool} (h : Mo i a) (k : Mo i b) : Mo i (andT a b) := mo_bnd h fun x => mo_if k mo_ret
theorem mo_or {a b : M Bool} (h : Mo i a) (k : Mo i b) : Mo i (orT a b) := mo_bnd h fun x => mo_if mo_ret k
theorem mo_not {a : M Bool} (h : Mo i a) : Mo i (notT a) := mo_bnd h fun x => mo_ret
theorem mo_ifT {c : M Bool} {a b : M α} (h : Mo i c) (k : Mo i a) (l : Mo i b) : Mo i (ifT c a b) := mo_bnd h fun x => mo_if k l
theorem mo_andE {a b : M Od} (h : Mo i a) (k : Mo i b) : Mo i (andE a b) := mo_bnd h fun x => mo_bnd (mo_soft x) fun _ => mo_bnd mo_ofO fun _ => mo_if k mo_ret
theorem mo_orE {a b : M Od} (h : Mo i a) (k : Mo i b) : Mo i (orE a b) := mo_bnd h fun x => mo_bnd (mo_soft x) fun _ => mo_bnd mo_ofO fun _ => mo_if mo_ret k
theorem mo_notE {a : M Od} (h : Mo i a) : Mo i (notE a) := mo_bnd h fun x => mo_bnd (mo_soft x) fun _ => mo_bnd mo_ofO fun _ => mo_ret
theorem mo_val {a : M Od} (h : Mo i a) : Mo i (valT a) := mo_bnd h fun x => mo_bnd (mo_soft x) fun _ => mo_ofO
theorem mo_int {a : M Od} (h : Mo i a) : Mo i (intE a) := mo_bnd h fun x => mo_bnd (mo_soft x) fun d => by
  cases d <;> first | exact mo_ret | exact mo_bad
theorem mo_partN : Mo i partN := mo_ret
theorem mo_part {a : M Od} (h : Mo i a) : Mo i (partE a) := mo_bnd (mo_int h) fun _ => mo_ret
theorem mo_slice {a : M Od} {lo hi : M (Option Int)} (h : Mo i a) (k : Mo i lo) (l : Mo i hi) : Mo i (sliceE a lo hi) := mo_bnd h fun _ => mo_bnd k fun _ => mo_bnd l fun _ => mo_bnd (mo_soft _) fun _ => mo_bnd mo_ofO fun _ => mo_ret
theorem mo_isins {a : M Od} {n : String} (h : Mo i a) : Mo i (isinsE a n) := mo_lift1 h
theorem mo_isins2 {a : M Od} {n m : String} (h : Mo i a) : Mo i (isins2E a n m) := mo_lift1 h
theorem mo_it {a : M Od} (h : Mo i a) : Mo i (itE a) := mo_bnd h fun _ => mo_bnd (mo_soft _) fun _ => mo_bnd mo_ofO fun _ => mo_ret
theorem mo_rg1 {a : M Od} (h : Mo i a) : Mo i (rg1E a) := mo_bnd (mo_int h) fun _ => mo_if mo_ret mo_bad
theorem mo_rg2 {a b : M Od} (h : Mo i a) (k : Mo i b) : Mo i (rg2E a b) := mo_bnd (mo_int h) fun _ => mo_bnd (mo_int k) fun _ => mo_if mo_ret mo_bad
theorem mo_rgD {a b : M Od} (h : Mo i a) (k : Mo i b) : Mo i (rgDE a b) := mo_bnd (mo_int h) fun _ => mo_bnd (mo_int k) fun _ => mo_if mo_ret mo_bad
theorem mo_rev {a : M Od} (h : Mo i a) : Mo i (revE a) := mo_bnd h fun _ => mo_bnd (mo_soft _) fun d => by
  cases d <;> first | exact mo_ret | exact mo_bad
theorem mo_listIt {a : M Itm} (h : Mo i a) : Mo i (listItE a) := mo_bnd h fun _ => mo_if mo_ret mo_bad
theorem mo_mv {m : Mv} {o : M Od} {as : List (M Od)} (h : Mo i o) (k : Mo i (argsE as)) : Mo i (mvE m o as) := mo_bnd h fun x => mo_bnd (mo_soft x) fun d => mo_if (mo_bnd k fun xs => mo_bnd (mo_soft x) fun _ => mo_bnd (mo_softs xs) fun _ => mo_bnd mo_ofO fun _ => mo_ret) mo_bad
/-! calls -/
theorem mo_hardSlot (o : Od) : Mo i (hardSlot o) := fun N P Γn Γ h b Γn' e => by
  unfold hardSlot at e ⊢
  cases o with
  | d d => cases e; exact ⟨Γ, rfl, h⟩
  | fl ds => cases e; exact ⟨Γ, rfl, h⟩
  | rf j =>
    dsimp only at e ⊢
    cases q : gt Γn j with
    | va d => rw [q] at e; cases e; rw [(h.get q (by simp)).1]; exact ⟨Γ, rfl, h⟩
    | sc d => rw [q] at e; cases e; rw [(h.get q (by simp)).1]; exact ⟨Γ, rfl, h⟩
    | ow o =>
      rw [q] at e
      cases o with
      | lst ds => cases e; obtain ⟨g1, g2⟩ := h.get q (by simp); rw [g1]; exact ⟨_, rfl, h.st1 g2 (fun c z => nomatch z)⟩
      | _ => cases e
    | _ => rw [q] at e; cases e
theorem mo_hardSlots : ∀ xs : List Od, Mo i (hardSlots xs)
  | [] => mo_ret
  | x :: r => mo_bnd (mo_hardSlot x) fun _ => mo_bnd (mo_hardSlots r) fun _ => mo_ret
theorem mo_callPl {F : FT} {f : Str} {sg : Sig} {ys : List Slot} : Mo i (callPl F f sg ys) := fun N P Γn Γ h b Γn' e => by
  unfold callPl at e ⊢
  cases q : F f (ys ++ dflS sg ys.length) with
  | ok r out => rw [q] at e; cases e; exact ⟨Γ, rfl, h⟩
  | _ => rw [q] at e; cases e
/-- what comes out by the first argument is no exception -/
theorem mo_call {F : FT} {f : Str} {sg : Sig} {as : List (M Od)} (hio : sg.io = false) (h : Mo i (argsE as)) : Mo i (callE F f sg as) := by
  unfold callE
  rw [hio]
  exact mo_bnd h fun xs => mo_bnd (mo_hardSlots xs) fun _ => mo_callPl
/-! statements -/
theorem mo_seq {a b : M Fl} (h : Mo i a) (k : Mo i b) : Mo i (seqS a b) := mo_bnd h fun f => by cases f <;> first | exact k | exact mo_ret
theorem mo_pass : Mo i passS := mo_ret
theorem mo_brk : Mo i brkS := mo_ret
theorem mo_cnt : Mo i cntS := mo_ret
theorem mo_expr {a : M Od} (h : Mo i a) : Mo i (exprS a) := mo_bnd h fun _ => mo_ret
theorem mo_retN : Mo i retN := mo_ret
theorem mo_retV {p : Nat} {a : M Od} (h : Mo i a) : Mo i (retS p a) := mo_bnd h fun x N P Γn Γ h b Γn' e => by
  cases x with
  | d d => cases e; exact ⟨Γ, rfl, h⟩
  | fl ds => cases e; exact ⟨Γ, rfl, h⟩
  | rf j =>
    dsimp only at e ⊢
    cases q : gt Γn j with
    | ow o =>
      rw [q] at e
      cases o with
      | lst ds =>
        obtain ⟨g1, g2⟩ := h.get q (by simp)
        rw [g1]
        dsimp only at e ⊢
        split at e
        · rename_i hp
          cases e
          rw [if_pos hp]
          exact ⟨_, rfl, h.st1 g2 (fun c z => nomatch z)⟩
        · cases e
      | _ => cases e
    | _ => rw [q] at e; cases e
theorem mo_put {p j : Nat} {s : Slot} (hj : j ≠ i) (nx : ∀ c, s ≠ .xc c) : Mo i (putS p j s) := fun N P Γn Γ h b Γn' e => by
  unfold putS at e ⊢
  split at e
  · cases e
  · rename_i hp
    cases e
    rw [if_neg hp]
    exact ⟨_, rfl, h.st1 hj nx⟩
theorem mo_set {p j : Nat} {a : M Od} (hj : j ≠ i) (h : Mo i a) : Mo i (setS p j a) := mo_bnd h fun x => mo_bnd (mo_hard x) fun d => mo_bnd (mo_put hj (fun c z => nomatch z)) fun _ => mo_ret
theorem mo_new {p j : Nat} {a : M Od} (hj : j ≠ i) (h : Mo i a) : Mo i (newS p j a) := mo_bnd h fun x => by
  cases x with
  | fl ds => exact mo_bnd (mo_put hj (fun c z => nomatch z)) fun _ => mo_ret
  | d d => exact mo_bnd (mo_put hj (fun c z => nomatch z)) fun _ => mo_ret
  | rf k => exact mo_if mo_ret mo_bad
def MoU (i : Nat) (m : MU) : Prop := ∀ d, Mo i (m d)
theorem mo_nmU {p j : Nat} (hj : j ≠ i) : MoU i (nmU p j) := fun d => mo_put hj (fun c z => nomatch z)
theorem mo_setL {j : Nat} {k : Int} {d : D} : Mo i (setL j k d) := fun N P Γn Γ h b Γn' e => by
  unfold setL at e ⊢
  cases q : gt Γn j with
  | ow o =>
    rw [q] at e
    cases o with
    | lst ds =>
      obtain ⟨g1, g2⟩ := h.get q (by simp)
      rw [g1]
      dsimp only at e ⊢
      cases q2 : ixN ds.length k with
      | none => rw [q2] at e; cases e
      | some l =>
        rw [q2] at e
        cases e
        exact ⟨_, rfl, h.st1 g2 (fun c z => nomatch z)⟩
    | _ => cases e
  | _ => rw [q] at e; cases e
theorem mo_isL {j : Nat} {m : M α} (h : Mo i m) : Mo i (fun Γ => if isLst (gt Γ j) = true then m Γ else .bad) := fun N P Γn Γ hh b Γn' e => by
  dsimp only at e ⊢
  by_cases c : isLst (gt Γn j) = true
  · rw [if_pos c] at e
    cases q : gt Γn j with
    | ow o =>
      rw [q] at c
      obtain ⟨g1, g2⟩ := hh.get q (by simp)
      rw [g1, if_pos c]
      exact h N P Γn Γ hh b Γn' e
    | _ => rw [q] at c; cases c
  · rw [if_neg c] at e; cases e
theorem mo_subU {j : Nat} {k : M Od} (h : Mo i k) : MoU i (subU j k) := fun d => mo_isL (mo_bnd (mo_int h) fun _ => mo_setL)
theorem mo_nilU : ∀ ds, Mo i (nilU ds)
  | [] => mo_ret
  | _ :: _ => mo_bad
theorem mo_consU {m : MU} {r : List D → M Unit} (h : MoU i m) (k : ∀ ds, Mo i (r ds)) : ∀ ds, Mo i (consU m r ds)
  | [] => mo_bad
  | d :: ds => mo_bnd (h d) fun _ => k ds
theorem mo_tupU {n : Nat} {m : List D → M Unit} (h : ∀ ds, Mo i (m ds)) : MoU i (tupU n m) := fun d => by
  cases d with
  | tuple ds => exact mo_if (h ds) mo_bad
  | list ds => exact mo_if (h ds) mo_bad
  | _ => exact mo_bad
theorem mo_asg {m : MU} {a : M Od} (h : MoU i m) (k : Mo i a) : Mo i (asgS m a) := mo_bnd k fun x => mo_bnd (mo_hard x) fun d => mo_bnd (h d) fun _ => mo_ret
theorem mo_par2 {p j k : Nat} {a b : M Od} (hj : j ≠ i) (hk : k ≠ i) (h : Mo i (argsE [a, b])) : Mo i (par2S p j k a b) := mo_bnd h fun xs => mo_bnd (mo_hards xs) fun ds => by
  match ds with
  | [d, e] => exact mo_bnd (mo_put hj (fun c z => nomatch z)) fun _ => mo_bnd (mo_put hk (fun c z => nomatch z)) fun _ => mo_ret
  | [] => exact mo_bad
  | [_] => exact mo_bad
  | _ :: _ :: _ :: _ => exact mo_bad
theorem mo_mtG {j : Nat} {m : Mt} {es : List D} : Mo i (mtG j m es) := fun N P Γn Γ h b Γn' e => by
  unfold mtG at e ⊢
  cases q : gt Γn j with
  | ow o =>
    rw [q] at e
    cases o with
    | lst ds =>
      obtain ⟨g1, g2⟩ := h.get q (by simp)
      rw [g1]
      dsimp only at e ⊢
      cases q2 : mtL m ds es with
      | none => rw [q2] at e; cases e
      | some l =>
        rw [q2] at e
        cases e
        exact ⟨_, rfl, h.st1 g2 (fun c z => nomatch z)⟩
    | _ => cases e
  | _ => rw [q] at e; cases e
theorem mo_mt {j : Nat} {m : Mt} {as : List (M Od)} (h : Mo i (argsE as)) : Mo i (mtE j m as) := mo_isL (mo_bnd h fun xs => mo_bnd (mo_hards xs) fun _ => mo_mtG)
theorem mo_frz (x : Itm) : Mo i (frzI x) := fun N P Γn Γ h b Γn' e => by
  unfold frzI at e ⊢
  cases q0 : x.lock with
  | none => rw [q0] at e; cases e; exact ⟨Γ, rfl, h⟩
  | some j =>
    rw [q0] at e
    dsimp only at e ⊢
    cases q : gt Γn j with
    | ow o =>
      rw [q] at e
      cases o with
      | lst ds => cases e; obtain ⟨g1, g2⟩ := h.get q (by simp); rw [g1]; exact ⟨_, rfl, h.st1 g2 (fun c z => nomatch z)⟩
      | _ => cases e
    | _ => rw [q] at e; cases e
theorem Hid.mask {N : Nat} {P0 P : Po} {Γ0n Γ0 Γn Γ : VL.Env} (h0 : Hid i N P0 Γ0n Γ0) (h : Hid i N P Γn Γ) : Hid i N P (maskS Γ0n Γn) (maskS Γ0 Γ) := by
  have l1 : Γ0n.length = Γn.length := h0.ln.trans h.ln.symm
  have l2 : Γ0.length = Γ.length := h0.le.trans h.le.symm
  refine ⟨by rw [len_mask _ _ l1]; exact h.ln, by rw [len_mask _ _ l2]; exact h.le, fun j => ?_, ?_, ?_, h.ok, fun j c => ?_⟩
  · rw [gt_mask _ _ _ l1, gt_mask _ _ _ l2]
    cases q : gt Γ0n j with
    | no => exact .inr rfl
    | _ =>
      have g := (h0.get q (by simp)).1
      rw [g]
      exact h.at_ j
  · rw [gt_mask _ _ _ l1, h0.hid]
  · rw [gt_mask _ _ _ l2, h0.pool]
    exact h.pool
  · rw [gt_mask _ _ _ l2]
    split
    · exact fun z => nomatch z
    · exact h.xc j c
theorem mo_forL {m : D → M Unit} {body : M Fl} (hm : MoU i m) (hb : Mo i body) : ∀ (ds : List D) (N : Nat) (P0 P : Po) (Γ0n Γ0 Γn Γ : VL.Env), Hid i N P0 Γ0n Γ0 → Hid i N P Γn Γ → ∀ a Γn', forL m body Γ0n ds Γn = .ok a Γn' → ∃ Γ', forL m body Γ0 ds Γ = .ok a Γ' ∧ Hid i N P Γn' Γ'
  | [], N, P0, P, Γ0n, Γ0, Γn, Γ, h0, h, a, Γn', e => by cases e; exact ⟨Γ, rfl, h⟩
  | x :: r, N, P0, P, Γ0n, Γ0, Γn, Γ, h0, h, a, Γn', e => by
    unfold forL at e ⊢
    cases q : bnd (m x) (fun _ => body) Γn with
    | ok f Γ1 =>
      rw [q] at e
      obtain ⟨Γ2, e2, h2⟩ := mo_bnd (hm x) (fun _ => hb) N P Γn Γ h f Γ1 q
      rw [e2]
      cases f with
      | nx => exact mo_forL hm hb r N P0 P Γ0n Γ0 _ _ h0 (h0.mask h2) a Γn' e
      | ct => exact mo_forL hm hb r N P0 P Γ0n Γ0 _ _ h0 (h0.mask h2) a Γn' e
      | bk => cases e; exact ⟨_, rfl, h0.mask h2⟩
      | rt d => cases e; exact ⟨_, rfl, h2⟩
    | ex c g => rw [q] at e; cases e
    | bad => rw [q] at e; cases e
theorem mo_for {m : D → M Unit} {it : M Itm} {body : M Fl} (hm : MoU i m) (hi : Mo i it) (hb : Mo i body) : Mo i (forS m it body) := mo_bnd hi fun x => mo_bnd (mo_frz x) fun ds => fun N P Γn Γ h a Γn' e => mo_forL hm hb ds N P P Γn Γ Γn Γ h h a Γn' e
theorem mo_whL {c : M Bool} {body : M Fl} (hc : Mo i c) (hb : Mo i body) : ∀ (n N : Nat) (P0 P : Po) (Γ0n Γ0 Γn Γ : VL.Env), Hid i N P0 Γ0n Γ0 → Hid i N P Γn Γ → ∀ a Γn', whL c body Γ0n n Γn = .ok a Γn' → ∃ Γ', whL c body Γ0 n Γ = .ok a Γ' ∧ Hid i N P Γn' Γ'
  | 0, N, P0, P, Γ0n, Γ0, Γn, Γ, h0, h, a, Γn', e => by cases e
  | n + 1, N, P0, P, Γ0n, Γ0, Γn, Γ, h0, h, a, Γn', e => by
    unfold whL at e ⊢
    cases q : c Γn with
    | ok b Γ1 =>
      rw [q] at e
      obtain ⟨Γ2, e2, h2⟩ := hc N P Γn Γ h b Γ1 q
      rw [e2]
      cases b with
      | false => cases e; exact ⟨_, rfl, h2⟩
      | true =>
        dsimp only at e ⊢
        cases q2 : body Γ1 with
        | ok f Γ3 =>
          rw [q2] at e
          obtain ⟨Γ4, e4, h4⟩ := hb N P Γ1 Γ2 h2 f Γ3 q2
          rw [e4]
          cases f with
          | nx => exact mo_whL hc hb n N P0 P Γ0n Γ0 _ _ h0 (h0.mask h4) a Γn' e
          | ct => exact mo_whL hc hb n N P0 P Γ0n Γ0 _ _ h0 (h0.mask h4) a Γn' e
          | bk => cases e; exact ⟨_, rfl, h0.mask h4⟩
          | rt d => cases e; exact ⟨_, rfl, h4⟩
        | ex c g => rw [q2] at e; cases e
        | bad => rw [q2] at e; cases e
    | ex c g => rw [q] at e; cases e
    | bad => rw [q] at e; cases e
theorem mo_wh {fu : Nat} {c : M Bool} {body : M Fl} (hc : Mo i c) (hb : Mo i body) : Mo i (whS fu c body) := fun N P Γn Γ h a Γn' e => mo_whL hc hb fu N P P Γn Γ Γn Γ h h a Γn' e
/-! comprehensions -/
theorem noXc_id {s : Slot} (h : ∀ c, s ≠ .xc c) : noXc s = s := by
  cases s with
  | xc c => exact absurd rfl (h c)
  | _ => rfl
theorem Hid.hide {N : Nat} {P : Po} {Γn Γ : VL.Env} {p : Nat → Bool} (h : Hid i N P Γn Γ) (hp : p i = false) : Hid i N P (hideS p 0 Γn) (hideS p 0 Γ) := by
  have e1 : ∀ j, gt (hideS p 0 Γn) j = if p j then .no else gt Γn j := fun j => by
    rw [gt_hide, Nat.zero_add]
    split
    · rfl
    · rcases h.at_ j with z | z
      · rw [z]; exact noXc_id (h.xc j)
      · rw [z]; rfl
  have e2 : ∀ j, gt (hideS p 0 Γ) j = if p j then .no else gt Γ j := fun j => by
    rw [gt_hide, Nat.zero_add, noXc_id (h.xc j)]
  refine ⟨by rw [len_hide]; exact h.ln, by rw [len_hide]; exact h.le, fun j => ?_, ?_, ?_, h.ok, fun j c => ?_⟩
  · rw [e1, e2]
    split
    · exact .inl rfl
    · exact h.at_ j
  · rw [e1]
    split
    · rfl
    · exact h.hid
  · rw [e2, hp]
    exact h.pool
  · rw [e2]
    split
    · exact fun z => nomatch z
    · exact h.xc j c
theorem Hid.back {N : Nat} {P0 P : Po} {Γ0n Γ0 Γn Γ : VL.Env} {p : Nat → Bool} (h0 : Hid i N P0 Γ0n Γ0) (h : Hid i N P Γn Γ) (hp : p i = false) : Hid i N P (backS p 0 Γ0n Γn) (backS p 0 Γ0 Γ) := by
  have l1 : Γ0n.length = Γn.length := h0.ln.trans h.ln.symm
  have l2 : Γ0.length = Γ.length := h0.le.trans h.le.symm
  have nx : ∀ {s : Slot}, (∀ c, s ≠ .xc c) → isXc s = false := fun {s} h => by
    cases s with
    | xc c => exact absurd rfl (h c)
    | _ => rfl
  have x1 : ∀ j, isXc (gt Γ0n j) = false := fun j => by
    rcases h0.at_ j with z | z
    · rw [z]; exact nx (h0.xc j)
    · rw [z]; rfl
  have e1 : ∀ j, gt (backS p 0 Γ0n Γn) j = if p j then gt Γ0n j else gt Γn j := fun j => by
    rw [gt_back _ _ _ _ _ l1, Nat.zero_add, x1 j, Bool.or_false]
  have e2 : ∀ j, gt (backS p 0 Γ0 Γ) j = if p j then gt Γ0 j else gt Γ j := fun j => by
    rw [gt_back _ _ _ _ _ l2, Nat.zero_add, nx (h0.xc j), Bool.or_false]
  refine ⟨by rw [len_back _ _ _ _ l1]; exact h0.ln, by rw [len_back _ _ _ _ l2]; exact h0.le, fun j => ?_, ?_, ?_, h.ok, fun j c => ?_⟩
  · rw [e1, e2]
    split
    · exact h0.at_ j
    · exact h.at_ j
  · rw [e1, hp]
    exact h.hid
  · rw [e2, hp]
    exact h.pool
  · rw [e2]
    split
    · exact h0.xc j c
    · exact h.xc j c
theorem mo_compL {j : Nat} {own : List Nat} {body : M (List D)} (hj : j ≠ i) (ho : own.contains i = false) (hb : Mo i body) : ∀ ds, Mo i (compL j own body ds)
  | [] => mo_ret
  | x :: r => fun N P Γn Γ h a Γn' e => by
    unfold compL at e ⊢
    cases q : body (st Γn j (.va x)) with
    | ok ys Γ1 =>
      rw [q] at e
      obtain ⟨Γ2, e2, h2⟩ := hb N P _ _ (h.st1 hj (t := .va x) (fun c z => nomatch z)) ys Γ1 q
      rw [e2]
      dsimp only at e ⊢
      cases q2 : compL j own body r (hideS (ownP own) 0 Γ1) with
      | ok zs Γ3 =>
        rw [q2] at e
        obtain ⟨Γ4, e4, h4⟩ := mo_compL hj ho hb r N P _ _ (h2.hide (p := ownP own) ho) zs Γ3 q2
        cases e
        rw [e4]
        exact ⟨_, rfl, h4⟩
      | ex c g => rw [q2] at e; cases e
      | bad => rw [q2] at e; cases e
    | ex c g => rw [q] at e; cases e
    | bad => rw [q] at e; cases e
theorem mo_body {cs : M Bool} {elt : M Od} (h : Mo i cs) (k : Mo i elt) : Mo i (bodyE cs elt) := mo_bnd h fun b => mo_if (mo_bnd k fun y => mo_bnd (mo_hard y) fun _ => mo_ret) mo_ret
/-- what a run of it walks is not the pool -/
def NoLk (i : Nat) (it : M Itm) : Prop := ∀ N P Γn Γ, Hid i N P Γn Γ → ∀ x Γ1, it Γn = .ok x Γ1 → x.lock ≠ some i
theorem lk_of {it : M Itm} (h : ∀ Γ x Γ1 j, it Γ = .ok x Γ1 → x.lock = some j → ∃ Γ2, gt Γ2 j ≠ .no) : True := trivial
theorem keep_no {own : List Nat} {l : Option Nat} (ho : own.contains i = false) (hl : l ≠ some i) : keepP own l i = false := by
  unfold keepP
  rw [ho]
  cases l with
  | none => rfl
  | some k =>
    have : i ≠ k := fun z => hl (by rw [z])
    simpa using this
theorem mo_compG {j : Nat} {own : List Nat} {it : M Itm} {body : M (List D)} (hj : j ≠ i) (ho : own.contains i = false) (hl : NoLk i it) (hi : Mo i it) (hb : Mo i body) : Mo i (compG j own it body) := fun N P Γn Γ h a Γn' e => by
  unfold compG bnd at e ⊢
  cases q : it Γn with
  | ok x Γ1 =>
    rw [q] at e
    obtain ⟨Γ2, e2, h2⟩ := hi N P Γn Γ h x Γ1 q
    have kp := keep_no ho (hl N P Γn Γ h x Γ1 q)
    rw [e2]
    dsimp only at e ⊢
    cases q2 : compL j own body x.ds (hideS (keepP own x.lock) 0 Γ1) with
    | ok zs Γ3 =>
      rw [q2] at e
      obtain ⟨Γ4, e4, h4⟩ := mo_compL hj ho hb x.ds N P _ _ (h2.hide kp) zs Γ3 q2
      cases e
      rw [e4]
      exact ⟨_, rfl, h2.back h4 kp⟩
    | ex c g => rw [q2] at e; cases e
    | bad => rw [q2] at e; cases e
  | ex c g => rw [q] at e; cases e
  | bad => rw [q] at e; cases e
theorem mo_comp {j : Nat} {own : List Nat} {it : M Itm} {cs : M Bool} {elt : M Od} (hj : j ≠ i) (ho : own.contains i = false) (hl : NoLk i it) (hi : Mo i it) (hc : Mo i cs) (he : Mo i elt) : Mo i (compE j own it cs elt) :=
  mo_bnd (mo_compG hj ho hl hi (mo_body hc he)) fun zs => mo_if mo_ret mo_bad
theorem mo_comp2 {j k : Nat} {own own2 : List Nat} {it it2 : M Itm} {cs cs2 : M Bool} {elt : M Od} (hj : j ≠ i) (hk : k ≠ i) (ho : own.contains i = false) (ho2 : own2.contains i = false) (hl : NoLk i it) (hl2 : NoLk i it2) (hi : Mo i it) (hi2 : Mo i it2) (hc : Mo i cs) (hc2 : Mo i cs2) (he : Mo i elt) :
    Mo i (comp2E j own it cs k own2 it2 cs2 elt) :=
  mo_bnd (mo_compG hj ho hl hi (mo_bnd hc fun b => mo_if (mo_compG hk ho2 hl2 hi2 (mo_body hc2 he)) mo_ret)) fun zs => mo_if mo_ret mo_bad
/-- ranges lock nothing -/
theorem lk_bnd {m : M α} {f : α → M Itm} (h : Mo i m) (k : ∀ a, NoLk i (f a)) : NoLk i (bnd m f) := fun N P Γn Γ hh x Γ1 e => by
  unfold bnd at e
  cases q : m Γn with
  | ok a Γ2 =>
    rw [q] at e
    obtain ⟨Γ3, _, h3⟩ := h N P Γn Γ hh a Γ2 q
    exact k a N P _ _ h3 x Γ1 e
  | ex c g => rw [q] at e; cases e
  | bad => rw [q] at e; cases e
theorem lk_none {ds : List D} : NoLk i (ret ⟨ds, none⟩) := fun N P Γn Γ hh x Γ1 e => by cases e; exact fun z => nomatch z
theorem lk_bad : NoLk i (VL.bad : M Itm) := fun N P Γn Γ hh x Γ1 e => by cases e
theorem lk_if {c : Prop} [Decidable c] {m n : M Itm} (h1 : NoLk i m) (h2 : NoLk i n) : NoLk i (if c then m else n) := by
  split
  · exact h1
  · exact h2
theorem lk_rg1 {a : M Od} (h : Mo i a) : NoLk i (rg1E a) := lk_bnd (mo_int h) fun _ => lk_if lk_none lk_bad
theorem lk_rg2 {a b : M Od} (h : Mo i a) (k : Mo i b) : NoLk i (rg2E a b) := lk_bnd (mo_int h) fun _ => lk_bnd (mo_int k) fun _ => lk_if lk_none lk_bad
theorem lk_rgD {a b : M Od} (h : Mo i a) (k : Mo i b) : NoLk i (rgDE a b) := lk_bnd (mo_int h) fun _ => lk_bnd (mo_int k) fun _ => lk_if lk_none lk_bad
/-- a list that is walked was read -/
theorem lk_soft {x : Od} {k : D → M Itm} (hk : ∀ d, ∀ Γ y Γ1, k d Γ = .ok y Γ1 → y.lock = odLock x) : NoLk i (bnd (soft x) k) := fun N P Γn Γ hh y Γ1 e z => by
  unfold bnd at e
  cases x with
  | rf j =>
    have hj : j ≠ i := fun q => by
      subst q
      have : soft (.rf j) Γn = .bad := by unfold soft; dsimp only; rw [hh.hid]
      rw [this] at e
      cases e
    cases q : soft (.rf j) Γn with
    | ok d Γ2 =>
      rw [q] at e
      have := hk d Γ2 y Γ1 e
      rw [z] at this
      have this : some i = some j := this
      cases this
      exact hj rfl
    | ex c g => rw [q] at e; cases e
    | bad => rw [q] at e; cases e
  | d d =>
    have := hk d Γn y Γ1 e
    rw [z] at this
    cases this
  | fl ds =>
    have := hk (.list ds) Γn y Γ1 e
    rw [z] at this
    cases this
theorem lk_it {a : M Od} (h : Mo i a) : NoLk i (itE a) := lk_bnd h fun x => lk_soft fun d Γ y Γ1 e => by
  unfold bnd ofO at e
  cases q : seqOf d with
  | none => rw [q] at e; cases e
  | some ds => rw [q] at e; cases e; rfl
theorem lk_rev {a : M Od} (h : Mo i a) : NoLk i (revE a) := lk_bnd h fun x => lk_soft fun d Γ y Γ1 e => by
  cases d with
  | list ds => cases e; rfl
  | _ => cases e
end
end VL

/-! VZN: all that may be drawn, at once. -/
namespace VL
open PySem L2
/-! ### sameness of data, of environments -/
mutual
def deq : D → D → Bool
  | .none, .none => true
  | .bool a, .bool b => a == b
  | .int a, .int b => a == b
  | .str a, .str b => decide (a = b)
  | .list a, .list b => deqs a b
  | .tuple a, .tuple b => deqs a b
  | _, _ => false
def deqs : List D → List D → Bool
  | [], [] => true
  | a :: r, b :: q => deq a b && deqs r q
  | _, _ => false
end
mutual
theorem deq_eq : ∀ (a b : D), deq a b = true → a = b
  | .none, b, h => by cases b <;> first | rfl | exact absurd h (by simp [deq])
  | .bool x, b, h => by
    cases b with
    | bool y => simp [deq] at h; rw [h]
    | _ => simp [deq] at h
  | .int x, b, h => by
    cases b with
    | int y => simp [deq] at h; rw [h]
    | _ => simp [deq] at h
  | .str x, b, h => by
    cases b with
    | str y => simp [deq] at h; rw [h]
    | _ => simp [deq] at h
  | .list x, b, h => by
    cases b with
    | list y => rw [deq] at h; rw [deqs_eq x y h]
    | _ => simp [deq] at h
  | .tuple x, b, h => by
    cases b with
    | tuple y => rw [deq] at h; rw [deqs_eq x y h]
    | _ => simp [deq] at h
  | .dict x, b, h => by cases b <;> simp [deq] at h
theorem deqs_eq : ∀ (a b : List D), deqs a b = true → a = b
  | [], b, h => by cases b <;> first | rfl | (simp [deqs] at h)
  | x :: r, b, h => by
    cases b with
    | nil => simp [deqs] at h
    | cons y q =>
      rw [deqs, Bool.and_eq_true] at h
      rw [deq_eq x y h.1, deqs_eq r q h.2]
end
def seq1 : Slot → Slot → Bool
  | .no, .no => true
  | .va a, .va b => deq a b
  | .ow (.lst a), .ow (.lst b) => deqs a b
  | _, _ => false
theorem seq1_eq {a b : Slot} (h : seq1 a b = true) : a = b := by
  unfold seq1 at h
  split at h
  · rfl
  · rw [deq_eq _ _ h]
  · rw [deqs_eq _ _ h]
  · cases h
def eeq : VL.Env → VL.Env → Bool
  | [], [] => true
  | a :: r, b :: q => seq1 a b && eeq r q
  | _, _ => false
theorem eeq_eq : ∀ {a b : VL.Env}, eeq a b = true → a = b
  | [], [], _ => rfl
  | a :: r, b :: q, h => by
    rw [eeq, Bool.and_eq_true] at h
    rw [seq1_eq h.1, eeq_eq h.2]
  | [], _ :: _, h => by cases h
  | _ :: _, [], h => by cases h
def addE (x : VL.Env) (r : List VL.Env) : List VL.Env := if r.any (eeq x) = true then r else x :: r
def mrgE : List VL.Env → List VL.Env
  | [] => []
  | x :: r => addE x (mrgE r)
theorem addE_mem {x y : VL.Env} {r : List VL.Env} (h : y = x ∨ y ∈ r) : y ∈ addE x r := by
  unfold addE
  split
  · rename_i q
    rcases h with h | h
    · obtain ⟨z, hz, e⟩ := List.any_eq_true.mp q
      rw [h, eeq_eq e]; exact hz
    · exact h
  · exact List.mem_cons.mpr h
theorem mrgE_mem : ∀ {l : List VL.Env} {x : VL.Env}, x ∈ l → x ∈ mrgE l
  | a :: r, x, h => addE_mem ((List.mem_cons.mp h).imp id mrgE_mem)
def sameS : List VL.Env → List VL.Env → Bool
  | [], [] => true
  | a :: r, b :: q => eeq a b && sameS r q
  | _, _ => false
theorem sameS_eq : ∀ {a b : List VL.Env}, sameS a b = true → a = b
  | [], [], _ => rfl
  | a :: r, b :: q, h => by
    rw [sameS, Bool.and_eq_true] at h
    rw [eeq_eq h.1, sameS_eq h.2]
  | [], _ :: _, h => by cases h
  | _ :: _, [], h => by cases h

/-! ### all outcomes -/
abbrev Nd (α : Type) := VL.Env → Option (List (α × VL.Env))
section
variable {α β : Type}
def pu (m : M α) : Nd α := fun Γ => match m Γ with
  | .ok a Γ' => some [(a, Γ')]
  | _ => none
def bl (f : α → Nd β) : List (α × VL.Env) → Option (List (β × VL.Env))
  | [] => some []
  | (a, Γ) :: r => match f a Γ with
    | none => none
    | some l1 => match bl f r with
      | none => none
      | some l2 => some (l1 ++ l2)
def bn (m : Nd α) (f : α → Nd β) : Nd β := fun Γ => match m Γ with
  | none => none
  | some l => bl f l
theorem bl_mem {f : α → Nd β} : ∀ {l : List (α × VL.Env)} {l' : List (β × VL.Env)} {a : α} {Γ : VL.Env}, bl f l = some l' → (a, Γ) ∈ l → ∃ l1, f a Γ = some l1 ∧ ∀ x, x ∈ l1 → x ∈ l'
  | (b, Δ) :: r, l', a, Γ, e, h => by
    unfold bl at e
    cases q : f b Δ with
    | none => rw [q] at e; cases e
    | some l1 =>
      rw [q] at e
      dsimp only at e
      cases q2 : bl f r with
      | none => rw [q2] at e; cases e
      | some l2 =>
        rw [q2] at e
        cases e
        rcases List.mem_cons.mp h with h | h
        · cases h
          exact ⟨l1, q, fun x hx => List.mem_append_left _ hx⟩
        · obtain ⟨l3, h1, h2⟩ := bl_mem q2 h
          exact ⟨l3, h1, fun x hx => List.mem_append_right _ (h2 x hx)⟩
def Sim (i : Nat) (m : M α) (n : Nd α) : Prop := ∀ N P Γn Γ, Hid i N P Γn Γ → ∀ l, n Γn = some l → ∃ a Γn' Γ' P', (a, Γn') ∈ l ∧ m Γ = .ok a Γ' ∧ Hid i N P' Γn' Γ'
end
section
variable {i : Nat} {α β : Type}
theorem sim_pu {m : M α} (h : Mo i m) : Sim i m (pu m) := fun N P Γn Γ hh l e => by
  unfold pu at e
  cases q : m Γn with
  | ok a Γ1 =>
    rw [q] at e
    cases e
    obtain ⟨Γ2, e2, h2⟩ := h N P Γn Γ hh a Γ1 q
    exact ⟨a, Γ1, Γ2, P, List.mem_singleton.mpr rfl, e2, h2⟩
  | ex c g => rw [q] at e; cases e
  | bad => rw [q] at e; cases e
theorem sim_bn {m : M α} {n : Nd α} {f : α → M β} {g : α → Nd β} (h : Sim i m n) (k : ∀ a, Sim i (f a) (g a)) : Sim i (bnd m f) (bn n g) := fun N P Γn Γ hh l e => by
  unfold bn at e
  cases q : n Γn with
  | none => rw [q] at e; cases e
  | some l0 =>
    rw [q] at e
    obtain ⟨a, Γ1, Γ2, P1, m1, e1, h1⟩ := h N P Γn Γ hh l0 q
    obtain ⟨l1, e2, sub⟩ := bl_mem e m1
    obtain ⟨b, Γ3, Γ4, P2, m2, e3, h2⟩ := k a N P1 Γ1 Γ2 h1 l1 e2
    refine ⟨b, Γ3, Γ4, P2, sub _ m2, ?_, h2⟩
    unfold bnd
    rw [e1]
    exact e3
theorem sim_ret {a : α} : Sim i (ret a) (pu (ret a)) := sim_pu mo_ret
theorem sim_if {c : Prop} [Decidable c] {m m' : M α} {n n' : Nd α} (h : Sim i m n) (k : Sim i m' n') : Sim i (if c then m else m') (if c then n else n') := by
  split
  · exact h
  · exact k
/-! expressions -/
def argsN : List (Nd Od) → Nd (List Od)
  | [] => pu (ret [])
  | a :: r => bn a fun x => bn (argsN r) fun xs => pu (ret (x :: xs))
theorem sim_args0 : Sim i (argsE []) (argsN []) := sim_ret
theorem sim_args1 {a : M Od} {r : List (M Od)} {a' : Nd Od} {r' : List (Nd Od)} (h : Sim i a a') (k : Sim i (argsE r) (argsN r')) : Sim i (argsE (a :: r)) (argsN (a' :: r')) := sim_bn h fun _ => sim_bn k fun _ => sim_ret
def lift1N (f : D → Option D) (a : Nd Od) : Nd Od := bn a fun x => pu (bnd (soft x) fun d => bnd (ofO (f d)) fun r => ret (.d r))
theorem sim_lift1 {f : D → Option D} {a : M Od} {a' : Nd Od} (h : Sim i a a') : Sim i (lift1 f a) (lift1N f a') := sim_bn h fun x => sim_pu (mo_bnd (mo_soft x) fun d => mo_bnd mo_ofO fun r => mo_ret)
def lift2N (f : D → D → Option D) (a b : Nd Od) : Nd Od := bn a fun x => bn b fun y => pu (bnd (soft x) fun dx => bnd (soft y) fun dy => bnd (ofO (f dx dy)) fun r => ret (.d r))
theorem sim_lift2 {f : D → D → Option D} {a b : M Od} {a' b' : Nd Od} (h : Sim i a a') (k : Sim i b b') : Sim i (lift2 f a b) (lift2N f a' b') := sim_bn h fun x => sim_bn k fun y => sim_pu (mo_bnd (mo_soft x) fun d => mo_bnd (mo_soft y) fun e => mo_bnd mo_ofO fun r => mo_ret)
def bin2N (f : D → D → Option D) (a b : Nd Od) : Nd Od := bn a fun x => bn b fun y => pu (bnd (soft x) fun dx => bnd (soft y) fun dy => bnd (ofO (f dx dy)) fun r => ret (odN r))
theorem sim_bin2 {f : D → D → Option D} {a b : M Od} {a' b' : Nd Od} (h : Sim i a a') (k : Sim i b b') : Sim i (bin2 f a b) (bin2N f a' b') := sim_bn h fun x => sim_bn k fun y => sim_pu (mo_bnd (mo_soft x) fun d => mo_bnd (mo_soft y) fun e => mo_bnd mo_ofO fun r => mo_ret)
def listN (as : List (Nd Od)) : Nd Od := bn (argsN as) fun xs => pu (bnd (hards xs) fun ds => if ds.length ≤ SZ then ret (.fl ds) else VL.bad)
theorem sim_list {as : List (M Od)} {as' : List (Nd Od)} (h : Sim i (argsE as) (argsN as')) : Sim i (listE as) (listN as') := sim_bn h fun xs => sim_pu (mo_bnd (mo_hards xs) fun ds => mo_if mo_ret mo_bad)
def tupN (as : List (Nd Od)) : Nd Od := bn (argsN as) fun xs => pu (bnd (hards xs) fun ds => if ds.length ≤ SZ then ret (.d (.tuple ds)) else VL.bad)
theorem sim_tup {as : List (M Od)} {as' : List (Nd Od)} (h : Sim i (argsE as) (argsN as')) : Sim i (tupE as) (tupN as') := sim_bn h fun xs => sim_pu (mo_bnd (mo_hards xs) fun ds => mo_if mo_ret mo_bad)
def bfN (b : Bf) (as : List (Nd Od)) : Nd Od := bn (argsN as) fun xs => pu (bnd (softs xs) fun ds => bnd (ofO (bfD b ds)) fun r => ret (odN r))
theorem sim_bf {b : Bf} {as : List (M Od)} {as' : List (Nd Od)} (h : Sim i (argsE as) (argsN as')) : Sim i (bfE b as) (bfN b as') := sim_bn h fun xs => sim_pu (mo_bnd (mo_softs xs) fun ds => mo_bnd mo_ofO fun _ => mo_ret)
def truN (a : Nd Od) : Nd Bool := bn a fun x => pu (bnd (soft x) fun d => ofO (truthD d))
theorem sim_tru {a : M Od} {a' : Nd Od} (h : Sim i a a') : Sim i (truE a) (truN a') := sim_bn h fun x => sim_pu (mo_bnd (mo_soft x) fun _ => mo_ofO)
def valN (a : Nd Od) : Nd Bool := bn a fun x => pu (bnd (soft x) fun d => ofO (boolOf d))
theorem sim_val {a : M Od} {a' : Nd Od} (h : Sim i a a') : Sim i (valT a) (valN a') := sim_bn h fun x => sim_pu (mo_bnd (mo_soft x) fun _ => mo_ofO)
def andN (a b : Nd Bool) : Nd Bool := bn a fun x => if x then b else pu (ret false)
theorem sim_and {a b : M Bool} {a' b' : Nd Bool} (h : Sim i a a') (k : Sim i b b') : Sim i (andT a b) (andN a' b') := sim_bn h fun x => sim_if k sim_ret
def orN (a b : Nd Bool) : Nd Bool := bn a fun x => if x then pu (ret true) else b
theorem sim_or {a b : M Bool} {a' b' : Nd Bool} (h : Sim i a a') (k : Sim i b b') : Sim i (orT a b) (orN a' b') := sim_bn h fun x => sim_if sim_ret k
def notN (a : Nd Bool) : Nd Bool := bn a fun x => pu (ret (!x))
theorem sim_not {a : M Bool} {a' : Nd Bool} (h : Sim i a a') : Sim i (notT a) (notN a') := sim_bn h fun x => sim_ret
def ifTN (c : Nd Bool) (a b : Nd α) : Nd α := bn c fun x => if x then a else b
theorem sim_ifT {c : M Bool} {a b : M α} {c' : Nd Bool} {a' b' : Nd α} (h : Sim i c c') (k : Sim i a a') (l : Sim i b b') : Sim i (ifT c a b) (ifTN c' a' b') := sim_bn h fun x => sim_if k l
def andEN (a b : Nd Od) : Nd Od := bn a fun x => bn (pu (bnd (soft x) fun d => ofO (boolOf d))) fun k => if k then b else pu (ret (.d (.bool false)))
theorem andE_eq {a b : M Od} : andE a b = bnd a fun x => bnd (bnd (soft x) fun d => ofO (boolOf d)) fun k => if k then b else ret (.d (.bool false)) := by
  unfold andE
  congr 1
  funext x Γ
  unfold bnd
  cases soft x Γ with
  | ok d Γ1 => rfl
  | ex c g => rfl
  | bad => rfl
theorem sim_andE {a b : M Od} {a' b' : Nd Od} (h : Sim i a a') (k : Sim i b b') : Sim i (andE a b) (andEN a' b') := by
  rw [andE_eq]
  exact sim_bn h fun x => sim_bn (sim_pu (mo_bnd (mo_soft x) fun _ => mo_ofO)) fun c => sim_if k sim_ret
def orEN (a b : Nd Od) : Nd Od := bn a fun x => bn (pu (bnd (soft x) fun d => ofO (boolOf d))) fun k => if k then pu (ret (.d (.bool true))) else b
theorem orE_eq {a b : M Od} : orE a b = bnd a fun x => bnd (bnd (soft x) fun d => ofO (boolOf d)) fun k => if k then ret (.d (.bool true)) else b := by
  unfold orE
  congr 1
  funext x Γ
  unfold bnd
  cases soft x Γ with
  | ok d Γ1 => rfl
  | ex c g => rfl
  | bad => rfl
theorem sim_orE {a b : M Od} {a' b' : Nd Od} (h : Sim i a a') (k : Sim i b b') : Sim i (orE a b) (orEN a' b') := by
  rw [orE_eq]
  exact sim_bn h fun x => sim_bn (sim_pu (mo_bnd (mo_soft x) fun _ => mo_ofO)) fun c => sim_if sim_ret k
def intN (a : Nd Od) : Nd Int := bn a fun x => pu (bnd (soft x) fun d => match d with | .int i => ret i | _ => VL.bad)
theorem sim_int {a : M Od} {a' : Nd Od} (h : Sim i a a') : Sim i (intE a) (intN a') := sim_bn h fun x => sim_pu (mo_bnd (mo_soft x) fun d => by cases d <;> first | exact mo_ret | exact mo_bad)
def partEN (a : Nd Od) : Nd (Option Int) := bn (intN a) fun j => pu (ret (some j))
theorem sim_part {a : M Od} {a' : Nd Od} (h : Sim i a a') : Sim i (partE a) (partEN a') := sim_bn (sim_int h) fun _ => sim_ret
def sliceN (a : Nd Od) (lo hi : Nd (Option Int)) : Nd Od := bn a fun x => bn lo fun l => bn hi fun h => pu (bnd (soft x) fun d => bnd (ofO (sliceD d l h)) fun r => ret (odN r))
theorem sim_slice {a : M Od} {lo hi : M (Option Int)} {a' : Nd Od} {lo' hi' : Nd (Option Int)} (h : Sim i a a') (k : Sim i lo lo') (l : Sim i hi hi') : Sim i (sliceE a lo hi) (sliceN a' lo' hi') := sim_bn h fun x => sim_bn k fun _ => sim_bn l fun _ => sim_pu (mo_bnd (mo_soft x) fun _ => mo_bnd mo_ofO fun _ => mo_ret)
def itN (a : Nd Od) : Nd Itm := bn a fun x => pu (bnd (soft x) fun d => bnd (ofO (seqOf d)) fun ds => ret ⟨ds, odLock x⟩)
theorem sim_it {a : M Od} {a' : Nd Od} (h : Sim i a a') : Sim i (itE a) (itN a') := sim_bn h fun x => sim_pu (mo_bnd (mo_soft x) fun _ => mo_bnd mo_ofO fun _ => mo_ret)
def rg1N (a : Nd Od) : Nd Itm := bn (intN a) fun n => pu (if rngOk n then ret ⟨rngD 0 n, none⟩ else VL.bad)
theorem sim_rg1 {a : M Od} {a' : Nd Od} (h : Sim i a a') : Sim i (rg1E a) (rg1N a') := sim_bn (sim_int h) fun _ => sim_pu (mo_if mo_ret mo_bad)
def rg2N (a b : Nd Od) : Nd Itm := bn (intN a) fun l => bn (intN b) fun h => pu (if rngOk l && rngOk h then ret ⟨rngD l h, none⟩ else VL.bad)
theorem sim_rg2 {a b : M Od} {a' b' : Nd Od} (h : Sim i a a') (k : Sim i b b') : Sim i (rg2E a b) (rg2N a' b') := sim_bn (sim_int h) fun _ => sim_bn (sim_int k) fun _ => sim_pu (mo_if mo_ret mo_bad)
def callN (F : FT) (f : Str) (sg : Sig) (as : List (Nd Od)) : Nd Od := bn (argsN as) fun xs => pu (bnd (hardSlots xs) (callPl F f sg))
theorem sim_call {F : FT} {f : Str} {sg : Sig} {as : List (M Od)} {as' : List (Nd Od)} (hio : sg.io = false) (h : Sim i (argsE as) (argsN as')) : Sim i (callE F f sg as) (callN F f sg as') := by
  unfold callE
  rw [hio]
  exact sim_bn h fun xs => sim_pu (mo_bnd (mo_hardSlots xs) fun _ => mo_callPl)
def mtN (j : Nat) (m : Mt) (as : List (Nd Od)) : Nd Od := fun Γ => if isLst (gt Γ j) = true then bn (argsN as) (fun xs => pu (bnd (hards xs) (mtG j m))) Γ else none
theorem sim_mt {j : Nat} {m : Mt} {as : List (M Od)} {as' : List (Nd Od)} (h : Sim i (argsE as) (argsN as')) : Sim i (mtE j m as) (mtN j m as') := fun N P Γn Γ hh l e => by
  unfold mtN at e
  unfold mtE
  by_cases c : isLst (gt Γn j) = true
  · rw [if_pos c] at e
    cases q : gt Γn j with
    | ow o =>
      rw [q] at c
      obtain ⟨g1, g2⟩ := hh.get q (by simp)
      rw [g1, if_pos c]
      exact sim_bn h (fun xs => sim_pu (mo_bnd (mo_hards xs) fun _ => mo_mtG)) N P Γn Γ hh l e
    | _ => rw [q] at c; cases c
  · rw [if_neg c] at e; cases e
/-! statements -/
def exprN (a : Nd Od) : Nd Fl := bn a fun _ => pu (ret .nx)
theorem sim_expr {a : M Od} {a' : Nd Od} (h : Sim i a a') : Sim i (exprS a) (exprN a') := sim_bn h fun _ => sim_ret
def setN (p j : Nat) (a : Nd Od) : Nd Fl := bn a fun x => pu (bnd (hard x) fun d => bnd (putS p j (.va d)) fun _ => ret .nx)
theorem sim_set {p j : Nat} {a : M Od} {a' : Nd Od} (hj : j ≠ i) (h : Sim i a a') : Sim i (setS p j a) (setN p j a') := sim_bn h fun x => sim_pu (mo_bnd (mo_hard x) fun d => mo_bnd (mo_put hj (fun c z => nomatch z)) fun _ => mo_ret)
def newR (p j : Nat) (x : Od) : M Fl := match x with
  | .fl ds => bnd (putS p j (.ow (.lst ds))) fun _ => ret .nx
  | .d d => bnd (putS p j (.va d)) fun _ => ret .nx
  | .rf k => if k = j then ret .nx else VL.bad
def newN (p j : Nat) (a : Nd Od) : Nd Fl := bn a fun x => pu (newR p j x)
theorem sim_new {p j : Nat} {a : M Od} {a' : Nd Od} (hj : j ≠ i) (h : Sim i a a') : Sim i (newS p j a) (newN p j a') := sim_bn h fun x => by
  cases x with
  | fl ds => exact sim_pu (mo_bnd (mo_put hj (fun c z => nomatch z)) fun _ => mo_ret)
  | d d => exact sim_pu (mo_bnd (mo_put hj (fun c z => nomatch z)) fun _ => mo_ret)
  | rf k => exact sim_pu (mo_if mo_ret mo_bad)
def asgN (m : MU) (a : Nd Od) : Nd Fl := bn a fun x => pu (bnd (hard x) fun d => bnd (m d) fun _ => ret .nx)
theorem sim_asg {m : MU} {a : M Od} {a' : Nd Od} (h : MoU i m) (k : Sim i a a') : Sim i (asgS m a) (asgN m a') := sim_bn k fun x => sim_pu (mo_bnd (mo_hard x) fun d => mo_bnd (h d) fun _ => mo_ret)
def retR (p : Nat) (x : Od) : M Fl := fun Γ => match x with
  | .d d => .ok (.rt (.d d)) Γ
  | .fl ds => .ok (.rt (.fl ds)) Γ
  | .rf i => match gt Γ i with
    | .ow (.lst ds) => if p ≤ i then .ok (.rt (.fl ds)) (st Γ i .no) else .bad
    | _ => .bad
def retVN (p : Nat) (a : Nd Od) : Nd Fl := bn a fun x => pu (retR p x)
theorem sim_retV {p : Nat} {a : M Od} {a' : Nd Od} (h : Sim i a a') : Sim i (retS p a) (retVN p a') := sim_bn h fun x => sim_pu (by
  have q := mo_retV (i := i) (p := p) (a := ret x) mo_ret
  exact q)
/-- the slots js are forgotten -/
def hideL : List Nat → VL.Env → VL.Env
  | [], Γ => Γ
  | j :: r, Γ => hideL r (st Γ j .no)
theorem Hid.drop {N : Nat} {P : Po} {Γn Γ : VL.Env} (h : Hid i N P Γn Γ) (j : Nat) : Hid i N P (VL.st Γn j .no) Γ where
  ln := by rw [len_st]; exact h.ln
  le := h.le
  at_ := fun k => by
    rw [gt_st2]
    split
    · exact .inr rfl
    · exact h.at_ k
  hid := by
    rw [gt_st2]
    split
    · rfl
    · exact h.hid
  pool := h.pool
  ok := h.ok
  xc := h.xc
theorem Hid.hideL {N : Nat} {P : Po} {Γ : VL.Env} : ∀ {js : List Nat} {Γn : VL.Env}, Hid i N P Γn Γ → Hid i N P (VL.hideL js Γn) Γ
  | [], _, h => h
  | j :: r, Γn, h => by
    show Hid i N P (VL.hideL r (VL.st Γn j .no)) Γ
    exact Hid.hideL (js := r) (h.drop j)
/-- the environments behind a statement that went on; what did not -/
def parts (js : List Nat) : List (Fl × VL.Env) → List VL.Env × List (Fl × VL.Env)
  | [] => ([], [])
  | (.nx, Γ) :: r => ((VL.hideL js Γ) :: (parts js r).1, (parts js r).2)
  | x :: r => ((parts js r).1, x :: (parts js r).2)
theorem parts_nx {js : List Nat} : ∀ {l : List (Fl × VL.Env)} {Γ : VL.Env}, (Fl.nx, Γ) ∈ l → VL.hideL js Γ ∈ (parts js l).1
  | (.nx, Δ) :: r, Γ, h => by
    unfold parts
    rcases List.mem_cons.mp h with h | h
    · cases h; exact List.mem_cons_self
    · exact List.mem_cons_of_mem _ (parts_nx h)
  | (.rt x, Δ) :: r, Γ, h => by
    unfold parts
    rcases List.mem_cons.mp h with h | h
    · cases h
    · exact parts_nx h
  | (.bk, Δ) :: r, Γ, h => by
    unfold parts
    rcases List.mem_cons.mp h with h | h
    · cases h
    · exact parts_nx h
  | (.ct, Δ) :: r, Γ, h => by
    unfold parts
    rcases List.mem_cons.mp h with h | h
    · cases h
    · exact parts_nx h
theorem parts_ot {js : List Nat} {f : Fl} (hf : f ≠ .nx) : ∀ {l : List (Fl × VL.Env)} {Γ : VL.Env}, (f, Γ) ∈ l → (f, Γ) ∈ (parts js l).2
  | (.nx, Δ) :: r, Γ, h => by
    unfold parts
    rcases List.mem_cons.mp h with h | h
    · cases h; exact absurd rfl hf
    · exact parts_ot hf h
  | (.rt x, Δ) :: r, Γ, h => by
    unfold parts
    rcases List.mem_cons.mp h with h | h
    · cases h; exact List.mem_cons_self
    · exact List.mem_cons_of_mem _ (parts_ot hf h)
  | (.bk, Δ) :: r, Γ, h => by
    unfold parts
    rcases List.mem_cons.mp h with h | h
    · cases h; exact List.mem_cons_self
    · exact List.mem_cons_of_mem _ (parts_ot hf h)
  | (.ct, Δ) :: r, Γ, h => by
    unfold parts
    rcases List.mem_cons.mp h with h | h
    · cases h; exact List.mem_cons_self
    · exact List.mem_cons_of_mem _ (parts_ot hf h)
/-- all of some environments -/
def runs (b : Nd Fl) : List VL.Env → Option (List (Fl × VL.Env))
  | [] => some []
  | Γ :: r => match b Γ with
    | none => none
    | some l1 => match runs b r with
      | none => none
      | some l2 => some (l1 ++ l2)
theorem runs_mem {b : Nd Fl} : ∀ {S : List VL.Env} {l : List (Fl × VL.Env)} {Γ : VL.Env}, runs b S = some l → Γ ∈ S → ∃ l1, b Γ = some l1 ∧ ∀ x, x ∈ l1 → x ∈ l
  | Δ :: r, l, Γ, e, h => by
    unfold runs at e
    cases q : b Δ with
    | none => rw [q] at e; cases e
    | some l1 =>
      rw [q] at e
      dsimp only at e
      cases q2 : runs b r with
      | none => rw [q2] at e; cases e
      | some l2 =>
        rw [q2] at e
        cases e
        rcases List.mem_cons.mp h with h | h
        · cases h
          exact ⟨l1, q, fun x hx => List.mem_append_left _ hx⟩
        · obtain ⟨l3, h1, h2⟩ := runs_mem q2 h
          exact ⟨l3, h1, fun x hx => List.mem_append_right _ (h2 x hx)⟩
def mrgIf (dd : Bool) (S : List VL.Env) : List VL.Env := if dd = true then mrgE S else S
theorem mrgIf_mem {dd : Bool} {S : List VL.Env} {x : VL.Env} (h : x ∈ S) : x ∈ mrgIf dd S := by
  unfold mrgIf
  split
  · exact mrgE_mem h
  · exact h
def seqN (js : List Nat) (dd : Bool) (a b : Nd Fl) : Nd Fl := fun Γ => match a Γ with
  | none => none
  | some l => match runs b (mrgIf dd (parts js l).1) with
    | none => none
    | some l2 => some ((parts js l).2 ++ l2)
theorem sim_seq {js : List Nat} {dd : Bool} {a b : M Fl} {a' b' : Nd Fl} (h : Sim i a a') (k : Sim i b b') : Sim i (seqS a b) (seqN js dd a' b') := fun N P Γn Γ hh l e => by
  unfold seqN at e
  cases q : a' Γn with
  | none => rw [q] at e; cases e
  | some l0 =>
    rw [q] at e
    dsimp only at e
    obtain ⟨f, Γ1, Γ2, P1, m1, e1, h1⟩ := h N P Γn Γ hh l0 q
    cases q2 : runs b' (mrgIf dd (parts js l0).1) with
    | none => rw [q2] at e; cases e
    | some l2 =>
      rw [q2] at e
      cases e
      cases f with
      | nx =>
        have m2 := mrgIf_mem (dd := dd) (parts_nx (js := js) m1)
        obtain ⟨l1, e3, sub⟩ := runs_mem q2 m2
        obtain ⟨g, Γ3, Γ4, P2, m3, e4, h2⟩ := k N P1 _ Γ2 (Hid.hideL h1) l1 e3
        refine ⟨g, Γ3, Γ4, P2, List.mem_append_right _ (sub _ m3), ?_, h2⟩
        unfold seqS bnd
        rw [e1]
        exact e4
      | rt x => exact ⟨.rt x, Γ1, Γ2, P1, List.mem_append_left _ (parts_ot (f := .rt x) (fun z => nomatch z) m1), by unfold seqS bnd; rw [e1]; rfl, h1⟩
      | bk => exact ⟨.bk, Γ1, Γ2, P1, List.mem_append_left _ (parts_ot (f := .bk) (fun z => nomatch z) m1), by unfold seqS bnd; rw [e1]; rfl, h1⟩
      | ct => exact ⟨.ct, Γ1, Γ2, P1, List.mem_append_left _ (parts_ot (f := .ct) (fun z => nomatch z) m1), by unfold seqS bnd; rw [e1]; rfl, h1⟩
theorem sim_ifS {c : M Bool} {a b : M Fl} {c' : Nd Bool} {a' b' : Nd Fl} (h : Sim i c c') (k : Sim i a a') (l : Sim i b b') : Sim i (ifS c a b) (ifTN c' a' b') := sim_ifT h k l
/-! loops -/
/-- behind a turn -/
def nxs (Γ0 : VL.Env) : List (Fl × VL.Env) → Option (List VL.Env)
  | [] => some []
  | (.nx, Γ) :: r => match nxs Γ0 r with
    | none => none
    | some S => some (maskS Γ0 Γ :: S)
  | (.ct, Γ) :: r => match nxs Γ0 r with
    | none => none
    | some S => some (maskS Γ0 Γ :: S)
  | _ => none
theorem nxs_mem {Γ0 : VL.Env} : ∀ {l : List (Fl × VL.Env)} {S : List VL.Env} {f : Fl} {Γ : VL.Env}, nxs Γ0 l = some S → (f, Γ) ∈ l → (f = .nx ∨ f = .ct) ∧ maskS Γ0 Γ ∈ S
  | (.nx, Δ) :: r, S, f, Γ, e, h => by
    unfold nxs at e
    cases q : nxs Γ0 r with
    | none => rw [q] at e; cases e
    | some S1 =>
      rw [q] at e
      cases e
      rcases List.mem_cons.mp h with h | h
      · cases h; exact ⟨.inl rfl, List.mem_cons_self⟩
      · obtain ⟨h1, h2⟩ := nxs_mem q h; exact ⟨h1, List.mem_cons_of_mem _ h2⟩
  | (.ct, Δ) :: r, S, f, Γ, e, h => by
    unfold nxs at e
    cases q : nxs Γ0 r with
    | none => rw [q] at e; cases e
    | some S1 =>
      rw [q] at e
      cases e
      rcases List.mem_cons.mp h with h | h
      · cases h; exact ⟨.inr rfl, List.mem_cons_self⟩
      · obtain ⟨h1, h2⟩ := nxs_mem q h; exact ⟨h1, List.mem_cons_of_mem _ h2⟩
  | (.rt x, Δ) :: r, S, f, Γ, e, h => by cases e
  | (.bk, Δ) :: r, S, f, Γ, e, h => by cases e
def turns (f : Nd Fl) (Γ0 : VL.Env) : List VL.Env → Option (List VL.Env)
  | [] => some []
  | Γ :: r => match f Γ with
    | none => none
    | some l => match nxs Γ0 l with
      | none => none
      | some S1 => match turns f Γ0 r with
        | none => none
        | some S2 => some (S1 ++ S2)
theorem turns_mem {f : Nd Fl} {Γ0 : VL.Env} : ∀ {S S' : List VL.Env} {Γ : VL.Env}, turns f Γ0 S = some S' → Γ ∈ S → ∃ l, f Γ = some l ∧ ∀ g Δ, (g, Δ) ∈ l → (g = Fl.nx ∨ g = Fl.ct) ∧ maskS Γ0 Δ ∈ S'
  | Δ :: r, S', Γ, e, h => by
    unfold turns at e
    cases q : f Δ with
    | none => rw [q] at e; cases e
    | some l =>
      rw [q] at e
      dsimp only at e
      cases q1 : nxs Γ0 l with
      | none => rw [q1] at e; cases e
      | some S1 =>
        rw [q1] at e
        dsimp only at e
        cases q2 : turns f Γ0 r with
        | none => rw [q2] at e; cases e
        | some S2 =>
          rw [q2] at e
          cases e
          rcases List.mem_cons.mp h with h | h
          · cases h
            exact ⟨l, q, fun g Ω hg => let ⟨h1, h2⟩ := nxs_mem q1 hg; ⟨h1, List.mem_append_left _ h2⟩⟩
          · obtain ⟨l1, h1, h2⟩ := turns_mem q2 h
            exact ⟨l1, h1, fun g Ω hg => let ⟨h3, h4⟩ := h2 g Ω hg; ⟨h3, List.mem_append_right _ h4⟩⟩
/-- a turn, told of the run itself -/
theorem turn_ok {m : M Fl} {f : Nd Fl} {N : Nat} {P0 : Po} {Γ0n Γ0 Γn Γ : VL.Env} {S S' : List VL.Env} (h0 : Hid i N P0 Γ0n Γ0) (hf : ∀ l, f Γn = some l → ∃ a Γn' Γ' P', (a, Γn') ∈ l ∧ m Γ = .ok a Γ' ∧ Hid i N P' Γn' Γ') (e : turns f Γ0n S = some S') (hm : Γn ∈ S) :
    ∃ a Γ' Γn' P', m Γ = .ok a Γ' ∧ (a = Fl.nx ∨ a = Fl.ct) ∧ Γn' ∈ S' ∧ Hid i N P' Γn' (maskS Γ0 Γ') := by
  obtain ⟨l, e1, k⟩ := turns_mem e hm
  obtain ⟨a, Γ1, Γ2, P', m1, e2, h2⟩ := hf l e1
  obtain ⟨k1, k2⟩ := k a Γ1 m1
  exact ⟨a, Γ2, _, P', e2, k1, k2, h0.mask h2⟩
def forLN (m : D → M Unit) (body : Nd Fl) (Γ0 : VL.Env) : List D → List VL.Env → Option (List VL.Env)
  | [], S => some S
  | x :: r, S => match turns (bn (pu (m x)) fun _ => body) Γ0 S with
    | none => none
    | some S' => forLN m body Γ0 r (mrgE S')
theorem sim_forL {m : D → M Unit} {body : M Fl} {body' : Nd Fl} (hm : MoU i m) (hb : Sim i body body') {N : Nat} {P0 : Po} {Γ0n Γ0 : VL.Env} (h0 : Hid i N P0 Γ0n Γ0) : ∀ (ds : List D) (S R : List VL.Env) (P : Po) (Γn Γ : VL.Env), forLN m body' Γ0n ds S = some R → Γn ∈ S → Hid i N P Γn Γ →
    ∃ Γn' Γ' P', Γn' ∈ R ∧ forL m body Γ0 ds Γ = .ok .nx Γ' ∧ Hid i N P' Γn' Γ'
  | [], S, R, P, Γn, Γ, e, hs, h => by cases e; exact ⟨Γn, Γ, P, hs, rfl, h⟩
  | x :: r, S, R, P, Γn, Γ, e, hs, h => by
    unfold forLN at e
    cases q : turns (bn (pu (m x)) fun _ => body') Γ0n S with
    | none => rw [q] at e; cases e
    | some S' =>
      rw [q] at e
      obtain ⟨a, Γ1, Γ1n, P1, e1, ha, m1, h1⟩ := turn_ok (m := bnd (m x) fun _ => body) h0 (fun l el => sim_bn (sim_pu (hm x)) (fun _ => hb) N P Γn Γ h l el) q hs
      obtain ⟨Γ2n, Γ2, P2, m2, e2, h2⟩ := sim_forL hm hb h0 r (mrgE S') R P1 Γ1n _ e (mrgE_mem m1) h1
      refine ⟨Γ2n, Γ2, P2, m2, ?_, h2⟩
      unfold forL
      rw [e1]
      rcases ha with rfl | rfl
      · exact e2
      · exact e2
def toNx : Option (List VL.Env) → Option (List (Fl × VL.Env))
  | none => none
  | some S => some (S.map fun Γ => (Fl.nx, Γ))
def forN (m : D → M Unit) (it : Nd Itm) (body : Nd Fl) : Nd Fl := bn it fun x => bn (pu (frzI x)) fun ds => fun Γ => toNx (forLN m body Γ ds [Γ])
theorem sim_for {m : D → M Unit} {it : M Itm} {body : M Fl} {it' : Nd Itm} {body' : Nd Fl} (hm : MoU i m) (hi : Sim i it it') (hb : Sim i body body') : Sim i (forS m it body) (forN m it' body') := sim_bn hi fun x => sim_bn (sim_pu (mo_frz x)) fun ds => fun N P Γn Γ h l e => by
  cases q : forLN m body' Γn ds [Γn] with
  | none => rw [q] at e; cases e
  | some R =>
    rw [q] at e
    cases e
    obtain ⟨Γ2n, Γ2, P2, m2, e2, h2⟩ := sim_forL hm hb h ds [Γn] R P Γn Γ q (List.mem_singleton.mpr rfl) h
    exact ⟨.nx, Γ2n, Γ2, P2, List.mem_map.mpr ⟨_, m2, rfl⟩, e2, h2⟩
/-- the loop's variable is not looked at -/
def forLU (j : Nat) (body : Nd Fl) (Γ0 : VL.Env) : Nat → List VL.Env → Option (List VL.Env)
  | 0, S => some S
  | n + 1, S => match turns (fun Γ => body (st Γ j .no)) Γ0 S with
    | none => none
    | some S' => if sameS (mrgE S') S = true then some S else forLU j body Γ0 n (mrgE S')
theorem turn_U {p j : Nat} {body : M Fl} {body' : Nd Fl} (hj : j ≠ i) (hp : ¬ j < p) (hb : Sim i body body') {N : Nat} {P0 P : Po} {Γ0n Γ0 Γn Γ : VL.Env} {S S' : List VL.Env} (h0 : Hid i N P0 Γ0n Γ0) (x : D) (e : turns (fun Γ => body' (st Γ j .no)) Γ0n S = some S') (hs : Γn ∈ S) (h : Hid i N P Γn Γ) :
    ∃ a Γ' Γn' P', bnd (nmU p j x) (fun _ => body) Γ = .ok a Γ' ∧ (a = Fl.nx ∨ a = Fl.ct) ∧ Γn' ∈ S' ∧ Hid i N P' Γn' (maskS Γ0 Γ') :=
  turn_ok (m := bnd (nmU p j x) fun _ => body) h0 (fun l el => by
    obtain ⟨a, Γ1, Γ2, P1, m1, e1, h1⟩ := hb N P (st Γn j .no) (st Γ j (.va x)) (h.st hj (.inr rfl) (fun c z => nomatch z)) l el
    refine ⟨a, Γ1, Γ2, P1, m1, ?_, h1⟩
    unfold bnd nmU putS
    rw [if_neg hp]
    exact e1) e hs
theorem sim_forU {p j : Nat} {body : M Fl} {body' : Nd Fl} (hj : j ≠ i) (hp : ¬ j < p) (hb : Sim i body body') {N : Nat} {P0 : Po} {Γ0n Γ0 : VL.Env} (h0 : Hid i N P0 Γ0n Γ0) : ∀ (ds : List D) (S R : List VL.Env) (P : Po) (Γn Γ : VL.Env), forLU j body' Γ0n ds.length S = some R → Γn ∈ S → Hid i N P Γn Γ →
    ∃ Γn' Γ' P', Γn' ∈ R ∧ forL (nmU p j) body Γ0 ds Γ = .ok .nx Γ' ∧ Hid i N P' Γn' Γ'
  | [], S, R, P, Γn, Γ, e, hs, h => by cases e; exact ⟨Γn, Γ, P, hs, rfl, h⟩
  | x :: r, S, R, P, Γn, Γ, e, hs, h => by
    rw [List.length_cons] at e
    unfold forLU at e
    cases q : turns (fun Γ => body' (st Γ j .no)) Γ0n S with
    | none => rw [q] at e; cases e
    | some S' =>
      rw [q] at e
      dsimp only at e
      obtain ⟨a, Γ1, Γ1n, P1, e1, ha, m1, h1⟩ := turn_U hj hp hb h0 x q hs h
      have m1' := mrgE_mem m1
      have fin : (∃ Γn' Γ' P', Γn' ∈ R ∧ forL (nmU p j) body Γ0 r (maskS Γ0 Γ1) = .ok .nx Γ' ∧ Hid i N P' Γn' Γ') → ∃ Γn' Γ' P', Γn' ∈ R ∧ forL (nmU p j) body Γ0 (x :: r) Γ = .ok .nx Γ' ∧ Hid i N P' Γn' Γ' := by
        rintro ⟨Γ2n, Γ2, P2, m2, e2, h2⟩
        refine ⟨Γ2n, Γ2, P2, m2, ?_, h2⟩
        unfold forL
        rw [e1]
        rcases ha with rfl | rfl
        · exact e2
        · exact e2
      refine fin ?_
      by_cases c : sameS (mrgE S') S = true
      · rw [if_pos c] at e
        have eS := sameS_eq c
        have again : ∀ n : Nat, forLU j body' Γ0n n S = some S := fun n => by
          cases n with
          | zero => rfl
          | succ n =>
            unfold forLU
            rw [q]
            exact if_pos c
        have e' : some S = some R := e
        cases e'
        exact sim_forU hj hp hb h0 r S S P1 Γ1n _ (again _) (eS ▸ m1') h1
      · rw [if_neg c] at e
        exact sim_forU hj hp hb h0 r (mrgE S') R P1 Γ1n _ e m1' h1
def forUN (p j : Nat) (it : Nd Itm) (body : Nd Fl) : Nd Fl := bn it fun x => bn (pu (frzI x)) fun ds => fun Γ => toNx (forLU j body Γ ds.length [Γ])
theorem sim_forUN {p j : Nat} {it : M Itm} {body : M Fl} {it' : Nd Itm} {body' : Nd Fl} (hj : j ≠ i) (hp : ¬ j < p) (hi : Sim i it it') (hb : Sim i body body') : Sim i (forS (nmU p j) it body) (forUN p j it' body') := sim_bn hi fun x => sim_bn (sim_pu (mo_frz x)) fun ds => fun N P Γn Γ h l e => by
  cases q : forLU j body' Γn ds.length [Γn] with
  | none => rw [q] at e; cases e
  | some R =>
    rw [q] at e
    cases e
    obtain ⟨Γ2n, Γ2, P2, m2, e2, h2⟩ := sim_forU hj hp hb h ds [Γn] R P Γn Γ q (List.mem_singleton.mpr rfl) h
    exact ⟨.nx, Γ2n, Γ2, P2, List.mem_map.mpr ⟨_, m2, rfl⟩, e2, h2⟩
/-! comprehensions -/
def conN (ys : List D) : List (List D × VL.Env) → List (List D × VL.Env)
  | [] => []
  | (zs, Γ) :: r => (ys ++ zs, Γ) :: conN ys r
theorem conN_mem {ys : List D} : ∀ {l : List (List D × VL.Env)} {zs : List D} {Γ : VL.Env}, (zs, Γ) ∈ l → (ys ++ zs, Γ) ∈ conN ys l
  | (z, Δ) :: r, zs, Γ, h => by
    unfold conN
    rcases List.mem_cons.mp h with h | h
    · cases h; exact List.mem_cons_self
    · exact List.mem_cons_of_mem _ (conN_mem h)
def compLN (j : Nat) (own : List Nat) (body : Nd (List D)) : List D → Nd (List D)
  | [] => pu (ret [])
  | x :: r => fun Γ => match body (st Γ j (.va x)) with
    | none => none
    | some l => bl (fun ys Δ => match compLN j own body r (hideS (ownP own) 0 Δ) with
      | none => none
      | some l2 => some (conN ys l2)) l
theorem sim_compL {j : Nat} {own : List Nat} {body : M (List D)} {body' : Nd (List D)} (hj : j ≠ i) (ho : own.contains i = false) (hb : Sim i body body') : ∀ ds, Sim i (compL j own body ds) (compLN j own body' ds)
  | [] => sim_ret
  | x :: r => fun N P Γn Γ h l e => by
    unfold compLN at e
    cases q : body' (st Γn j (.va x)) with
    | none => rw [q] at e; cases e
    | some l0 =>
      rw [q] at e
      dsimp only at e
      obtain ⟨ys, Γ1, Γ2, P1, m1, e1, h1⟩ := hb N P _ _ (h.st1 hj (t := .va x) (fun c z => nomatch z)) l0 q
      obtain ⟨l1, e2, sub⟩ := bl_mem e m1
      cases q2 : compLN j own body' r (hideS (ownP own) 0 Γ1) with
      | none => rw [q2] at e2; cases e2
      | some l2 =>
        rw [q2] at e2
        cases e2
        obtain ⟨zs, Γ3, Γ4, P2, m2, e3, h2⟩ := sim_compL hj ho hb r N P1 _ _ (h1.hide (p := ownP own) ho) l2 q2
        refine ⟨ys ++ zs, Γ3, Γ4, P2, sub _ (conN_mem m2), ?_, h2⟩
        unfold compL
        rw [e1]
        dsimp only
        rw [e3]
def bodyN (cs : Nd Bool) (elt : Nd Od) : Nd (List D) := bn cs fun k => if k then bn elt fun y => pu (bnd (hard y) fun d => ret [d]) else pu (ret [])
theorem sim_body {cs : M Bool} {elt : M Od} {cs' : Nd Bool} {elt' : Nd Od} (h : Sim i cs cs') (k : Sim i elt elt') : Sim i (bodyE cs elt) (bodyN cs' elt') := sim_bn h fun b => sim_if (sim_bn k fun y => sim_pu (mo_bnd (mo_hard y) fun _ => mo_ret)) sim_ret
def backN (p : Nat → Bool) (Γ : VL.Env) : List (List D × VL.Env) → List (List D × VL.Env)
  | [] => []
  | (zs, Δ) :: r => (zs, backS p 0 Γ Δ) :: backN p Γ r
theorem backN_mem {p : Nat → Bool} {Γ : VL.Env} : ∀ {l : List (List D × VL.Env)} {zs : List D} {Δ : VL.Env}, (zs, Δ) ∈ l → (zs, backS p 0 Γ Δ) ∈ backN p Γ l
  | (z, Ω) :: r, zs, Δ, h => by
    unfold backN
    rcases List.mem_cons.mp h with h | h
    · cases h; exact List.mem_cons_self
    · exact List.mem_cons_of_mem _ (backN_mem h)
/-- the range is not drawn -/
def compGN (j : Nat) (own : List Nat) (it : Nd Itm) (body : Nd (List D)) : Nd (List D) := bn it fun x Γ => match compLN j own body x.ds (hideS (keepP own x.lock) 0 Γ) with
  | none => none
  | some l => some (backN (keepP own x.lock) Γ l)
def NoLkN (i : Nat) (it : Nd Itm) : Prop := ∀ Γn l x Γ, it Γn = some l → (x, Γ) ∈ l → gt Γn i = .no → x.lock ≠ some i
theorem sim_compG {j : Nat} {own : List Nat} {it : M Itm} {it' : Nd Itm} {body : M (List D)} {body' : Nd (List D)} (hj : j ≠ i) (ho : own.contains i = false) (hl : ∀ N P Γn Γ, Hid i N P Γn Γ → ∀ l x Γ1, it' Γn = some l → (x, Γ1) ∈ l → x.lock ≠ some i) (hi : Sim i it it') (hb : Sim i body body') : Sim i (compG j own it body) (compGN j own it' body') := fun N P Γn Γ h l e => by
  unfold compGN bn at e
  cases q : it' Γn with
  | none => rw [q] at e; cases e
  | some l0 =>
    rw [q] at e
    obtain ⟨x, Γ1, Γ2, P1, m1, e1, h1⟩ := hi N P Γn Γ h l0 q
    have kp := keep_no ho (hl N P Γn Γ h l0 x Γ1 q m1)
    obtain ⟨l1, e2, sub⟩ := bl_mem e m1
    cases q2 : compLN j own body' x.ds (hideS (keepP own x.lock) 0 Γ1) with
    | none => rw [q2] at e2; cases e2
    | some l2 =>
      rw [q2] at e2
      cases e2
      obtain ⟨zs, Γ3, Γ4, P2, m2, e3, h2⟩ := sim_compL hj ho hb x.ds N P1 _ _ (h1.hide kp) l2 q2
      refine ⟨zs, _, _, P2, sub _ (backN_mem m2), ?_, h1.back h2 kp⟩
      unfold compG bnd
      rw [e1]
      dsimp only
      rw [e3]
def compN (j : Nat) (own : List Nat) (it : Nd Itm) (cs : Nd Bool) (elt : Nd Od) : Nd Od := bn (compGN j own it (bodyN cs elt)) fun zs => pu (if zs.length ≤ SZ then ret (.fl zs) else VL.bad)
theorem lkN_pu {it : M Itm} (h : NoLk i it) : ∀ N P Γn Γ, Hid i N P Γn Γ → ∀ l x Γ1, pu it Γn = some l → (x, Γ1) ∈ l → x.lock ≠ some i := fun N P Γn Γ hh l x Γ1 e m => by
  unfold pu at e
  cases q : it Γn with
  | ok y Γ2 =>
    rw [q] at e
    cases e
    cases List.mem_singleton.mp m
    exact h N P Γn Γ hh x Γ1 q
  | ex c g => rw [q] at e; cases e
  | bad => rw [q] at e; cases e
theorem bl_inv {f : α → Nd β} : ∀ {l : List (α × VL.Env)} {l' : List (β × VL.Env)} {y : β × VL.Env}, bl f l = some l' → y ∈ l' → ∃ a Γ l1, f a Γ = some l1 ∧ y ∈ l1
  | [], l', y, e, h => by cases e; cases h
  | (b, Δ) :: r, l', y, e, h => by
    unfold bl at e
    cases q : f b Δ with
    | none => rw [q] at e; cases e
    | some l1 =>
      rw [q] at e
      cases q2 : bl f r with
      | none => rw [q2] at e; cases e
      | some l2 =>
        rw [q2] at e
        cases e
        rcases List.mem_append.mp h with h | h
        · exact ⟨b, Δ, l1, q, h⟩
        · exact bl_inv q2 h
theorem lkN_rg1 {a : Nd Od} : ∀ N P Γn Γ, Hid i N P Γn Γ → ∀ l x Γ1, rg1N a Γn = some l → (x, Γ1) ∈ l → x.lock ≠ some i := fun N P Γn Γ hh l x Γ1 e m => by
  unfold rg1N at e
  generalize intN a = b at e
  unfold bn at e
  cases q : b Γn with
  | none => rw [q] at e; cases e
  | some l0 =>
    rw [q] at e
    obtain ⟨n, Δ, l1, e1, m1⟩ := bl_inv e m
    unfold pu at e1
    by_cases c : rngOk n = true
    · rw [if_pos c] at e1
      cases e1
      cases List.mem_singleton.mp m1
      exact fun z => nomatch z
    · rw [if_neg c] at e1
      cases e1
theorem sim_comp {j : Nat} {own : List Nat} {it : M Itm} {it' : Nd Itm} {cs : M Bool} {elt : M Od} {cs' : Nd Bool} {elt' : Nd Od} (hj : j ≠ i) (ho : own.contains i = false) (hl : ∀ N P Γn Γ, Hid i N P Γn Γ → ∀ l x Γ1, it' Γn = some l → (x, Γ1) ∈ l → x.lock ≠ some i) (hi : Sim i it it') (hc : Sim i cs cs') (he : Sim i elt elt') : Sim i (compE j own it cs elt) (compN j own it' cs' elt') :=
  sim_bn (sim_compG hj ho hl hi (sim_body hc he)) fun zs => sim_pu (mo_if mo_ret mo_bad)
/-! ### what is drawn -/
structure Draws (F : FT) : Prop where
  draw : ∀ (P : Po) (m : Int), P.ok → 0 < m → m < 1073741824 → ∃ (v : Int) (P' : Po), 0 ≤ v ∧ v < m ∧ P'.ok ∧ F "_law_draw" [P.sl, .va (.int m)] = .ok (.d (.int v)) [P'.sl]
  pick : ∀ (P : Po) (ds : List D), P.ok → ds ≠ [] → (ds.length : Int) < 1073741824 → ∃ (d : D) (P' : Po), d ∈ ds ∧ P'.ok ∧ F "_law_pick" [P.sl, .va (.list ds)] = .ok (.d d) [P'.sl]
/-- 0 .. n - 1 -/
def upto : Nat → Nat → List Nat
  | 0, _ => []
  | n + 1, k => k :: upto n (k + 1)
theorem upto_mem : ∀ {n k v : Nat}, k ≤ v → v < k + n → v ∈ upto n k
  | 0, k, v, h1, h2 => by omega
  | n + 1, k, v, h1, h2 => by
    unfold upto
    rcases Nat.eq_or_lt_of_le h1 with h | h
    · rw [h]; exact List.mem_cons_self
    · exact List.mem_cons_of_mem _ (upto_mem h (by omega))
def outs (Γ : VL.Env) : List Nat → List (Od × VL.Env)
  | [] => []
  | v :: r => (.d (.int (Int.ofNat v)), Γ) :: outs Γ r
theorem outs_mem {Γ : VL.Env} : ∀ {l : List Nat} {v : Nat}, v ∈ l → (Od.d (.int (Int.ofNat v)), Γ) ∈ outs Γ l
  | a :: r, v, h => by
    unfold outs
    rcases List.mem_cons.mp h with h | h
    · rw [h]; exact List.mem_cons_self
    · exact List.mem_cons_of_mem _ (outs_mem h)
def drawR (y : Od) : Nd Od := fun Γ => match y with
  | .d (.int (.ofNat (m + 1))) => if Nat.blt m 1073741823 = true then some (outs Γ (upto (m + 1) 0)) else none
  | _ => none
def drawN (a : Nd Od) : Nd Od := bn a drawR
theorem args_io {i : Nat} {F : FT} {f : Str} {sg : Sig} {as : List (M Od)} (hio : sg.io = true) (N : Nat) (P : Po) {Γn Γ : VL.Env} (h : Hid i N P Γn Γ) : callE F f sg (vr i :: as) Γ = bnd (argsE as) (fun xs => bnd (hardSlots xs) (callIo F f sg i)) Γ := by
  have e : vr i Γ = .ok (.rf i) Γ := by unfold vr; rw [h.pool]
  have e2 : argsE (vr i :: as) Γ = bnd (argsE as) (fun xs => ret (.rf i :: xs)) Γ := by
    show bnd (vr i) (fun x => bnd (argsE as) fun xs => ret (x :: xs)) Γ = _
    unfold bnd
    rw [e]
  unfold callE
  rw [hio]
  generalize argsE (vr i :: as) = ar at e2
  unfold bnd at e2 ⊢
  rw [e2]
  cases argsE as Γ with
  | ok xs Γ1 => rfl
  | ex c g => rfl
  | bad => rfl
theorem sim_draw {F : FT} {a : M Od} {a' : Nd Od} {sg : Sig} (hd : Draws F) (hs : sg = ⟨2, true, []⟩) (h : Sim i a a') : Sim i (callE F "_law_draw" sg [vr i, a]) (drawN a') := fun N P Γn Γ hh l e => by
  subst hs
  rw [args_io rfl N P hh]
  unfold drawN at e
  have k : Sim i (bnd a fun x => bnd (hardSlots [x]) (callIo F "_law_draw" ⟨2, true, []⟩ i)) (bn a' drawR) := sim_bn h fun y => fun N P Γn Γ hh l e => by
    unfold drawR at e
    split at e
    · rename_i m
      split at e
      · rename_i hm
        cases e
        have hm : m < 1073741823 := by simpa [Nat.blt_eq] using hm
        obtain ⟨v, P', v0, v1, ok', eF⟩ := hd.draw P (Int.ofNat (m + 1)) hh.ok (by show (0 : Int) < ((m + 1 : Nat) : Int); omega) (by show ((m + 1 : Nat) : Int) < 1073741824; omega)
        refine ⟨.d (.int v), Γn, _, P', ?_, ?_, hh.ofPool ok' hh.lt⟩
        · have ev : v = Int.ofNat v.toNat := (Int.toNat_of_nonneg v0).symm
          rw [ev]
          refine outs_mem (upto_mem (Nat.zero_le _) ?_)
          have : v < ((m + 1 : Nat) : Int) := v1
          omega
        · unfold hardSlots hardSlot hardSlots bnd VL.ret callIo
          dsimp only
          rw [hh.pool]
          dsimp only [dflS, List.length, List.drop, List.append_nil, List.map]
          show (match F "_law_draw" [P.sl, .va (.int (Int.ofNat (m + 1)))] with | .ok r (o' :: _) => _ | .ex c (o' :: _) => _ | _ => _) = _
          rw [eF]
          rfl
      · cases e
    · cases e
  obtain ⟨b, Γ1, Γ2, P1, m1, e1, h1⟩ := k N P Γn Γ hh l e
  refine ⟨b, Γ1, Γ2, P1, m1, ?_, h1⟩
  rw [← e1]
  unfold argsE argsE bnd
  cases a Γ <;> rfl
def outD (Γ : VL.Env) : List D → List (Od × VL.Env)
  | [] => []
  | d :: r => (.d d, Γ) :: outD Γ r
theorem outD_mem {Γ : VL.Env} : ∀ {l : List D} {d : D}, d ∈ l → (Od.d d, Γ) ∈ outD Γ l
  | a :: r, v, h => by
    unfold outD
    rcases List.mem_cons.mp h with h | h
    · rw [h]; exact List.mem_cons_self
    · exact List.mem_cons_of_mem _ (outD_mem h)
def pickR (s : Slot) : Nd Od := fun Γ => match s with
  | .va (.list (d :: ds)) => if Nat.blt ds.length 1073741823 = true then some (outD Γ (d :: ds)) else none
  | _ => none
def pickN (a : Nd Od) : Nd Od := bn a fun x => bn (pu (hardSlot x)) pickR
theorem sim_pick {F : FT} {a : M Od} {a' : Nd Od} {sg : Sig} (hd : Draws F) (hs : sg = ⟨2, true, []⟩) (h : Sim i a a') : Sim i (callE F "_law_pick" sg [vr i, a]) (pickN a') := fun N P Γn Γ hh l e => by
  subst hs
  rw [args_io rfl N P hh]
  unfold pickN at e
  have k : Sim i (bnd a fun x => bnd (hardSlot x) fun s => callIo F "_law_pick" ⟨2, true, []⟩ i [s]) (bn a' fun x => bn (pu (hardSlot x)) pickR) := sim_bn h fun y => sim_bn (sim_pu (mo_hardSlot y)) fun s => fun N P Γn Γ hh l e => by
    unfold pickR at e
    split at e
    · rename_i d ds
      split at e
      · rename_i hm
        cases e
        have hm : ds.length < 1073741823 := by simpa [Nat.blt_eq] using hm
        obtain ⟨v, P', v0, ok', eF⟩ := hd.pick P (d :: ds) hh.ok (fun z => nomatch z) (by rw [List.length_cons]; omega)
        refine ⟨.d v, Γn, _, P', outD_mem v0, ?_, hh.ofPool ok' hh.lt⟩
        unfold callIo
        rw [hh.pool]
        dsimp only [dflS, List.length, List.drop, List.append_nil, List.map]
        show (match F "_law_pick" [P.sl, .va (.list (d :: ds))] with | .ok r (o' :: _) => _ | .ex c (o' :: _) => _ | _ => _) = _
        rw [eF]
        rfl
      · cases e
    · cases e
  obtain ⟨b, Γ1, Γ2, P1, m1, e1, h1⟩ := k N P Γn Γ hh l e
  refine ⟨b, Γ1, Γ2, P1, m1, ?_, h1⟩
  rw [← e1]
  unfold argsE argsE hardSlots hardSlots bnd
  cases a Γ with
  | ok x Γ3 => dsimp only [VL.ret]; cases hardSlot x Γ3 <;> rfl
  | ex c g => rfl
  | bad => rfl
end
end VL

/-! VZP: defs that draw; the law's end. -/
namespace VL
open PySem L2
section
variable {i : Nat} {α β : Type}
def rets (Γ : VL.Env) : List (Fl × VL.Env) → Option (List (Od × VL.Env))
  | [] => some []
  | (.rt r, _) :: q => match rets Γ q with
    | none => none
    | some l => some ((odR r, Γ) :: l)
  | (.nx, _) :: q => match rets Γ q with
    | none => none
    | some l => some ((.d .none, Γ) :: l)
  | _ => none
def rsOf : Fl → Option Rs
  | .rt r => some r
  | .nx => some (.d .none)
  | _ => none
theorem rets_mem {Γ : VL.Env} : ∀ {l : List (Fl × VL.Env)} {l' : List (Od × VL.Env)} {f : Fl} {Δ : VL.Env}, rets Γ l = some l' → (f, Δ) ∈ l → ∃ r, rsOf f = some r ∧ (odR r, Γ) ∈ l'
  | (.rt x, Ω) :: q, l', f, Δ, e, h => by
    unfold rets at e
    cases q1 : rets Γ q with
    | none => rw [q1] at e; cases e
    | some l1 =>
      rw [q1] at e
      cases e
      rcases List.mem_cons.mp h with h | h
      · cases h; exact ⟨x, rfl, List.mem_cons_self⟩
      · obtain ⟨r, h1, h2⟩ := rets_mem q1 h; exact ⟨r, h1, List.mem_cons_of_mem _ h2⟩
  | (.nx, Ω) :: q, l', f, Δ, e, h => by
    unfold rets at e
    cases q1 : rets Γ q with
    | none => rw [q1] at e; cases e
    | some l1 =>
      rw [q1] at e
      cases e
      rcases List.mem_cons.mp h with h | h
      · cases h; exact ⟨.d .none, rfl, List.mem_cons_self⟩
      · obtain ⟨r, h1, h2⟩ := rets_mem q1 h; exact ⟨r, h1, List.mem_cons_of_mem _ h2⟩
  | (.bk, Ω) :: q, l', f, Δ, e, h => by cases e
  | (.ct, Ω) :: q, l', f, Δ, e, h => by cases e
def poolR (ns : Nat) (n : Nd Fl) (ys : List Slot) : Nd Od := fun Γ => if Nat.ble (ys.length + 1) ns = true then match n (.no :: (ys ++ List.replicate (ns - (ys.length + 1)) .no)) with
    | none => none
    | some l => rets Γ l
  else none
def poolN (ns : Nat) (n : Nd Fl) (as : List (Nd Od)) : Nd Od := bn (argsN as) fun xs => bn (pu (hardSlots xs)) (poolR ns n)
theorem hs_nx1 {o : Od} {Γ Γ' : VL.Env} {y : Slot} (h : hardSlot o Γ = .ok y Γ') : ∀ c, y ≠ .xc c := by
  unfold hardSlot at h
  cases o with
  | d d => cases h; exact fun c z => nomatch z
  | fl ds => cases h; exact fun c z => nomatch z
  | rf j =>
    dsimp only at h
    cases q : gt Γ j with
    | va d => rw [q] at h; cases h; exact fun c z => nomatch z
    | sc d => rw [q] at h; cases h; exact fun c z => nomatch z
    | ow o =>
      rw [q] at h
      cases o with
      | lst ds => cases h; exact fun c z => nomatch z
      | _ => cases h
    | _ => rw [q] at h; cases h
theorem hs_nx : ∀ {os : List Od} {Γ Γ' : VL.Env} {ys : List Slot}, hardSlots os Γ = .ok ys Γ' → ∀ y, y ∈ ys → ∀ c, y ≠ .xc c
  | [], Γ, Γ', ys, h, y, hy => by cases h; cases hy
  | o :: r, Γ, Γ', ys, h, y, hy => by
    unfold hardSlots bnd at h
    cases q : hardSlot o Γ with
    | ok x Γ1 =>
      rw [q] at h
      dsimp only at h
      cases q2 : hardSlots r Γ1 with
      | ok xs Γ2 =>
        rw [q2] at h
        cases h
        rcases List.mem_cons.mp hy with e | e
        · rw [e]; exact hs_nx1 q
        · exact hs_nx q2 y e
      | ex c g => rw [q2] at h; cases h
      | bad => rw [q2] at h; cases h
    | ex c g => rw [q] at h; cases h
    | bad => rw [q] at h; cases h
theorem gt_mem : ∀ {Γ : VL.Env} {j : Nat} {s : Slot}, gt Γ j = s → s ≠ .no → s ∈ Γ
  | [], j, s, h, n => absurd h.symm n
  | a :: r, 0, s, h, n => by
    have h : a = s := h
    rw [h]; exact List.mem_cons_self
  | a :: r, j + 1, s, h, n => List.mem_cons_of_mem _ (gt_mem (Γ := r) (j := j) h n)
theorem sim_pool {F : FT} {f : Str} {sg : Sig} {ns : Nat} {m : M Fl} {n : Nd Fl} {as : List (M Od)} {as' : List (Nd Od)} (hio : sg.io = true) (hdf : sg.dfl = []) (hF : ∀ args, F f args = runB true ns m args) (hs : Sim 0 m n) (h : Sim i (argsE as) (argsN as')) : Sim i (callE F f sg (vr i :: as)) (poolN ns n as') := fun N P Γn Γ hh l e => by
  rw [args_io hio N P hh]
  unfold poolN at e
  refine sim_bn h (fun xs => ?_) N P Γn Γ hh l e
  intro N P Γn Γ hh l e
  unfold bn at e
  cases q : pu (hardSlots xs) Γn with
  | none => rw [q] at e; cases e
  | some l0 =>
    rw [q] at e
    obtain ⟨ys, Γ1, Γ2, P1, m1, e1, h1⟩ := sim_pu (mo_hardSlots xs) N P Γn Γ hh l0 q
    obtain ⟨l1, e2, sub⟩ := bl_mem e m1
    unfold poolR at e2
    by_cases c : Nat.ble (ys.length + 1) ns = true
    · rw [if_pos c] at e2
      have hle : ys.length + 1 ≤ ns := Nat.le_of_ble_eq_true c
      cases q2 : n (.no :: (ys ++ List.replicate (ns - (ys.length + 1)) .no)) with
      | none => rw [q2] at e2; cases e2
      | some l2 =>
        rw [q2] at e2
        have hin : Hid 0 ns P1 (.no :: (ys ++ List.replicate (ns - (ys.length + 1)) .no)) (P1.sl :: (ys ++ List.replicate (ns - (ys.length + 1)) .no)) := by
          refine ⟨?_, ?_, fun j => ?_, rfl, rfl, h1.ok, fun j c z => ?_⟩
          · rw [List.length_cons, List.length_append, List.length_replicate]; omega
          · rw [List.length_cons, List.length_append, List.length_replicate]; omega
          · cases j with
            | zero => exact .inr rfl
            | succ j => exact .inl rfl
          · rcases List.mem_cons.mp (gt_mem z (by simp)) with w | w
            · cases w
            · rcases List.mem_append.mp w with w | w
              · exact hs_nx e1 _ w c rfl
              · exact nomatch List.eq_of_mem_replicate w
        obtain ⟨fl, Γ3, Γ4, P2, m3, e3, h3⟩ := hs ns P1 _ _ hin l2 q2
        obtain ⟨r, e4, m4⟩ := rets_mem e2 m3
        refine ⟨odR r, Γ1, VL.st Γ2 i P2.sl, P2, sub _ m4, ?_, h1.ofPool h3.ok h1.lt⟩
        unfold bnd
        rw [e1]
        dsimp only
        unfold callIo
        rw [h1.pool]
        dsimp only
        have ed : dflS sg (ys.length + 1) = [] := by unfold dflS; rw [hdf, List.drop_nil]; rfl
        rw [ed, List.append_nil, hF]
        unfold runB
        rw [if_pos (show headOw (P1.sl :: ys) = true from rfl)]
        show (match endB true (m (P1.sl :: (ys ++ List.replicate (ns - (ys.length + 1)) .no))) with | .ok r (o' :: _) => R.ok (odR r) (VL.st Γ2 i o') | .ex c (o' :: _) => R.ex c (VL.st Γ2 i o') | _ => R.bad) = _
        rw [e3]
        have hp := h3.pool
        cases Γ4 with
        | nil => cases hp
        | cons s0 r0 =>
          have hp : s0 = P2.sl := hp
          subst hp
          cases fl with
          | nx => cases e4; rfl
          | rt x => cases e4; rfl
          | bk => cases e4
          | ct => cases e4
    · rw [if_neg c] at e2; cases e2
theorem runK_at' {tb : Tb} {k : Nat} {f : Str} {io : Bool} {ns : Nat} {m : FT → M Fl} (hk : 1 ≤ k) (r : ∀ (k : Nat) (args : List Slot), runK tb (k + 1) f args = runB io ns (m (runK tb k)) args) (args : List Slot) : runK tb k f args = runB io ns (m (runK tb (k - 1))) args := by
  obtain ⟨j, rfl⟩ : ∃ j, k = j + 1 := ⟨k - 1, by omega⟩
  exact r j args
theorem seqS_assoc (a b c : M Fl) : seqS (seqS a b) c = seqS a (seqS b c) := by
  funext Γ
  unfold seqS bnd
  cases a Γ with
  | ok f Γ1 => cases f <;> rfl
  | ex c g => rfl
  | bad => rfl
theorem pass_seq (a : M Fl) : seqS passS a = a := rfl
/-- all end with True -/
def allT : Option (List (Fl × VL.Env)) → Bool
  | some l => l.all fun x => match x.1 with
    | .rt (.d (.bool b)) => b
    | _ => false
  | none => false
theorem allT_mem {o : Option (List (Fl × VL.Env))} (h : allT o = true) : ∃ l, o = some l ∧ ∀ f Γ, (f, Γ) ∈ l → f = .rt (.d (.bool true)) := by
  cases o with
  | none => cases h
  | some l =>
    refine ⟨l, rfl, fun f Γ hm => ?_⟩
    have := List.all_eq_true.mp h _ hm
    dsimp only at this
    cases f with
    | rt r =>
      cases r with
      | d d =>
        cases d with
        | bool b => rw [show b = true from this]
        | _ => cases this
      | fl ds => cases this
    | _ => cases this
theorem fm_pos {a b : Int} (h : 0 < b) : 0 ≤ a.fmod b ∧ a.fmod b < b := ⟨Int.fmod_nonneg_of_pos a h, Int.fmod_lt_of_pos a h⟩
end
theorem runs_all {b : Nd Fl} : ∀ {S : List VL.Env}, (∀ Γ, Γ ∈ S → allT (b Γ) = true) → allT (runs b S) = true
  | [], _ => rfl
  | Γ :: r, h => by
    obtain ⟨l1, e1, h1⟩ := allT_mem (h Γ List.mem_cons_self)
    obtain ⟨l2, e2, h2⟩ := allT_mem (runs_all (b := b) (S := r) fun Δ hd => h Δ (List.mem_cons_of_mem _ hd))
    unfold runs
    rw [e1]
    dsimp only
    rw [e2]
    show (l1 ++ l2).all _ = true
    rw [List.all_eq_true]
    intro x hx
    obtain ⟨f, Δ⟩ := x
    rcases List.mem_append.mp hx with q | q
    · rw [h1 f Δ q]
    · rw [h2 f Δ q]
theorem seq_split {js : List Nat} {dd : Bool} {a b : Nd Fl} {Γ : VL.Env} {l : List (Fl × VL.Env)} {S : List VL.Env} (e : a Γ = some l) (e1 : parts js l = (S, [])) (h : ∀ Δ, Δ ∈ mrgIf dd S → allT (b Δ) = true) : allT (seqN js dd a b Γ) = true := by
  unfold seqN
  rw [e]
  dsimp only
  rw [e1]
  have q := runs_all h
  obtain ⟨l2, e2, _⟩ := allT_mem q
  dsimp only
  rw [e2] at q ⊢
  exact q
/-! ### the first places of a list -/
theorem at0 {α : Type} (a : α) (l : List α) : L2.atI (a :: l) 0 = some a := by simp [L2.atI, L2.ixN]
theorem atN {α : Type} (l : List α) (i : Nat) (h : i < l.length) : L2.atI l (i : Int) = l[i]? := by
  unfold L2.atI L2.ixN
  rw [if_pos (by omega), if_pos (by omega)]
  rfl
theorem at1 {α : Type} (a b : α) (l : List α) : L2.atI (a :: b :: l) 1 = some b := atN (a :: b :: l) 1 (by simp)
theorem at2 {α : Type} (a b c : α) (l : List α) : L2.atI (a :: b :: c :: l) 2 = some c := atN (a :: b :: c :: l) 2 (by simp)
theorem at3 {α : Type} (a b c d : α) (l : List α) : L2.atI (a :: b :: c :: d :: l) 3 = some d := atN (a :: b :: c :: d :: l) 3 (by simp)
theorem at4 {α : Type} (a b c d e : α) (l : List α) : L2.atI (a :: b :: c :: d :: e :: l) 4 = some e := atN (a :: b :: c :: d :: e :: l) 4 (by simp)
def Po.m1 (P : Po) : Int := (P.c * 48271 + (P.n + 1) * 69621 + 7919).fmod 2147483647
def Po.mix (P : Po) (m : Int) : Int × Po := (((P.m1 * P.m1 + (P.n + 1) * 40692).fmod 2147483399).fmod m, { P with n := P.n + 1 })
def Po.here (P : Po) : Int := P.xs.getD P.p.toNat 0
def Po.cell (P : Po) : Int := if P.here < 0 then -P.here else P.here
def Po.draw (P : Po) (m : Int) : Int × Po :=
  if 0 < P.r then (P.r.fmod m, { P with r := P.r.fdiv m })
  else if P.n.fmod 8 = 0 ∧ P.p < P.xs.length then
    if 1000000000000000000 ≤ P.cell then (P.cell.fmod m, { P with p := P.p + 1, r := P.cell.fdiv m })
    else { P with p := P.p + 1, c := P.cell }.mix m
  else P.mix m
theorem Po.draw_ok {P : Po} (h : P.ok) (m : Int) : (P.draw m).2.ok := by
  unfold Po.draw Po.mix Po.ok at *
  split
  · exact h
  split
  · split
    · show 0 ≤ P.p + 1; omega
    · show 0 ≤ P.p + 1; omega
  · exact h
theorem Po.draw_lt {P : Po} {m : Int} (h : 0 < m) : 0 ≤ (P.draw m).1 ∧ (P.draw m).1 < m := by
  unfold Po.draw Po.mix
  split
  · exact fm_pos h
  split
  · split
    · exact fm_pos h
    · exact fm_pos h
  · exact fm_pos h
theorem xs_at {P : Po} (h : P.ok) (h2 : P.p < P.xs.length) : L2.atI (P.xs.map PyData.int) P.p = some (.int P.here) := by
  unfold Po.here
  unfold Po.ok at h
  have h3 : P.p.toNat < P.xs.length := by omega
  unfold L2.atI L2.ixN
  rw [List.length_map, if_pos h, if_pos h2]
  show (P.xs.map PyData.int)[P.p.toNat]? = _
  rw [List.getElem?_map, List.getElem?_eq_getElem h3, List.getD_eq_getElem?_getD, List.getElem?_eq_getElem h3]
  rfl
end VL

/-! the table of wareloops_k83_whole_ways_to_pile, printed by gen.py -/
namespace LW
open PySem VL L2
def topS (i : Nat) : Stmt := PySem.Challenge.pw_wareloops_k83_whole_ways_to_pile.main.body.getD i (.Pass ⟨0, 0, 0, 0⟩)
abbrev fu : Nat := 1000000
abbrev sg_is_number : Sig := ⟨3, false, [.int 0, .int 1000000]⟩
abbrev sg_checked_number : Sig := ⟨3, false, [.int 0, .int 1000000]⟩
abbrev sg_checked_stacks : Sig := ⟨1, false, []⟩
abbrev sg_count : Sig := ⟨1, false, []⟩
abbrev sg_count_by : Sig := ⟨2, false, []⟩
abbrev sg_all_ways : Sig := ⟨1, false, []⟩
abbrev sg_next_way : Sig := ⟨1, false, []⟩
abbrev sg_turned : Sig := ⟨1, false, []⟩
abbrev sg_is_even : Sig := ⟨1, false, []⟩
abbrev sg_square : Sig := ⟨1, false, []⟩
abbrev sg_hooks : Sig := ⟨1, false, []⟩
abbrev sg_lines : Sig := ⟨1, false, []⟩
abbrev sg__law_same : Sig := ⟨2, false, []⟩
abbrev sg__law_pool : Sig := ⟨1, false, []⟩
abbrev sg__law_draw : Sig := ⟨2, true, []⟩
abbrev sg__law_pick : Sig := ⟨2, true, []⟩
abbrev sg__law_refusal : Sig := ⟨1, false, []⟩
abbrev sg__law_ways : Sig := ⟨1, false, []⟩
abbrev sg__law_side : Sig := ⟨1, false, []⟩
abbrev sg__law_hooks : Sig := ⟨1, false, []⟩
abbrev sg__law_refused : Sig := ⟨3, false, []⟩
abbrev sg_law : Sig := ⟨1, false, []⟩
abbrev g : Gt where
  defs := [("is_number", sg_is_number), ("checked_number", sg_checked_number), ("checked_stacks", sg_checked_stacks), ("count", sg_count), ("count_by", sg_count_by), ("all_ways", sg_all_ways), ("next_way", sg_next_way), ("turned", sg_turned), ("is_even", sg_is_even), ("square", sg_square), ("hooks", sg_hooks), ("lines", sg_lines), ("_law_same", sg__law_same), ("_law_pool", sg__law_pool), ("_law_draw", sg__law_draw), ("_law_pick", sg__law_pick), ("_law_ways", sg__law_ways), ("_law_side", sg__law_side), ("_law_hooks", sg__law_hooks), ("_law_refused", sg__law_refused), ("law", sg_law)]
  nums := [("GREATEST", 1000000), ("MOST", 200)]
  txts := []
  excs := ["WareError", "InvalidNumber", "InvalidPaper"]
  anc := [("InvalidNumber", ["InvalidNumber", "WareError", "ValueError"]), ("InvalidPaper", ["InvalidPaper", "WareError", "ValueError"])]
  free := ["ValueError", "abs", "bool", "int", "isinstance", "len", "list", "max", "min", "range", "reversed", "sorted", "str", "sum", "tuple"]
  hots := ["_law_refusal"]
abbrev d_is_number : Df where
  name := "is_number"
  ps := ["value", "least", "most"]
  N := ["value", "least", "most"]
  sc := defScope (topS 6)
  body := defBody (topS 6)
  own := []
  io := false
  dfl := sg_is_number.dfl
  scr := []
def m_is_number (F : FT) : M Fl :=
    (seqS (ifS (orT (truE (isinsE (vr 0) "bool")) (notT (truE (isinsE (vr 0) "int"))))
    (retS 0 (kd (.bool false)))
    passS)
    (retS 0 (chainE (cmpD .LtE) (cmpD .LtE) (vr 1) (vr 0) (vr 2))))
theorem ev_is_number (F : FT) : evS F (evE F 40) fu 40 (d_is_number.cc g) d_is_number.body = some (m_is_number F) := by kernel_rfl
theorem sc_is_number : FnScope d_is_number.N d_is_number.ps d_is_number.sc := ⟨rfl, rfl, rfl, by decide +kernel, rfl, by decide +kernel, by decide +kernel⟩
abbrev d_checked_number : Df where
  name := "checked_number"
  ps := ["value", "least", "most"]
  N := ["value", "least", "most"]
  sc := defScope (topS 7)
  body := defBody (topS 7)
  own := []
  io := false
  dfl := sg_checked_number.dfl
  scr := []
def m_checked_number (F : FT) : M Fl :=
    (seqS (ifS (notT (truE (callE F "is_number" sg_is_number [(vr 0), (vr 1), (vr 2)])))
    (raiseS "InvalidNumber" (bin2 (binD .Add) (bin2 (binD .Add) (bin2 (binD .Add) (kd (.str "no number from ")) (bfE .str [(vr 1)])) (kd (.str " to "))) (bfE .str [(vr 2)])))
    passS)
    (retS 0 (vr 0)))
theorem ev_checked_number (F : FT) : evS F (evE F 40) fu 40 (d_checked_number.cc g) d_checked_number.body = some (m_checked_number F) := by kernel_rfl
theorem sc_checked_number : FnScope d_checked_number.N d_checked_number.ps d_checked_number.sc := ⟨rfl, rfl, rfl, by decide +kernel, rfl, by decide +kernel, by decide +kernel⟩
abbrev d_checked_stacks : Df where
  name := "checked_stacks"
  ps := ["stacks"]
  N := ["stacks", "at", "height"]
  sc := defScope (topS 10)
  body := defBody (topS 10)
  own := []
  io := false
  dfl := sg_checked_stacks.dfl
  scr := []
def m_checked_stacks (F : FT) : M Fl :=
    (seqS (ifS (orT (truE (compE 2 [2] (itE (vr 0)) (notT (truE (callE F "is_number" sg_is_number [(vr 2), (kd (.int 1)), (kd (.int 200))]))) (vr 2))) (valT (lift2 (bl2 (cmpD .Gt)) (bfE .sum [(vr 0)]) (kd (.int 200)))))
    (raiseS "InvalidPaper" (kd (.str "no stacks")))
    passS)
    (seqS (ifS (truE (compE 1 [1] (rg2E (kd (.int 1)) (bfE .len [(vr 0)])) (valT (lift2 (bl2 (cmpD .Gt)) (lift2 idxD (vr 0) (vr 1)) (lift2 idxD (vr 0) (bin2 (binD .Sub) (vr 1) (kd (.int 1)))))) (vr 1)))
    (raiseS "InvalidPaper" (kd (.str "growing")))
    passS)
    (retS 0 (bfE .list [(vr 0)]))))
theorem ev_checked_stacks (F : FT) : evS F (evE F 40) fu 40 (d_checked_stacks.cc g) d_checked_stacks.body = some (m_checked_stacks F) := by kernel_rfl
theorem sc_checked_stacks : FnScope d_checked_stacks.N d_checked_stacks.ps d_checked_stacks.sc := ⟨rfl, rfl, rfl, by decide +kernel, rfl, by decide +kernel, by decide +kernel⟩
abbrev d_count : Df where
  name := "count"
  ps := ["wares"]
  N := ["wares", "ways", "height", "many"]
  sc := defScope (topS 11)
  body := defBody (topS 11)
  own := ["ways"]
  io := false
  dfl := sg_count.dfl
  scr := []
def m_count (F : FT) : M Fl :=
    (seqS (exprS (callE F "checked_number" sg_checked_number [(vr 0), (kd (.int 0)), (kd (.int 200))]))
    (seqS (newS 0 1 (bin2 (binD .Add) (listE [(kd (.int 1))]) (bin2 (binD .Mult) (listE [(kd (.int 0))]) (vr 0))))
    (seqS (forS (nmU 0 2) (rg2E (kd (.int 1)) (bin2 (binD .Add) (vr 0) (kd (.int 1))))
    (forS (nmU 0 3) (rg2E (vr 2) (bin2 (binD .Add) (vr 0) (kd (.int 1))))
    (asgS (subU 1 (vr 3)) (bin2 (binD .Add) (lift2 idxD (vr 1) (vr 3)) (lift2 idxD (vr 1) (bin2 (binD .Sub) (vr 3) (vr 2)))))))
    (retS 0 (lift2 idxD (vr 1) (vr 0))))))
theorem ev_count (F : FT) : evS F (evE F 40) fu 40 (d_count.cc g) d_count.body = some (m_count F) := by kernel_rfl
theorem sc_count : FnScope d_count.N d_count.ps d_count.sc := ⟨rfl, rfl, rfl, by decide +kernel, rfl, by decide +kernel, by decide +kernel⟩
abbrev d_count_by : Df where
  name := "count_by"
  ps := ["wares", "most"]
  N := ["wares", "most", "ways", "height", "many"]
  sc := defScope (topS 12)
  body := defBody (topS 12)
  own := ["ways"]
  io := false
  dfl := sg_count_by.dfl
  scr := []
def m_count_by (F : FT) : M Fl :=
    (seqS (exprS (callE F "checked_number" sg_checked_number [(vr 0), (kd (.int 0)), (kd (.int 200))]))
    (seqS (exprS (callE F "checked_number" sg_checked_number [(vr 1), (kd (.int 0)), (kd (.int 200))]))
    (seqS (newS 0 2 (bin2 (binD .Add) (listE [(kd (.int 1))]) (bin2 (binD .Mult) (listE [(kd (.int 0))]) (vr 0))))
    (seqS (forS (nmU 0 3) (rg2E (kd (.int 1)) (bin2 (binD .Add) (bfE .min [(vr 1), (vr 0)]) (kd (.int 1))))
    (forS (nmU 0 4) (rg2E (vr 3) (bin2 (binD .Add) (vr 0) (kd (.int 1))))
    (asgS (subU 2 (vr 4)) (bin2 (binD .Add) (lift2 idxD (vr 2) (vr 4)) (lift2 idxD (vr 2) (bin2 (binD .Sub) (vr 4) (vr 3)))))))
    (retS 0 (lift2 idxD (vr 2) (vr 0)))))))
theorem ev_count_by (F : FT) : evS F (evE F 40) fu 40 (d_count_by.cc g) d_count_by.body = some (m_count_by F) := by kernel_rfl
theorem sc_count_by : FnScope d_count_by.N d_count_by.ps d_count_by.sc := ⟨rfl, rfl, rfl, by decide +kernel, rfl, by decide +kernel, by decide +kernel⟩
abbrev d_all_ways : Df where
  name := "all_ways"
  ps := ["wares"]
  N := ["wares", "found", "done", "longer", "row", "left", "height"]
  sc := defScope (topS 13)
  body := defBody (topS 13)
  own := ["done", "longer"]
  io := false
  dfl := sg_all_ways.dfl
  scr := []
def m_all_ways (F : FT) : M Fl :=
    (seqS (exprS (callE F "checked_number" sg_checked_number [(vr 0), (kd (.int 0)), (kd (.int 20))]))
    (seqS (setS 0 1 (listE [(listE [])]))
    (seqS (newS 0 2 (ifT (valT (lift2 (bl2 (cmpD .Eq)) (vr 0) (kd (.int 0)))) (listE [(listE [])]) (listE [])))
    (seqS (whS fu (andT (truE (vr 1)) (valT (lift2 (bl2 (cmpD .Gt)) (vr 0) (kd (.int 0)))))
    (seqS (newS 0 3 (listE []))
    (seqS (forS (nmU 0 4) (itE (vr 1))
    (seqS (setS 0 5 (bin2 (binD .Sub) (vr 0) (bfE .sum [(vr 4)])))
    (forS (nmU 0 6) (rg2E (kd (.int 1)) (bin2 (binD .Add) (bfE .min [(vr 5), (ifT (truE (vr 4)) (lift2 idxD (vr 4) (lift1 negD (kd (.int 1)))) (vr 5))]) (kd (.int 1))))
    (ifS (valT (lift2 (bl2 (cmpD .Eq)) (vr 6) (vr 5)))
    (exprS (mtE 2 .append [(bin2 (binD .Add) (vr 4) (listE [(vr 6)]))]))
    (exprS (mtE 3 .append [(bin2 (binD .Add) (vr 4) (listE [(vr 6)]))]))))))
    (setS 0 1 (vr 3)))))
    (retS 0 (listItE (revE (bfE .sorted [(vr 2)]))))))))
theorem ev_all_ways (F : FT) : evS F (evE F 40) fu 40 (d_all_ways.cc g) d_all_ways.body = some (m_all_ways F) := by kernel_rfl
theorem sc_all_ways : FnScope d_all_ways.N d_all_ways.ps d_all_ways.sc := ⟨rfl, rfl, rfl, by decide +kernel, rfl, by decide +kernel, by decide +kernel⟩
abbrev d_next_way : Df where
  name := "next_way"
  ps := ["stacks"]
  N := ["stacks", "rows", "places", "at", "height", "left", "found"]
  sc := defScope (topS 14)
  body := defBody (topS 14)
  own := ["found"]
  io := false
  dfl := sg_next_way.dfl
  scr := []
def m_next_way (F : FT) : M Fl :=
    (seqS (setS 0 1 (callE F "checked_stacks" sg_checked_stacks [(vr 0)]))
    (seqS (setS 0 2 (compE 3 [3] (rg1E (bfE .len [(vr 1)])) (valT (lift2 (bl2 (cmpD .Gt)) (lift2 idxD (vr 1) (vr 3)) (kd (.int 1)))) (vr 3)))
    (seqS (ifS (notT (truE (vr 2)))
    (retS 0 (kd .none))
    passS)
    (seqS (setS 0 3 (lift2 idxD (vr 2) (lift1 negD (kd (.int 1)))))
    (seqS (setS 0 4 (bin2 (binD .Sub) (lift2 idxD (vr 1) (vr 3)) (kd (.int 1))))
    (seqS (setS 0 5 (bin2 (binD .Sub) (bfE .sum [(sliceE (vr 1) (partE (vr 3)) partN)]) (vr 4)))
    (seqS (newS 0 6 (bin2 (binD .Add) (sliceE (vr 1) partN (partE (vr 3))) (listE [(vr 4)])))
    (seqS (whS fu (valT (lift2 (bl2 (cmpD .Gt)) (vr 5) (kd (.int 0))))
    (seqS (exprS (mtE 6 .append [(bfE .min [(vr 4), (vr 5)])]))
    (setS 0 5 (bin2 (binD .Sub) (vr 5) (lift2 idxD (vr 6) (lift1 negD (kd (.int 1))))))))
    (retS 0 (vr 6))))))))))
theorem ev_next_way (F : FT) : evS F (evE F 40) fu 40 (d_next_way.cc g) d_next_way.body = some (m_next_way F) := by kernel_rfl
theorem sc_next_way : FnScope d_next_way.N d_next_way.ps d_next_way.sc := ⟨rfl, rfl, rfl, by decide +kernel, rfl, by decide +kernel, by decide +kernel⟩
abbrev d_turned : Df where
  name := "turned"
  ps := ["stacks"]
  N := ["stacks", "rows", "level", "height"]
  sc := defScope (topS 15)
  body := defBody (topS 15)
  own := []
  io := false
  dfl := sg_turned.dfl
  scr := []
def m_turned (F : FT) : M Fl :=
    (seqS (setS 0 1 (callE F "checked_stacks" sg_checked_stacks [(vr 0)]))
    (retS 0 (compE 2 [2] (rg1E (ifT (truE (vr 1)) (lift2 idxD (vr 1) (kd (.int 0))) (kd (.int 0)))) (ret true) (bfE .len [(compE 3 [3] (itE (vr 1)) (valT (lift2 (bl2 (cmpD .Gt)) (vr 3) (vr 2))) (vr 3))]))))
theorem ev_turned (F : FT) : evS F (evE F 40) fu 40 (d_turned.cc g) d_turned.body = some (m_turned F) := by kernel_rfl
theorem sc_turned : FnScope d_turned.N d_turned.ps d_turned.sc := ⟨rfl, rfl, rfl, by decide +kernel, rfl, by decide +kernel, by decide +kernel⟩
abbrev d_is_even : Df where
  name := "is_even"
  ps := ["stacks"]
  N := ["stacks"]
  sc := defScope (topS 16)
  body := defBody (topS 16)
  own := []
  io := false
  dfl := sg_is_even.dfl
  scr := []
def m_is_even (F : FT) : M Fl :=
    (retS 0 (lift2 (bl2 (cmpD .Eq)) (callE F "turned" sg_turned [(vr 0)]) (callE F "checked_stacks" sg_checked_stacks [(vr 0)])))
theorem ev_is_even (F : FT) : evS F (evE F 40) fu 40 (d_is_even.cc g) d_is_even.body = some (m_is_even F) := by kernel_rfl
theorem sc_is_even : FnScope d_is_even.N d_is_even.ps d_is_even.sc := ⟨rfl, rfl, rfl, by decide +kernel, rfl, by decide +kernel, by decide +kernel⟩
abbrev d_square : Df where
  name := "square"
  ps := ["stacks"]
  N := ["stacks", "rows", "at"]
  sc := defScope (topS 17)
  body := defBody (topS 17)
  own := []
  io := false
  dfl := sg_square.dfl
  scr := []
def m_square (F : FT) : M Fl :=
    (seqS (setS 0 1 (callE F "checked_stacks" sg_checked_stacks [(vr 0)]))
    (retS 0 (bfE .len [(compE 2 [2] (rg1E (bfE .len [(vr 1)])) (valT (lift2 (bl2 (cmpD .Gt)) (lift2 idxD (vr 1) (vr 2)) (vr 2))) (vr 2))])))
theorem ev_square (F : FT) : evS F (evE F 40) fu 40 (d_square.cc g) d_square.body = some (m_square F) := by kernel_rfl
theorem sc_square : FnScope d_square.N d_square.ps d_square.sc := ⟨rfl, rfl, rfl, by decide +kernel, rfl, by decide +kernel, by decide +kernel⟩
abbrev d_hooks : Df where
  name := "hooks"
  ps := ["stacks"]
  N := ["stacks", "rows", "side", "at"]
  sc := defScope (topS 18)
  body := defBody (topS 18)
  own := []
  io := false
  dfl := sg_hooks.dfl
  scr := []
def m_hooks (F : FT) : M Fl :=
    (seqS (setS 0 1 (callE F "checked_stacks" sg_checked_stacks [(vr 0)]))
    (seqS (setS 0 2 (callE F "turned" sg_turned [(vr 1)]))
    (retS 0 (compE 3 [3] (rg1E (callE F "square" sg_square [(vr 1)])) (ret true) (bin2 (binD .Sub) (bin2 (binD .Sub) (bin2 (binD .Add) (bin2 (binD .Sub) (lift2 idxD (vr 1) (vr 3)) (vr 3)) (lift2 idxD (vr 2) (vr 3))) (vr 3)) (kd (.int 1)))))))
theorem ev_hooks (F : FT) : evS F (evE F 40) fu 40 (d_hooks.cc g) d_hooks.body = some (m_hooks F) := by kernel_rfl
theorem sc_hooks : FnScope d_hooks.N d_hooks.ps d_hooks.sc := ⟨rfl, rfl, rfl, by decide +kernel, rfl, by decide +kernel, by decide +kernel⟩
abbrev d_lines : Df where
  name := "lines"
  ps := ["stacks"]
  N := ["stacks", "height"]
  sc := defScope (topS 19)
  body := defBody (topS 19)
  own := []
  io := false
  dfl := sg_lines.dfl
  scr := []
def m_lines (F : FT) : M Fl :=
    (retS 0 (compE 1 [1] (itE (callE F "checked_stacks" sg_checked_stacks [(vr 0)])) (ret true) (bin2 (binD .Mult) (kd (.str "#")) (vr 1))))
theorem ev_lines (F : FT) : evS F (evE F 40) fu 40 (d_lines.cc g) d_lines.body = some (m_lines F) := by kernel_rfl
theorem sc_lines : FnScope d_lines.N d_lines.ps d_lines.sc := ⟨rfl, rfl, rfl, by decide +kernel, rfl, by decide +kernel, by decide +kernel⟩
abbrev d__law_same : Df where
  name := "_law_same"
  ps := ["actual", "due"]
  N := ["actual", "due", "k"]
  sc := defScope (topS 21)
  body := defBody (topS 21)
  own := []
  io := false
  dfl := sg__law_same.dfl
  scr := []
def m__law_same (F : FT) : M Fl :=
    (seqS (ifS (valT (lift2 (bl2 (cmpD .Is)) (vr 1) (kd .none)))
    (retS 0 (lift2 (bl2 (cmpD .Is)) (vr 0) (kd .none)))
    passS)
    (seqS (ifS (truE (isins2E (vr 1) "tuple" "list"))
    (seqS (ifS (orT (valT (lift2 (bl2 (cmpD .NotEq)) (isinsE (vr 1) "tuple") (isinsE (vr 0) "tuple"))) (valT (lift2 (bl2 (cmpD .NotEq)) (isinsE (vr 1) "list") (isinsE (vr 0) "list"))))
    (retS 0 (kd (.bool false)))
    passS)
    (seqS (ifS (valT (lift2 (bl2 (cmpD .NotEq)) (bfE .len [(vr 0)]) (bfE .len [(vr 1)])))
    (retS 0 (kd (.bool false)))
    passS)
    (seqS (forS (nmU 0 2) (rg1E (bfE .len [(vr 1)]))
    (ifS (notT (truE (callE F "_law_same" sg__law_same [(lift2 idxD (vr 0) (vr 2)), (lift2 idxD (vr 1) (vr 2))])))
    (retS 0 (kd (.bool false)))
    passS))
    (retS 0 (kd (.bool true))))))
    passS)
    (seqS (ifS (truE (isinsE (vr 1) "bool"))
    (retS 0 (andE (isinsE (vr 0) "bool") (lift2 (bl2 (cmpD .Eq)) (vr 0) (vr 1))))
    passS)
    (seqS (ifS (truE (isinsE (vr 1) "int"))
    (retS 0 (andE (isinsE (vr 0) "int") (andE (notE (isinsE (vr 0) "bool")) (lift2 (bl2 (cmpD .Eq)) (vr 0) (vr 1)))))
    passS)
    (retS 0 (andE (isinsE (vr 0) "str") (lift2 (bl2 (cmpD .Eq)) (vr 0) (vr 1))))))))
theorem ev__law_same (F : FT) : evS F (evE F 40) fu 40 (d__law_same.cc g) d__law_same.body = some (m__law_same F) := by kernel_rfl
theorem sc__law_same : FnScope d__law_same.N d__law_same.ps d__law_same.sc := ⟨rfl, rfl, rfl, by decide +kernel, rfl, by decide +kernel, by decide +kernel⟩
abbrev d__law_pool : Df where
  name := "_law_pool"
  ps := ["script"]
  N := ["script"]
  sc := defScope (topS 22)
  body := defBody (topS 22)
  own := []
  io := false
  dfl := sg__law_pool.dfl
  scr := ["script"]
def m__law_pool (F : FT) : M Fl :=
    (retS 0 (listE [(listScr 0), (kd (.int 0)), (kd (.int 0)), (kd (.int 0)), (kd (.int 0))]))
theorem ev__law_pool (F : FT) : evS F (evE F 40) fu 40 (d__law_pool.cc g) d__law_pool.body = some (m__law_pool F) := by kernel_rfl
theorem sc__law_pool : FnScope d__law_pool.N d__law_pool.ps d__law_pool.sc := ⟨rfl, rfl, rfl, by decide +kernel, rfl, by decide +kernel, by decide +kernel⟩
abbrev d__law_draw : Df where
  name := "_law_draw"
  ps := ["pool", "many"]
  N := ["pool", "many", "mixed", "found", "cell"]
  sc := defScope (topS 23)
  body := defBody (topS 23)
  own := ["pool"]
  io := true
  dfl := sg__law_draw.dfl
  scr := []
def m__law_draw (F : FT) : M Fl :=
    (seqS (ifS (valT (lift2 (bl2 (cmpD .Gt)) (lift2 idxD (vr 0) (kd (.int 2))) (kd (.int 0))))
    (seqS (setS 1 3 (bin2 (binD .Mod) (bfE .int [(lift2 idxD (vr 0) (kd (.int 2)))]) (vr 1)))
    (seqS (asgS (subU 0 (kd (.int 2))) (bin2 (binD .FloorDiv) (lift2 idxD (vr 0) (kd (.int 2))) (vr 1)))
    (retS 1 (vr 3))))
    passS)
    (seqS (ifS (andT (valT (lift2 (bl2 (cmpD .Eq)) (bin2 (binD .Mod) (bfE .int [(lift2 idxD (vr 0) (kd (.int 4)))]) (kd (.int 8))) (kd (.int 0)))) (valT (lift2 (bl2 (cmpD .Lt)) (lift2 idxD (vr 0) (kd (.int 1))) (bfE .len [(lift2 idxD (vr 0) (kd (.int 0)))]))))
    (seqS (setS 1 4 (bfE .abs [(lift2 idxD (lift2 idxD (vr 0) (kd (.int 0))) (lift2 idxD (vr 0) (kd (.int 1))))]))
    (seqS (asgS (subU 0 (kd (.int 1))) (bin2 (binD .Add) (lift2 idxD (vr 0) (kd (.int 1))) (kd (.int 1))))
    (seqS (ifS (valT (lift2 (bl2 (cmpD .GtE)) (vr 4) (bin2 (binD .Pow) (kd (.int 10)) (kd (.int 18)))))
    (seqS (asgS (subU 0 (kd (.int 2))) (bin2 (binD .FloorDiv) (vr 4) (vr 1)))
    (retS 1 (bin2 (binD .Mod) (bfE .int [(vr 4)]) (vr 1))))
    passS)
    (asgS (subU 0 (kd (.int 3))) (vr 4)))))
    passS)
    (seqS (asgS (subU 0 (kd (.int 4))) (bin2 (binD .Add) (lift2 idxD (vr 0) (kd (.int 4))) (kd (.int 1))))
    (seqS (setS 1 2 (bin2 (binD .Mod) (bfE .int [(bin2 (binD .Add) (bin2 (binD .Add) (bin2 (binD .Mult) (lift2 idxD (vr 0) (kd (.int 3))) (kd (.int 48271))) (bin2 (binD .Mult) (lift2 idxD (vr 0) (kd (.int 4))) (kd (.int 69621)))) (kd (.int 7919)))]) (kd (.int 2147483647))))
    (seqS (setS 1 2 (bin2 (binD .Mod) (bfE .int [(bin2 (binD .Add) (bin2 (binD .Mult) (vr 2) (vr 2)) (bin2 (binD .Mult) (lift2 idxD (vr 0) (kd (.int 4))) (kd (.int 40692))))]) (kd (.int 2147483399))))
    (retS 1 (bin2 (binD .Mod) (bfE .int [(vr 2)]) (vr 1))))))))
theorem ev__law_draw (F : FT) : evS F (evE F 40) fu 40 (d__law_draw.cc g) d__law_draw.body = some (m__law_draw F) := by kernel_rfl
theorem sc__law_draw : FnScope d__law_draw.N d__law_draw.ps d__law_draw.sc := ⟨rfl, rfl, rfl, by decide +kernel, rfl, by decide +kernel, by decide +kernel⟩
abbrev d__law_pick : Df where
  name := "_law_pick"
  ps := ["pool", "rows"]
  N := ["pool", "rows"]
  sc := defScope (topS 24)
  body := defBody (topS 24)
  own := ["pool"]
  io := true
  dfl := sg__law_pick.dfl
  scr := []
def m__law_pick (F : FT) : M Fl :=
    (retS 1 (lift2 idxD (vr 1) (callE F "_law_draw" sg__law_draw [(vr 0), (bfE .len [(vr 1)])])))
theorem ev__law_pick (F : FT) : evS F (evE F 40) fu 40 (d__law_pick.cc g) d__law_pick.body = some (m__law_pick F) := by kernel_rfl
theorem sc__law_pick : FnScope d__law_pick.N d__law_pick.ps d__law_pick.sc := ⟨rfl, rfl, rfl, by decide +kernel, rfl, by decide +kernel, by decide +kernel⟩
abbrev d__law_refusal : Df where
  name := "_law_refusal"
  ps := ["problem"]
  N := ["problem", "kinds", "found", "k"]
  sc := defScope (topS 25)
  body := defBody (topS 25)
  own := []
  io := false
  dfl := sg__law_refusal.dfl
  scr := []
def m__law_refusal (F : FT) : M Fl :=
    (seqS (setS 0 1 (listE [(isaE g.anc 0 "InvalidNumber"), (isaE g.anc 0 "InvalidPaper")]))
    (seqS (setS 0 2 (compE 3 [3] (rg1E (kd (.int 2))) (truE (lift2 idxD (vr 1) (vr 3))) (lift2 idxD (listE [(kd (.str "number")), (kd (.str "paper"))]) (vr 3))))
    (retS 0 (ifT (andT (valT (lift2 (bl2 (cmpD .Eq)) (bfE .len [(vr 2)]) (kd (.int 1)))) (truE (isaE g.anc 0 "ValueError"))) (lift2 idxD (vr 2) (kd (.int 0))) (kd (.str "several"))))))
theorem ev__law_refusal (F : FT) : evS F (evE F 40) fu 40 (d__law_refusal.ccH g) d__law_refusal.body = some (m__law_refusal F) := by kernel_rfl
theorem sc__law_refusal : FnScope d__law_refusal.N d__law_refusal.ps d__law_refusal.sc := ⟨rfl, rfl, rfl, by decide +kernel, rfl, by decide +kernel, by decide +kernel⟩
abbrev d__law_ways : Df where
  name := "_law_ways"
  ps := ["wares"]
  N := ["wares", "found", "done", "k", "longer", "row", "left", "top", "height"]
  sc := defScope (topS 26)
  body := defBody (topS 26)
  own := ["done", "longer"]
  io := false
  dfl := sg__law_ways.dfl
  scr := []
def m__law_ways (F : FT) : M Fl :=
    (seqS (setS 0 1 (listE [(listE [])]))
    (seqS (newS 0 2 (ifT (valT (lift2 (bl2 (cmpD .Eq)) (vr 0) (kd (.int 0)))) (listE [(listE [])]) (listE [])))
    (seqS (forS (nmU 0 3) (rg1E (vr 0))
    (seqS (newS 0 4 (listE []))
    (seqS (forS (nmU 0 5) (itE (vr 1))
    (seqS (setS 0 6 (bin2 (binD .Sub) (vr 0) (bfE .sum [(vr 5)])))
    (seqS (setS 0 7 (bfE .min [(bin2 (binD .Add) (listE [(vr 6)]) (vr 5))]))
    (seqS (exprS (mtE 2 .extend [(compE 8 [8] (rg2E (kd (.int 1)) (bin2 (binD .Add) (vr 7) (kd (.int 1)))) (valT (lift2 (bl2 (cmpD .Eq)) (vr 8) (vr 6))) (bin2 (binD .Add) (vr 5) (listE [(vr 8)])))]))
    (exprS (mtE 4 .extend [(compE 8 [8] (rg2E (kd (.int 1)) (bin2 (binD .Add) (vr 7) (kd (.int 1)))) (valT (lift2 (bl2 (cmpD .Lt)) (vr 8) (vr 6))) (bin2 (binD .Add) (vr 5) (listE [(vr 8)])))]))))))
    (setS 0 1 (vr 4)))))
    (retS 0 (listItE (revE (bfE .sorted [(vr 2)])))))))
theorem ev__law_ways (F : FT) : evS F (evE F 40) fu 40 (d__law_ways.cc g) d__law_ways.body = some (m__law_ways F) := by kernel_rfl
theorem sc__law_ways : FnScope d__law_ways.N d__law_ways.ps d__law_ways.sc := ⟨rfl, rfl, rfl, by decide +kernel, rfl, by decide +kernel, by decide +kernel⟩
abbrev d__law_side : Df where
  name := "_law_side"
  ps := ["rows"]
  N := ["rows", "level", "height"]
  sc := defScope (topS 27)
  body := defBody (topS 27)
  own := []
  io := false
  dfl := sg__law_side.dfl
  scr := []
def m__law_side (F : FT) : M Fl :=
    (retS 0 (compE 1 [1] (rg1E (bfE .max [(bin2 (binD .Add) (listE [(kd (.int 0))]) (vr 0))])) (ret true) (bfE .len [(compE 2 [2] (itE (vr 0)) (valT (lift2 (bl2 (cmpD .Gt)) (vr 2) (vr 1))) (vr 2))])))
theorem ev__law_side (F : FT) : evS F (evE F 40) fu 40 (d__law_side.cc g) d__law_side.body = some (m__law_side F) := by kernel_rfl
theorem sc__law_side : FnScope d__law_side.N d__law_side.ps d__law_side.sc := ⟨rfl, rfl, rfl, by decide +kernel, rfl, by decide +kernel, by decide +kernel⟩
abbrev d__law_hooks : Df where
  name := "_law_hooks"
  ps := ["rows"]
  N := ["rows", "found", "row", "place", "at"]
  sc := defScope (topS 28)
  body := defBody (topS 28)
  own := ["found"]
  io := false
  dfl := sg__law_hooks.dfl
  scr := []
def m__law_hooks (F : FT) : M Fl :=
    (seqS (newS 0 1 (listE []))
    (seqS (forS (nmU 0 2) (rg1E (bfE .len [(vr 0)]))
    (forS (nmU 0 3) (rg1E (lift2 idxD (vr 0) (vr 2)))
    (seqS (setS 0 4 (bfE .min [(vr 2), (vr 3)]))
    (seqS (newS 0 1 (ifT (valT (lift2 (bl2 (cmpD .Eq)) (vr 4) (bfE .len [(vr 1)]))) (bin2 (binD .Add) (vr 1) (listE [(kd (.int 0))])) (vr 1)))
    (asgS (subU 1 (vr 4)) (bin2 (binD .Add) (lift2 idxD (vr 1) (vr 4)) (kd (.int 1))))))))
    (retS 0 (vr 1))))
theorem ev__law_hooks (F : FT) : evS F (evE F 40) fu 40 (d__law_hooks.cc g) d__law_hooks.body = some (m__law_hooks F) := by kernel_rfl
theorem sc__law_hooks : FnScope d__law_hooks.N d__law_hooks.ps d__law_hooks.sc := ⟨rfl, rfl, rfl, by decide +kernel, rfl, by decide +kernel, by decide +kernel⟩
abbrev d__law_refused : Df where
  name := "_law_refused"
  ps := ["choice", "one", "two"]
  N := ["choice", "one", "two", "problem"]
  sc := defScope (topS 29)
  body := defBody (topS 29)
  own := []
  io := false
  dfl := sg__law_refused.dfl
  scr := []
def m__law_refused (F : FT) : M Fl :=
    (seqS (tryAs g.anc (ifS (valT (lift2 (bl2 (cmpD .Eq)) (vr 0) (kd (.int 0))))
    (exprS (callE F "checked_stacks" sg_checked_stacks [(vr 1)]))
    (ifS (valT (lift2 (bl2 (cmpD .Eq)) (vr 0) (kd (.int 1))))
    (exprS (callE F "count" sg_count [(vr 1)]))
    (ifS (valT (lift2 (bl2 (cmpD .Eq)) (vr 0) (kd (.int 2))))
    (exprS (callE F "count_by" sg_count_by [(vr 1), (vr 2)]))
    (ifS (valT (lift2 (bl2 (cmpD .Eq)) (vr 0) (kd (.int 3))))
    (exprS (callE F "all_ways" sg_all_ways [(vr 1)]))
    (exprS (callE F "turned" sg_turned [(vr 1)])))))) "WareError" 3
    (retS 0 (hotE F "_law_refusal" 3)))
    (retS 0 (kd (.str "none"))))
theorem ev__law_refused (F : FT) : evS F (evE F 40) fu 40 (d__law_refused.cc g) d__law_refused.body = some (m__law_refused F) := by kernel_rfl
theorem sc__law_refused : FnScope d__law_refused.N d__law_refused.ps d__law_refused.sc := ⟨rfl, rfl, rfl, by decide +kernel, rfl, by decide +kernel, by decide +kernel⟩
abbrev d_law : Df where
  name := "law"
  ps := ["script"]
  N := ["script", "pool", "wares", "every", "k", "most", "low", "wrong", "bad", "at", "row", "side", "told", "height", "hook"]
  sc := defScope (topS 30)
  body := defBody (topS 30)
  own := ["pool"]
  io := false
  dfl := sg_law.dfl
  scr := ["script"]
def m_law (F : FT) : M Fl :=
    (seqS (newS 0 1 (callE F "_law_pool" sg__law_pool [(vr 0)]))
    (seqS (setS 0 2 (callE F "_law_draw" sg__law_draw [(vr 1), (kd (.int 10))]))
    (seqS (setS 0 3 (callE F "_law_ways" sg__law_ways [(vr 2)]))
    (seqS (ifS (orT (notT (truE (callE F "_law_same" sg__law_same [(callE F "all_ways" sg_all_ways [(vr 2)]), (vr 3)]))) (notT (truE (callE F "_law_same" sg__law_same [(callE F "count" sg_count [(vr 2)]), (bfE .len [(vr 3)])]))))
    (retS 0 (kd (.bool false)))
    passS)
    (seqS (forS (nmU 0 4) (rg1E (kd (.int 8)))
    (seqS (setS 0 9 (callE F "_law_draw" sg__law_draw [(vr 1), (bfE .len [(vr 3)])]))
    (seqS (setS 0 10 (lift2 idxD (vr 3) (vr 9)))
    (seqS (ifS (orT (notT (truE (callE F "_law_same" sg__law_same [(callE F "next_way" sg_next_way [(bfE .list [(vr 10)])]), (ifT (valT (lift2 (bl2 (cmpD .Lt)) (bin2 (binD .Add) (vr 9) (kd (.int 1))) (bfE .len [(vr 3)]))) (lift2 idxD (vr 3) (bin2 (binD .Add) (vr 9) (kd (.int 1)))) (kd .none))]))) (notT (truE (callE F "_law_same" sg__law_same [(callE F "checked_stacks" sg_checked_stacks [(vr 10)]), (vr 10)]))))
    (retS 0 (kd (.bool false)))
    passS)
    (seqS (setS 0 11 (callE F "_law_side" sg__law_side [(vr 10)]))
    (seqS (ifS (orT (notT (truE (callE F "_law_same" sg__law_same [(callE F "turned" sg_turned [(bfE .list [(vr 10)])]), (vr 11)]))) (orT (valT (lift2 (bl2 (cmpD .NotEq)) (callE F "_law_side" sg__law_side [(vr 11)]) (vr 10))) (valT (lift2 (bl2 (cmpD .NotIn)) (vr 11) (vr 3)))))
    (retS 0 (kd (.bool false)))
    passS)
    (seqS (setS 0 12 (callE F "_law_hooks" sg__law_hooks [(vr 10)]))
    (seqS (ifS (orT (notT (truE (callE F "_law_same" sg__law_same [(callE F "hooks" sg_hooks [(bfE .list [(vr 10)])]), (vr 12)]))) (orT (notT (truE (callE F "_law_same" sg__law_same [(callE F "square" sg_square [(bfE .list [(vr 10)])]), (bfE .len [(vr 12)])]))) (valT (lift2 (bl2 (cmpD .NotEq)) (bfE .sum [(vr 12)]) (vr 2)))))
    (retS 0 (kd (.bool false)))
    passS)
    (seqS (ifS (orT (notT (truE (callE F "_law_same" sg__law_same [(callE F "is_even" sg_is_even [(vr 10)]), (lift2 (bl2 (cmpD .Eq)) (vr 11) (vr 10))]))) (andT (valT (lift2 (bl2 (cmpD .Eq)) (vr 11) (vr 10))) (valT (lift2 (bl2 (cmpD .Gt)) (bfE .len [(compE 14 [14] (itE (vr 12)) (valT (lift2 (bl2 (cmpD .Eq)) (bin2 (binD .Mod) (bfE .int [(vr 14)]) (kd (.int 2))) (kd (.int 0)))) (vr 14))]) (kd (.int 0))))))
    (retS 0 (kd (.bool false)))
    passS)
    (ifS (notT (truE (callE F "_law_same" sg__law_same [(callE F "lines" sg_lines [(vr 10)]), (compE 13 [13] (itE (vr 10)) (ret true) (mvE .join (kd (.str "")) [(compE 4 [4] (rg1E (vr 13)) (ret true) (kd (.str "#")))]))])))
    (retS 0 (kd (.bool false)))
    passS))))))))))
    (seqS (setS 0 5 (callE F "_law_draw" sg__law_draw [(vr 1), (kd (.int 11))]))
    (seqS (setS 0 6 (bfE .len [(compE 10 [10] (itE (vr 3)) (valT (lift2 (bl2 (cmpD .LtE)) (bfE .max [(bin2 (binD .Add) (listE [(kd (.int 0))]) (vr 10))]) (vr 5))) (vr 10))]))
    (seqS (ifS (orT (notT (truE (callE F "_law_same" sg__law_same [(callE F "count_by" sg_count_by [(vr 2), (vr 5)]), (vr 6)]))) (valT (lift2 (bl2 (cmpD .NotEq)) (bfE .len [(compE 10 [10] (itE (vr 3)) (valT (lift2 (bl2 (cmpD .LtE)) (bfE .len [(vr 10)]) (vr 5))) (vr 10))]) (vr 6))))
    (retS 0 (kd (.bool false)))
    passS)
    (seqS (forS (nmU 0 7) (itE (listE [(listE [(kd (.int 0))]), (listE [(kd (.int 1)), (kd (.int 2))]), (listE [(kd (.bool true))]), (listE [(kd (.int 201))]), (listE [(kd (.int 100)), (kd (.int 101))]), (listE [(kd (.int 3)), (lift1 negD (kd (.int 1)))])]))
    (ifS (orT (valT (lift2 (bl2 (cmpD .NotEq)) (callE F "_law_refused" sg__law_refused [(kd (.int 0)), (vr 7), (kd (.int 0))]) (kd (.str "paper")))) (valT (lift2 (bl2 (cmpD .NotEq)) (callE F "_law_refused" sg__law_refused [(kd (.int 4)), (vr 7), (kd (.int 0))]) (kd (.str "paper")))))
    (retS 0 (kd (.bool false)))
    passS))
    (seqS (setS 0 8 (callE F "_law_pick" sg__law_pick [(vr 1), (listE [(lift1 negD (kd (.int 1))), (kd (.int 201)), (kd (.bool true))])]))
    (seqS (ifS (orT (valT (lift2 (bl2 (cmpD .NotEq)) (callE F "_law_refused" sg__law_refused [(kd (.int 1)), (vr 8), (kd (.int 0))]) (kd (.str "number")))) (orT (valT (lift2 (bl2 (cmpD .NotEq)) (callE F "_law_refused" sg__law_refused [(kd (.int 2)), (vr 8), (kd (.int 5))]) (kd (.str "number")))) (valT (lift2 (bl2 (cmpD .NotEq)) (callE F "_law_refused" sg__law_refused [(kd (.int 2)), (kd (.int 5)), (vr 8)]) (kd (.str "number"))))))
    (retS 0 (kd (.bool false)))
    passS)
    (retS 0 (andE (lift2 (bl2 (cmpD .Eq)) (callE F "_law_refused" sg__law_refused [(kd (.int 3)), (callE F "_law_pick" sg__law_pick [(vr 1), (listE [(lift1 negD (kd (.int 1))), (kd (.int 21)), (kd (.bool true))])]), (kd (.int 0))]) (kd (.str "number"))) (lift2 (bl2 (cmpD .Eq)) (callE F "_law_refused" sg__law_refused [(kd (.int 0)), (listE [(kd (.int 100)), (kd (.int 100)), (kd (.int 1))]), (kd (.int 0))]) (kd (.str "paper"))))))))))))))))
theorem ev_law (F : FT) : evS F (evE F 40) fu 40 (d_law.cc g) d_law.body = some (m_law F) := by kernel_rfl
theorem sc_law : FnScope d_law.N d_law.ps d_law.sc := ⟨rfl, rfl, rfl, by decide +kernel, rfl, by decide +kernel, by decide +kernel⟩
abbrev tb : Tb := [("is_number", d_is_number.run m_is_number), ("checked_number", d_checked_number.run m_checked_number), ("checked_stacks", d_checked_stacks.run m_checked_stacks), ("count", d_count.run m_count), ("count_by", d_count_by.run m_count_by), ("all_ways", d_all_ways.run m_all_ways), ("next_way", d_next_way.run m_next_way), ("turned", d_turned.run m_turned), ("is_even", d_is_even.run m_is_even), ("square", d_square.run m_square), ("hooks", d_hooks.run m_hooks), ("lines", d_lines.run m_lines), ("_law_same", d__law_same.run m__law_same), ("_law_pool", d__law_pool.run m__law_pool), ("_law_draw", d__law_draw.run m__law_draw), ("_law_pick", d__law_pick.run m__law_pick), ("_law_refusal", d__law_refusal.run m__law_refusal), ("_law_ways", d__law_ways.run m__law_ways), ("_law_side", d__law_side.run m__law_side), ("_law_hooks", d__law_hooks.run m__law_hooks), ("_law_refused", d__law_refused.run m__law_refused), ("law", d_law.run m_law)]
theorem r_is_number (k : Nat) (args : List Slot) : runK tb (k + 1) "is_number" args = runB false 3 (m_is_number (runK tb k)) args := by kernel_rfl
theorem r_checked_number (k : Nat) (args : List Slot) : runK tb (k + 1) "checked_number" args = runB false 3 (m_checked_number (runK tb k)) args := by kernel_rfl
theorem r_checked_stacks (k : Nat) (args : List Slot) : runK tb (k + 1) "checked_stacks" args = runB false 3 (m_checked_stacks (runK tb k)) args := by kernel_rfl
theorem r_count (k : Nat) (args : List Slot) : runK tb (k + 1) "count" args = runB false 4 (m_count (runK tb k)) args := by kernel_rfl
theorem r_count_by (k : Nat) (args : List Slot) : runK tb (k + 1) "count_by" args = runB false 5 (m_count_by (runK tb k)) args := by kernel_rfl
theorem r_all_ways (k : Nat) (args : List Slot) : runK tb (k + 1) "all_ways" args = runB false 7 (m_all_ways (runK tb k)) args := by kernel_rfl
theorem r_next_way (k : Nat) (args : List Slot) : runK tb (k + 1) "next_way" args = runB false 7 (m_next_way (runK tb k)) args := by kernel_rfl
theorem r_turned (k : Nat) (args : List Slot) : runK tb (k + 1) "turned" args = runB false 4 (m_turned (runK tb k)) args := by kernel_rfl
theorem r_is_even (k : Nat) (args : List Slot) : runK tb (k + 1) "is_even" args = runB false 1 (m_is_even (runK tb k)) args := by kernel_rfl
theorem r_square (k : Nat) (args : List Slot) : runK tb (k + 1) "square" args = runB false 3 (m_square (runK tb k)) args := by kernel_rfl
theorem r_hooks (k : Nat) (args : List Slot) : runK tb (k + 1) "hooks" args = runB false 4 (m_hooks (runK tb k)) args := by kernel_rfl
theorem r_lines (k : Nat) (args : List Slot) : runK tb (k + 1) "lines" args = runB false 2 (m_lines (runK tb k)) args := by kernel_rfl
theorem r__law_same (k : Nat) (args : List Slot) : runK tb (k + 1) "_law_same" args = runB false 3 (m__law_same (runK tb k)) args := by kernel_rfl
theorem r__law_pool (k : Nat) (args : List Slot) : runK tb (k + 1) "_law_pool" args = runB false 1 (m__law_pool (runK tb k)) args := by kernel_rfl
theorem r__law_draw (k : Nat) (args : List Slot) : runK tb (k + 1) "_law_draw" args = runB true 5 (m__law_draw (runK tb k)) args := by kernel_rfl
theorem r__law_pick (k : Nat) (args : List Slot) : runK tb (k + 1) "_law_pick" args = runB true 2 (m__law_pick (runK tb k)) args := by kernel_rfl
theorem r__law_refusal (k : Nat) (args : List Slot) : runK tb (k + 1) "_law_refusal" args = runB false 4 (m__law_refusal (runK tb k)) args := by kernel_rfl
theorem r__law_ways (k : Nat) (args : List Slot) : runK tb (k + 1) "_law_ways" args = runB false 9 (m__law_ways (runK tb k)) args := by kernel_rfl
theorem r__law_side (k : Nat) (args : List Slot) : runK tb (k + 1) "_law_side" args = runB false 3 (m__law_side (runK tb k)) args := by kernel_rfl
theorem r__law_hooks (k : Nat) (args : List Slot) : runK tb (k + 1) "_law_hooks" args = runB false 5 (m__law_hooks (runK tb k)) args := by kernel_rfl
theorem r__law_refused (k : Nat) (args : List Slot) : runK tb (k + 1) "_law_refused" args = runB false 4 (m__law_refused (runK tb k)) args := by kernel_rfl
theorem r_law (k : Nat) (args : List Slot) : runK tb (k + 1) "law" args = runB false 15 (m_law (runK tb k)) args := by kernel_rfl
end LW

namespace LW
open PySem VL
theorem draw_run (k : Nat) (P : Po) (h : P.ok) (m : Int) (h1 : 0 < m) (h2 : m < 1073741824) : runK tb (k + 1) "_law_draw" [P.sl, .va (.int m)] = .ok (.d (.int (P.draw m).1)) [(P.draw m).2.sl] := by
  rw [r__law_draw]
  have e1 : m ≠ 0 := by omega
  have e2 : m.natAbs < 1073741824 := by omega
  obtain ⟨b1, b2⟩ := fm_pos (a := P.c * 48271 + (P.n + 1) * 69621 + 7919) (b := 2147483647) (by decide)
  have b3 : -18446744073709551616 < (P.c * 48271 + (P.n + 1) * 69621 + 7919).fmod 2147483647 := by omega
  have b4 : (P.c * 48271 + (P.n + 1) * 69621 + 7919).fmod 2147483647 < 18446744073709551616 := by omega
  unfold runB m__law_draw Po.draw Po.sl
  by_cases c1 : 0 < P.r
  · simp [seqS, ifS, ifT, valT, andT, orT, notT, truE, truthD, notE, andE, orE, lift1, lift2, bl2, bin2, chainE, bfE, argsE, listE, tupE, softs, hards, hard, bnd, VL.ret, ofO, soft, vr, kd, gt, st, idxD, cmpD, binD, bfD, gtD, ltD, leD, geD, eqD, isD, notO, negD, addD, subD, mulD, fdivD, modD, powD, boolOf, odN, setS, newS, putS, asgS, subU, nmU, setL, intE, isLst, retS, retN, passS, exprS, at0, at1, at2, at3, at4, L2.ixN, VL.small64, partN, partE, sliceE, sliceD, mtE, mtG, mtL, mtAppend, mtExtend, mtPop, isinsE, isins2E, isBt, callE, callPl, callIo, hardSlots, hardSlot, dflS, odR, exprS, runB, headOw, endB, finB, itE, seqOf, odLock, forS, frzI, headOw, endB, finB, c1, e1, e2]
  · by_cases c2 : P.n.fmod 8 = 0
    · by_cases c3 : P.p < P.xs.length
      · have hx := xs_at h c3
        by_cases c4 : 1000000000000000000 ≤ P.cell
        · have c5 := c4
          unfold Po.cell at c5
          simp [seqS, ifS, ifT, valT, andT, orT, notT, truE, truthD, notE, andE, orE, lift1, lift2, bl2, bin2, chainE, bfE, argsE, listE, tupE, softs, hards, hard, bnd, VL.ret, ofO, soft, vr, kd, gt, st, idxD, cmpD, binD, bfD, gtD, ltD, leD, geD, eqD, isD, notO, negD, addD, subD, mulD, fdivD, modD, powD, boolOf, odN, setS, newS, putS, asgS, subU, nmU, setL, intE, isLst, retS, retN, passS, exprS, at0, at1, at2, at3, at4, L2.ixN, VL.small64, partN, partE, sliceE, sliceD, mtE, mtG, mtL, mtAppend, mtExtend, mtPop, isinsE, isins2E, isBt, callE, callPl, callIo, hardSlots, hardSlot, dflS, odR, exprS, runB, headOw, endB, finB, itE, seqOf, odLock, forS, frzI, headOw, endB, finB, c1, c2, c3, c4, c5, hx, e1, e2, Po.cell]
        · have c5 := c4
          unfold Po.cell at c5
          obtain ⟨d1, d2⟩ := fm_pos (a := P.cell * 48271 + (P.n + 1) * 69621 + 7919) (b := 2147483647) (by decide)
          have d3 : -18446744073709551616 < (P.cell * 48271 + (P.n + 1) * 69621 + 7919).fmod 2147483647 := by omega
          have d4 : (P.cell * 48271 + (P.n + 1) * 69621 + 7919).fmod 2147483647 < 18446744073709551616 := by omega
          unfold Po.cell at d3 d4
          simp [seqS, ifS, ifT, valT, andT, orT, notT, truE, truthD, notE, andE, orE, lift1, lift2, bl2, bin2, chainE, bfE, argsE, listE, tupE, softs, hards, hard, bnd, VL.ret, ofO, soft, vr, kd, gt, st, idxD, cmpD, binD, bfD, gtD, ltD, leD, geD, eqD, isD, notO, negD, addD, subD, mulD, fdivD, modD, powD, boolOf, odN, setS, newS, putS, asgS, subU, nmU, setL, intE, isLst, retS, retN, passS, exprS, at0, at1, at2, at3, at4, L2.ixN, VL.small64, partN, partE, sliceE, sliceD, mtE, mtG, mtL, mtAppend, mtExtend, mtPop, isinsE, isins2E, isBt, callE, callPl, callIo, hardSlots, hardSlot, dflS, odR, exprS, runB, headOw, endB, finB, itE, seqOf, odLock, forS, frzI, headOw, endB, finB, c1, c2, c3, c4, c5, hx, e1, e2, Po.mix, Po.m1, d3, d4, Po.cell]
      · simp [seqS, ifS, ifT, valT, andT, orT, notT, truE, truthD, notE, andE, orE, lift1, lift2, bl2, bin2, chainE, bfE, argsE, listE, tupE, softs, hards, hard, bnd, VL.ret, ofO, soft, vr, kd, gt, st, idxD, cmpD, binD, bfD, gtD, ltD, leD, geD, eqD, isD, notO, negD, addD, subD, mulD, fdivD, modD, powD, boolOf, odN, setS, newS, putS, asgS, subU, nmU, setL, intE, isLst, retS, retN, passS, exprS, at0, at1, at2, at3, at4, L2.ixN, VL.small64, partN, partE, sliceE, sliceD, mtE, mtG, mtL, mtAppend, mtExtend, mtPop, isinsE, isins2E, isBt, callE, callPl, callIo, hardSlots, hardSlot, dflS, odR, exprS, runB, headOw, endB, finB, itE, seqOf, odLock, forS, frzI, headOw, endB, finB, c1, c2, c3, e1, e2, Po.mix, Po.m1, b3, b4]
    · simp [seqS, ifS, ifT, valT, andT, orT, notT, truE, truthD, notE, andE, orE, lift1, lift2, bl2, bin2, chainE, bfE, argsE, listE, tupE, softs, hards, hard, bnd, VL.ret, ofO, soft, vr, kd, gt, st, idxD, cmpD, binD, bfD, gtD, ltD, leD, geD, eqD, isD, notO, negD, addD, subD, mulD, fdivD, modD, powD, boolOf, odN, setS, newS, putS, asgS, subU, nmU, setL, intE, isLst, retS, retN, passS, exprS, at0, at1, at2, at3, at4, L2.ixN, VL.small64, partN, partE, sliceE, sliceD, mtE, mtG, mtL, mtAppend, mtExtend, mtPop, isinsE, isins2E, isBt, callE, callPl, callIo, hardSlots, hardSlot, dflS, odR, exprS, runB, headOw, endB, finB, itE, seqOf, odLock, forS, frzI, headOw, endB, finB, c1, c2, e1, e2, Po.mix, Po.m1, b3, b4]
theorem pick_run (k : Nat) (P : Po) (h : P.ok) (ds : List D) (h1 : ds ≠ []) (h2 : (ds.length : Int) < 1073741824) : ∃ (d : D) (P' : Po), d ∈ ds ∧ P'.ok ∧ runK tb (k + 2) "_law_pick" [P.sl, .va (.list ds)] = .ok (.d d) [P'.sl] := by
  have hp : (0 : Int) < (ds.length : Int) := by
    have := List.length_pos_iff.mpr h1
    omega
  obtain ⟨v0, v1⟩ := Po.draw_lt (P := P) hp
  have hd := draw_run k P h (ds.length : Int) hp h2
  have ok' := Po.draw_ok h (ds.length : Int)
  generalize P.draw (ds.length : Int) = z at v0 v1 hd ok'
  obtain ⟨v, P'⟩ := z
  dsimp only at v0 v1 hd ok'
  have hv : v.toNat < ds.length := by omega
  refine ⟨ds[v.toNat], P', List.getElem_mem hv, ok', ?_⟩
  have hx : L2.atI ds v = some ds[v.toNat] := by
    have := atN ds v.toNat hv
    rw [Int.toNat_of_nonneg v0] at this
    rw [this, List.getElem?_eq_getElem hv]
  rw [r__law_pick]
  unfold runB m__law_pick
  simp [seqS, ifS, ifT, valT, andT, orT, notT, truE, truthD, notE, andE, orE, lift1, lift2, bl2, bin2, chainE, bfE, argsE, listE, tupE, softs, hards, hard, bnd, VL.ret, ofO, soft, vr, kd, gt, st, idxD, cmpD, binD, bfD, gtD, ltD, leD, geD, eqD, isD, notO, negD, addD, subD, mulD, fdivD, modD, powD, boolOf, odN, setS, newS, putS, asgS, subU, nmU, setL, intE, isLst, retS, retN, passS, exprS, at0, at1, at2, at3, at4, L2.ixN, VL.small64, partN, partE, sliceE, sliceD, mtE, mtG, mtL, mtAppend, mtExtend, mtPop, isinsE, isins2E, isBt, callE, callPl, callIo, hardSlots, hardSlot, dflS, odR, exprS, runB, headOw, endB, finB, itE, seqOf, odLock, forS, frzI, headOw, endB, finB, hd, hx]
theorem draws (k : Nat) (hk : 3 ≤ k) : Draws (runK tb k) := by
  obtain ⟨j, rfl⟩ : ∃ j, k = j + 3 := ⟨k - 3, by omega⟩
  exact ⟨fun P m h h1 h2 => ⟨_, _, (Po.draw_lt h1).1, (Po.draw_lt h1).2, Po.draw_ok h m, draw_run (j + 2) P h m h1 h2⟩, fun P ds h h1 h2 => pick_run (j + 1) P h ds h1 h2⟩
def n_lawA (k : Nat) : Nd Fl := let F := runK tb k
    (setN 0 2 (drawN (pu (kd (.int 10)))))
def n_lawB (k : Nat) : Nd Fl := let F := runK tb k
    (seqN [2, 3, 4, 5, 6, 7, 8, 9, 10, 11, 12] true (seqN [2, 3, 4, 5, 6, 7, 9, 10, 11, 12] true (seqN [2, 3, 4, 5, 6, 7, 9, 10, 11, 12] true (seqN [2, 3, 4, 5, 6, 9, 10, 11, 12] true (seqN [4, 9, 11, 12] true (seqN [4, 9, 11, 12] true (seqN [] false (pu (seqS (setS 0 3 (callE F "_law_ways" sg__law_ways [(vr 2)]))
    (ifS (orT (notT (truE (callE F "_law_same" sg__law_same [(callE F "all_ways" sg_all_ways [(vr 2)]), (vr 3)]))) (notT (truE (callE F "_law_same" sg__law_same [(callE F "count" sg_count [(vr 2)]), (bfE .len [(vr 3)])]))))
    (retS 0 (kd (.bool false)))
    passS)))
    (forUN 0 4 (pu (rg1E (kd (.int 8))))
    (seqN [9, 11, 12] true (seqN [9] true (seqN [] false (setN 0 9 (drawN (pu (bfE .len [(vr 3)]))))
    (pu (seqS (setS 0 10 (lift2 idxD (vr 3) (vr 9)))
    (ifS (orT (notT (truE (callE F "_law_same" sg__law_same [(callE F "next_way" sg_next_way [(bfE .list [(vr 10)])]), (ifT (valT (lift2 (bl2 (cmpD .Lt)) (bin2 (binD .Add) (vr 9) (kd (.int 1))) (bfE .len [(vr 3)]))) (lift2 idxD (vr 3) (bin2 (binD .Add) (vr 9) (kd (.int 1)))) (kd .none))]))) (notT (truE (callE F "_law_same" sg__law_same [(callE F "checked_stacks" sg_checked_stacks [(vr 10)]), (vr 10)]))))
    (retS 0 (kd (.bool false)))
    passS))))
    (pu (seqS (setS 0 11 (callE F "_law_side" sg__law_side [(vr 10)]))
    (seqS (ifS (orT (notT (truE (callE F "_law_same" sg__law_same [(callE F "turned" sg_turned [(bfE .list [(vr 10)])]), (vr 11)]))) (orT (valT (lift2 (bl2 (cmpD .NotEq)) (callE F "_law_side" sg__law_side [(vr 11)]) (vr 10))) (valT (lift2 (bl2 (cmpD .NotIn)) (vr 11) (vr 3)))))
    (retS 0 (kd (.bool false)))
    passS)
    (seqS (setS 0 12 (callE F "_law_hooks" sg__law_hooks [(vr 10)]))
    (seqS (ifS (orT (notT (truE (callE F "_law_same" sg__law_same [(callE F "hooks" sg_hooks [(bfE .list [(vr 10)])]), (vr 12)]))) (orT (notT (truE (callE F "_law_same" sg__law_same [(callE F "square" sg_square [(bfE .list [(vr 10)])]), (bfE .len [(vr 12)])]))) (valT (lift2 (bl2 (cmpD .NotEq)) (bfE .sum [(vr 12)]) (vr 2)))))
    (retS 0 (kd (.bool false)))
    passS)
    (ifS (orT (notT (truE (callE F "_law_same" sg__law_same [(callE F "is_even" sg_is_even [(vr 10)]), (lift2 (bl2 (cmpD .Eq)) (vr 11) (vr 10))]))) (andT (valT (lift2 (bl2 (cmpD .Eq)) (vr 11) (vr 10))) (valT (lift2 (bl2 (cmpD .Gt)) (bfE .len [(compE 14 [14] (itE (vr 12)) (valT (lift2 (bl2 (cmpD .Eq)) (bin2 (binD .Mod) (bfE .int [(vr 14)]) (kd (.int 2))) (kd (.int 0)))) (vr 14))]) (kd (.int 0))))))
    (retS 0 (kd (.bool false)))
    passS)))))))
    (pu (ifS (notT (truE (callE F "_law_same" sg__law_same [(callE F "lines" sg_lines [(vr 10)]), (compE 13 [13] (itE (vr 10)) (ret true) (mvE .join (kd (.str "")) [(compE 4 [4] (rg1E (vr 13)) (ret true) (kd (.str "#")))]))])))
    (retS 0 (kd (.bool false)))
    passS)))))
    (setN 0 5 (drawN (pu (kd (.int 11))))))
    (pu (seqS (setS 0 6 (bfE .len [(compE 10 [10] (itE (vr 3)) (valT (lift2 (bl2 (cmpD .LtE)) (bfE .max [(bin2 (binD .Add) (listE [(kd (.int 0))]) (vr 10))]) (vr 5))) (vr 10))]))
    (ifS (orT (notT (truE (callE F "_law_same" sg__law_same [(callE F "count_by" sg_count_by [(vr 2), (vr 5)]), (vr 6)]))) (valT (lift2 (bl2 (cmpD .NotEq)) (bfE .len [(compE 10 [10] (itE (vr 3)) (valT (lift2 (bl2 (cmpD .LtE)) (bfE .len [(vr 10)]) (vr 5))) (vr 10))]) (vr 6))))
    (retS 0 (kd (.bool false)))
    passS))))
    (pu (forS (nmU 0 7) (itE (listE [(listE [(kd (.int 0))]), (listE [(kd (.int 1)), (kd (.int 2))]), (listE [(kd (.bool true))]), (listE [(kd (.int 201))]), (listE [(kd (.int 100)), (kd (.int 101))]), (listE [(kd (.int 3)), (lift1 negD (kd (.int 1)))])]))
    (ifS (orT (valT (lift2 (bl2 (cmpD .NotEq)) (callE F "_law_refused" sg__law_refused [(kd (.int 0)), (vr 7), (kd (.int 0))]) (kd (.str "paper")))) (valT (lift2 (bl2 (cmpD .NotEq)) (callE F "_law_refused" sg__law_refused [(kd (.int 4)), (vr 7), (kd (.int 0))]) (kd (.str "paper")))))
    (retS 0 (kd (.bool false)))
    passS))))
    (setN 0 8 (pickN (pu (listE [(lift1 negD (kd (.int 1))), (kd (.int 201)), (kd (.bool true))])))))
    (pu (ifS (orT (valT (lift2 (bl2 (cmpD .NotEq)) (callE F "_law_refused" sg__law_refused [(kd (.int 1)), (vr 8), (kd (.int 0))]) (kd (.str "number")))) (orT (valT (lift2 (bl2 (cmpD .NotEq)) (callE F "_law_refused" sg__law_refused [(kd (.int 2)), (vr 8), (kd (.int 5))]) (kd (.str "number")))) (valT (lift2 (bl2 (cmpD .NotEq)) (callE F "_law_refused" sg__law_refused [(kd (.int 2)), (kd (.int 5)), (vr 8)]) (kd (.str "number"))))))
    (retS 0 (kd (.bool false)))
    passS)))
    (retVN 0 (andEN (lift2N (bl2 (cmpD .Eq)) (callN F "_law_refused" sg__law_refused [(pu (kd (.int 3))), (pickN (pu (listE [(lift1 negD (kd (.int 1))), (kd (.int 21)), (kd (.bool true))]))), (pu (kd (.int 0)))]) (pu (kd (.str "number")))) (pu (lift2 (bl2 (cmpD .Eq)) (callE F "_law_refused" sg__law_refused [(kd (.int 0)), (listE [(kd (.int 100)), (kd (.int 100)), (kd (.int 1))]), (kd (.int 0))]) (kd (.str "paper")))))))
def n_law (k : Nat) : Nd Fl := seqN [] true (n_lawA k) (n_lawB k)
def rest (F : FT) : M Fl :=
    (seqS (setS 0 2 (callE F "_law_draw" sg__law_draw [(vr 1), (kd (.int 10))]))
    (seqS (seqS (seqS (seqS (seqS (seqS (seqS (seqS (setS 0 3 (callE F "_law_ways" sg__law_ways [(vr 2)]))
    (ifS (orT (notT (truE (callE F "_law_same" sg__law_same [(callE F "all_ways" sg_all_ways [(vr 2)]), (vr 3)]))) (notT (truE (callE F "_law_same" sg__law_same [(callE F "count" sg_count [(vr 2)]), (bfE .len [(vr 3)])]))))
    (retS 0 (kd (.bool false)))
    passS))
    (forS (nmU 0 4) (rg1E (kd (.int 8)))
    (seqS (seqS (seqS (setS 0 9 (callE F "_law_draw" sg__law_draw [(vr 1), (bfE .len [(vr 3)])]))
    (seqS (setS 0 10 (lift2 idxD (vr 3) (vr 9)))
    (ifS (orT (notT (truE (callE F "_law_same" sg__law_same [(callE F "next_way" sg_next_way [(bfE .list [(vr 10)])]), (ifT (valT (lift2 (bl2 (cmpD .Lt)) (bin2 (binD .Add) (vr 9) (kd (.int 1))) (bfE .len [(vr 3)]))) (lift2 idxD (vr 3) (bin2 (binD .Add) (vr 9) (kd (.int 1)))) (kd .none))]))) (notT (truE (callE F "_law_same" sg__law_same [(callE F "checked_stacks" sg_checked_stacks [(vr 10)]), (vr 10)]))))
    (retS 0 (kd (.bool false)))
    passS)))
    (seqS (setS 0 11 (callE F "_law_side" sg__law_side [(vr 10)]))
    (seqS (ifS (orT (notT (truE (callE F "_law_same" sg__law_same [(callE F "turned" sg_turned [(bfE .list [(vr 10)])]), (vr 11)]))) (orT (valT (lift2 (bl2 (cmpD .NotEq)) (callE F "_law_side" sg__law_side [(vr 11)]) (vr 10))) (valT (lift2 (bl2 (cmpD .NotIn)) (vr 11) (vr 3)))))
    (retS 0 (kd (.bool false)))
    passS)
    (seqS (setS 0 12 (callE F "_law_hooks" sg__law_hooks [(vr 10)]))
    (seqS (ifS (orT (notT (truE (callE F "_law_same" sg__law_same [(callE F "hooks" sg_hooks [(bfE .list [(vr 10)])]), (vr 12)]))) (orT (notT (truE (callE F "_law_same" sg__law_same [(callE F "square" sg_square [(bfE .list [(vr 10)])]), (bfE .len [(vr 12)])]))) (valT (lift2 (bl2 (cmpD .NotEq)) (bfE .sum [(vr 12)]) (vr 2)))))
    (retS 0 (kd (.bool false)))
    passS)
    (ifS (orT (notT (truE (callE F "_law_same" sg__law_same [(callE F "is_even" sg_is_even [(vr 10)]), (lift2 (bl2 (cmpD .Eq)) (vr 11) (vr 10))]))) (andT (valT (lift2 (bl2 (cmpD .Eq)) (vr 11) (vr 10))) (valT (lift2 (bl2 (cmpD .Gt)) (bfE .len [(compE 14 [14] (itE (vr 12)) (valT (lift2 (bl2 (cmpD .Eq)) (bin2 (binD .Mod) (bfE .int [(vr 14)]) (kd (.int 2))) (kd (.int 0)))) (vr 14))]) (kd (.int 0))))))
    (retS 0 (kd (.bool false)))
    passS))))))
    (ifS (notT (truE (callE F "_law_same" sg__law_same [(callE F "lines" sg_lines [(vr 10)]), (compE 13 [13] (itE (vr 10)) (ret true) (mvE .join (kd (.str "")) [(compE 4 [4] (rg1E (vr 13)) (ret true) (kd (.str "#")))]))])))
    (retS 0 (kd (.bool false)))
    passS))))
    (setS 0 5 (callE F "_law_draw" sg__law_draw [(vr 1), (kd (.int 11))])))
    (seqS (setS 0 6 (bfE .len [(compE 10 [10] (itE (vr 3)) (valT (lift2 (bl2 (cmpD .LtE)) (bfE .max [(bin2 (binD .Add) (listE [(kd (.int 0))]) (vr 10))]) (vr 5))) (vr 10))]))
    (ifS (orT (notT (truE (callE F "_law_same" sg__law_same [(callE F "count_by" sg_count_by [(vr 2), (vr 5)]), (vr 6)]))) (valT (lift2 (bl2 (cmpD .NotEq)) (bfE .len [(compE 10 [10] (itE (vr 3)) (valT (lift2 (bl2 (cmpD .LtE)) (bfE .len [(vr 10)]) (vr 5))) (vr 10))]) (vr 6))))
    (retS 0 (kd (.bool false)))
    passS)))
    (forS (nmU 0 7) (itE (listE [(listE [(kd (.int 0))]), (listE [(kd (.int 1)), (kd (.int 2))]), (listE [(kd (.bool true))]), (listE [(kd (.int 201))]), (listE [(kd (.int 100)), (kd (.int 101))]), (listE [(kd (.int 3)), (lift1 negD (kd (.int 1)))])]))
    (ifS (orT (valT (lift2 (bl2 (cmpD .NotEq)) (callE F "_law_refused" sg__law_refused [(kd (.int 0)), (vr 7), (kd (.int 0))]) (kd (.str "paper")))) (valT (lift2 (bl2 (cmpD .NotEq)) (callE F "_law_refused" sg__law_refused [(kd (.int 4)), (vr 7), (kd (.int 0))]) (kd (.str "paper")))))
    (retS 0 (kd (.bool false)))
    passS)))
    (setS 0 8 (callE F "_law_pick" sg__law_pick [(vr 1), (listE [(lift1 negD (kd (.int 1))), (kd (.int 201)), (kd (.bool true))])])))
    (ifS (orT (valT (lift2 (bl2 (cmpD .NotEq)) (callE F "_law_refused" sg__law_refused [(kd (.int 1)), (vr 8), (kd (.int 0))]) (kd (.str "number")))) (orT (valT (lift2 (bl2 (cmpD .NotEq)) (callE F "_law_refused" sg__law_refused [(kd (.int 2)), (vr 8), (kd (.int 5))]) (kd (.str "number")))) (valT (lift2 (bl2 (cmpD .NotEq)) (callE F "_law_refused" sg__law_refused [(kd (.int 2)), (kd (.int 5)), (vr 8)]) (kd (.str "number"))))))
    (retS 0 (kd (.bool false)))
    passS))
    (retS 0 (andE (lift2 (bl2 (cmpD .Eq)) (callE F "_law_refused" sg__law_refused [(kd (.int 3)), (callE F "_law_pick" sg__law_pick [(vr 1), (listE [(lift1 negD (kd (.int 1))), (kd (.int 21)), (kd (.bool true))])]), (kd (.int 0))]) (kd (.str "number"))) (lift2 (bl2 (cmpD .Eq)) (callE F "_law_refused" sg__law_refused [(kd (.int 0)), (listE [(kd (.int 100)), (kd (.int 100)), (kd (.int 1))]), (kd (.int 0))]) (kd (.str "paper")))))))
theorem g_law (F : FT) : m_law F = seqS (newS 0 1 (callE F "_law_pool" sg__law_pool [(vr 0)])) (rest F) := by
  unfold m_law rest
  simp only [seqS_assoc, pass_seq]
theorem sim_law (k : Nat) (hk : 20 ≤ k) : Sim 1 (rest (runK tb k)) (n_law k) := by
  have hd : Draws (runK tb k) := draws k (by omega)
  unfold rest n_law n_lawA n_lawB
  exact (sim_seq (sim_set (by decide) (sim_draw hd rfl (sim_pu (mo_kd _))))
    (sim_seq (sim_seq (sim_seq (sim_seq (sim_seq (sim_seq (sim_seq (sim_pu (mo_seq (mo_set (by decide) (mo_call rfl (mo_args1 (mo_vr _) mo_args0)))
    (mo_ifT (mo_or (mo_not (mo_tru (mo_call rfl (mo_args1 (mo_call rfl (mo_args1 (mo_vr _) mo_args0)) (mo_args1 (mo_vr _) mo_args0))))) (mo_not (mo_tru (mo_call rfl (mo_args1 (mo_call rfl (mo_args1 (mo_vr _) mo_args0)) (mo_args1 (mo_bf (mo_args1 (mo_vr _) mo_args0)) mo_args0))))))
    (mo_retV (mo_kd _))
    mo_pass)))
    (sim_forUN (by decide) (by decide) (sim_pu (mo_rg1 (mo_kd _)))
    (sim_seq (sim_seq (sim_seq (sim_set (by decide) (sim_draw hd rfl (sim_pu (mo_bf (mo_args1 (mo_vr _) mo_args0)))))
    (sim_pu (mo_seq (mo_set (by decide) (mo_lift2 (mo_vr _) (mo_vr _)))
    (mo_ifT (mo_or (mo_not (mo_tru (mo_call rfl (mo_args1 (mo_call rfl (mo_args1 (mo_bf (mo_args1 (mo_vr _) mo_args0)) mo_args0)) (mo_args1 (mo_ifT (mo_val (mo_lift2 (mo_bin2 (mo_vr _) (mo_kd _)) (mo_bf (mo_args1 (mo_vr _) mo_args0)))) (mo_lift2 (mo_vr _) (mo_bin2 (mo_vr _) (mo_kd _))) (mo_kd _)) mo_args0))))) (mo_not (mo_tru (mo_call rfl (mo_args1 (mo_call rfl (mo_args1 (mo_vr _) mo_args0)) (mo_args1 (mo_vr _) mo_args0))))))
    (mo_retV (mo_kd _))
    mo_pass))))
    (sim_pu (mo_seq (mo_set (by decide) (mo_call rfl (mo_args1 (mo_vr _) mo_args0)))
    (mo_seq (mo_ifT (mo_or (mo_not (mo_tru (mo_call rfl (mo_args1 (mo_call rfl (mo_args1 (mo_bf (mo_args1 (mo_vr _) mo_args0)) mo_args0)) (mo_args1 (mo_vr _) mo_args0))))) (mo_or (mo_val (mo_lift2 (mo_call rfl (mo_args1 (mo_vr _) mo_args0)) (mo_vr _))) (mo_val (mo_lift2 (mo_vr _) (mo_vr _)))))
    (mo_retV (mo_kd _))
    mo_pass)
    (mo_seq (mo_set (by decide) (mo_call rfl (mo_args1 (mo_vr _) mo_args0)))
    (mo_seq (mo_ifT (mo_or (mo_not (mo_tru (mo_call rfl (mo_args1 (mo_call rfl (mo_args1 (mo_bf (mo_args1 (mo_vr _) mo_args0)) mo_args0)) (mo_args1 (mo_vr _) mo_args0))))) (mo_or (mo_not (mo_tru (mo_call rfl (mo_args1 (mo_call rfl (mo_args1 (mo_bf (mo_args1 (mo_vr _) mo_args0)) mo_args0)) (mo_args1 (mo_bf (mo_args1 (mo_vr _) mo_args0)) mo_args0))))) (mo_val (mo_lift2 (mo_bf (mo_args1 (mo_vr _) mo_args0)) (mo_vr _)))))
    (mo_retV (mo_kd _))
    mo_pass)
    (mo_ifT (mo_or (mo_not (mo_tru (mo_call rfl (mo_args1 (mo_call rfl (mo_args1 (mo_vr _) mo_args0)) (mo_args1 (mo_lift2 (mo_vr _) (mo_vr _)) mo_args0))))) (mo_and (mo_val (mo_lift2 (mo_vr _) (mo_vr _))) (mo_val (mo_lift2 (mo_bf (mo_args1 (mo_comp (by decide) (by decide) (lk_it (mo_vr _)) (mo_it (mo_vr _)) (mo_val (mo_lift2 (mo_bin2 (mo_bf (mo_args1 (mo_vr _) mo_args0)) (mo_kd _)) (mo_kd _))) (mo_vr _)) mo_args0)) (mo_kd _)))))
    (mo_retV (mo_kd _))
    mo_pass)))))))
    (sim_pu (mo_ifT (mo_not (mo_tru (mo_call rfl (mo_args1 (mo_call rfl (mo_args1 (mo_vr _) mo_args0)) (mo_args1 (mo_comp (by decide) (by decide) (lk_it (mo_vr _)) (mo_it (mo_vr _)) mo_ret (mo_mv (mo_kd _) (mo_args1 (mo_comp (by decide) (by decide) (lk_rg1 (mo_vr _)) (mo_rg1 (mo_vr _)) mo_ret (mo_kd _)) mo_args0))) mo_args0)))))
    (mo_retV (mo_kd _))
    mo_pass)))))
    (sim_set (by decide) (sim_draw hd rfl (sim_pu (mo_kd _)))))
    (sim_pu (mo_seq (mo_set (by decide) (mo_bf (mo_args1 (mo_comp (by decide) (by decide) (lk_it (mo_vr _)) (mo_it (mo_vr _)) (mo_val (mo_lift2 (mo_bf (mo_args1 (mo_bin2 (mo_list (mo_args1 (mo_kd _) mo_args0)) (mo_vr _)) mo_args0)) (mo_vr _))) (mo_vr _)) mo_args0)))
    (mo_ifT (mo_or (mo_not (mo_tru (mo_call rfl (mo_args1 (mo_call rfl (mo_args1 (mo_vr _) (mo_args1 (mo_vr _) mo_args0))) (mo_args1 (mo_vr _) mo_args0))))) (mo_val (mo_lift2 (mo_bf (mo_args1 (mo_comp (by decide) (by decide) (lk_it (mo_vr _)) (mo_it (mo_vr _)) (mo_val (mo_lift2 (mo_bf (mo_args1 (mo_vr _) mo_args0)) (mo_vr _))) (mo_vr _)) mo_args0)) (mo_vr _))))
    (mo_retV (mo_kd _))
    mo_pass))))
    (sim_pu (mo_for (mo_nmU (by decide)) (mo_it (mo_list (mo_args1 (mo_list (mo_args1 (mo_kd _) mo_args0)) (mo_args1 (mo_list (mo_args1 (mo_kd _) (mo_args1 (mo_kd _) mo_args0))) (mo_args1 (mo_list (mo_args1 (mo_kd _) mo_args0)) (mo_args1 (mo_list (mo_args1 (mo_kd _) mo_args0)) (mo_args1 (mo_list (mo_args1 (mo_kd _) (mo_args1 (mo_kd _) mo_args0))) (mo_args1 (mo_list (mo_args1 (mo_kd _) (mo_args1 (mo_lift1 (mo_kd _)) mo_args0))) mo_args0))))))))
    (mo_ifT (mo_or (mo_val (mo_lift2 (mo_call rfl (mo_args1 (mo_kd _) (mo_args1 (mo_vr _) (mo_args1 (mo_kd _) mo_args0)))) (mo_kd _))) (mo_val (mo_lift2 (mo_call rfl (mo_args1 (mo_kd _) (mo_args1 (mo_vr _) (mo_args1 (mo_kd _) mo_args0)))) (mo_kd _))))
    (mo_retV (mo_kd _))
    mo_pass))))
    (sim_set (by decide) (sim_pick hd rfl (sim_pu (mo_list (mo_args1 (mo_lift1 (mo_kd _)) (mo_args1 (mo_kd _) (mo_args1 (mo_kd _) mo_args0))))))))
    (sim_pu (mo_ifT (mo_or (mo_val (mo_lift2 (mo_call rfl (mo_args1 (mo_kd _) (mo_args1 (mo_vr _) (mo_args1 (mo_kd _) mo_args0)))) (mo_kd _))) (mo_or (mo_val (mo_lift2 (mo_call rfl (mo_args1 (mo_kd _) (mo_args1 (mo_vr _) (mo_args1 (mo_kd _) mo_args0)))) (mo_kd _))) (mo_val (mo_lift2 (mo_call rfl (mo_args1 (mo_kd _) (mo_args1 (mo_kd _) (mo_args1 (mo_vr _) mo_args0)))) (mo_kd _)))))
    (mo_retV (mo_kd _))
    mo_pass)))
    (sim_retV (sim_andE (sim_lift2 (sim_call rfl (sim_args1 (sim_pu (mo_kd _)) (sim_args1 (sim_pick hd rfl (sim_pu (mo_list (mo_args1 (mo_lift1 (mo_kd _)) (mo_args1 (mo_kd _) (mo_args1 (mo_kd _) mo_args0)))))) (sim_args1 (sim_pu (mo_kd _)) sim_args0)))) (sim_pu (mo_kd _))) (sim_pu (mo_lift2 (mo_call rfl (mo_args1 (mo_kd _) (mo_args1 (mo_list (mo_args1 (mo_kd _) (mo_args1 (mo_kd _) (mo_args1 (mo_kd _) mo_args0)))) (mo_args1 (mo_kd _) mo_args0)))) (mo_kd _)))))))
def SETPOOL (F : FT) : M Fl := (newS 0 1 (callE F "_law_pool" sg__law_pool [(vr 0)]))
theorem pool_run (k : Nat) (ns : List Int) : runK tb (k + 1) "_law_pool" [.sc ns] = .ok (.fl [.list (ns.map .int), .int 0, .int 0, .int 0, .int 0]) [] := by
  rw [r__law_pool]
  rfl
theorem val0 (ns : List Int) (chk : allT (n_law 39 (List.replicate 15 .no)) = true) : VL.runK tb 40 "law" [.sc ns] = .ok (.d (.bool true)) [] := by
  obtain ⟨l, el, hl⟩ := allT_mem chk
  have hid : Hid 1 15 ⟨ns, 0, 0, 0, 0⟩ (List.replicate 15 .no) (.sc ns :: (Po.mk ns 0 0 0 0).sl :: List.replicate (15 - 2) .no) := by
    refine ⟨rfl, rfl, fun j => ?_, rfl, rfl, (by show (0 : Int) ≤ 0; decide), fun j c z => ?_⟩
    · rw [show List.replicate 15 Slot.no = [] ++ List.replicate 15 Slot.no from rfl, gt_args]
      exact .inr (by simp)
    · rcases List.mem_cons.mp (gt_mem z (by simp)) with w | w
      · cases w
      · rcases List.mem_cons.mp w with w | w
        · cases w
        · exact nomatch List.eq_of_mem_replicate w
  obtain ⟨f, Γn', Γ', P', m1, e1, h1⟩ := sim_law 39 (by omega) 15 _ _ _ hid l el
  rw [hl f Γn' m1] at e1
  rw [r_law]
  have e0 : m_law (runK tb 39) (.sc ns :: List.replicate (15 - 1) .no) = .ok (.rt (.d (.bool true))) Γ' := by
    rw [g_law]
    unfold seqS bnd
    have es : SETPOOL (runK tb 39) (.sc ns :: List.replicate (15 - 1) .no) = .ok .nx (.sc ns :: (Po.mk ns 0 0 0 0).sl :: List.replicate (15 - 2) .no) := by
      unfold SETPOOL newS bnd callE
      have ea : argsE [vr 0] (.sc ns :: List.replicate (15 - 1) .no) = .ok [.rf 0] (.sc ns :: List.replicate (15 - 1) .no) := rfl
      unfold bnd
      rw [ea]
      have ep := pool_run 38 ns
      dsimp only
      rw [if_neg (by decide)]
      have eh : hardSlots [.rf 0] (.sc ns :: List.replicate (15 - 1) .no) = .ok [.sc ns] (.sc ns :: List.replicate (15 - 1) .no) := rfl
      rw [eh]
      dsimp only
      unfold callPl
      have ed : [Slot.sc ns] ++ dflS sg__law_pool [Slot.sc ns].length = [.sc ns] := rfl
      rw [ed, ep]
      rfl
    have e3 := es
    unfold SETPOOL at e3
    rw [e3]
    exact e1
  unfold runB
  rw [if_pos (by rfl)]
  show endB false (m_law (runK tb 39) (.sc ns :: List.replicate (15 - 1) .no)) = _
  rw [e0]
  rfl

end LW

namespace LW
open VL PySem
def ini : VL.Env := List.replicate 15 .no
def e_ (w : Nat) : VL.Env := .no :: .no :: .va (.int (Int.ofNat w)) :: List.replicate 12 .no
theorem chk0 : allT (n_lawB 39 (e_ 0)) = true := by decide +kernel
theorem chk1 : allT (n_lawB 39 (e_ 1)) = true := by decide +kernel
theorem chk2 : allT (n_lawB 39 (e_ 2)) = true := by decide +kernel
theorem chk3 : allT (n_lawB 39 (e_ 3)) = true := by decide +kernel
theorem chk4 : allT (n_lawB 39 (e_ 4)) = true := by decide +kernel
theorem chk5 : allT (n_lawB 39 (e_ 5)) = true := by decide +kernel
theorem chk6 : allT (n_lawB 39 (e_ 6)) = true := by decide +kernel
theorem chk7 : allT (n_lawB 39 (e_ 7)) = true := by decide +kernel
theorem chk8 : allT (n_lawB 39 (e_ 8)) = true := by decide +kernel
theorem chk9 : allT (n_lawB 39 (e_ 9)) = true := by decide +kernel
theorem chkA : n_lawA 39 ini = some ((upto 10 0).map fun w => (Fl.nx, e_ w)) := by kernel_rfl
theorem chk : allT (n_law 39 ini) = true := by
  unfold n_law
  refine seq_split chkA (S := (upto 10 0).map e_) (by rfl) fun Δ hd => ?_
  have hd : Δ ∈ (upto 10 0).map e_ := by
    have e : mrgIf true ((upto 10 0).map e_) = (upto 10 0).map e_ := by kernel_rfl
    rw [e] at hd
    exact hd
  simp only [upto, List.map, List.mem_cons, List.not_mem_nil, or_false] at hd
  rcases hd with rfl | rfl | rfl | rfl | rfl | rfl | rfl | rfl | rfl | rfl
  · exact chk0
  · exact chk1
  · exact chk2
  · exact chk3
  · exact chk4
  · exact chk5
  · exact chk6
  · exact chk7
  · exact chk8
  · exact chk9
theorem val (ns : List Int) (h : ns.length ≤ 63) : VL.runK tb 40 "law" [.sc ns] = .ok (.d (.bool true)) [] := val0 ns chk
end LW

namespace LW
open PySem VL L2
theorem all_mk {P : Program} {w : World} {K : PySem.W.Frag} {h : Heap} {mg : Str → Option Value} {fa : Addr} (X : K.In h) (G : h.Ns mainGlobals mg) (hfa : mg "law" = some (.ref fa))
    {T0 : Addr} {oT0 : Obj} {its0 : List Value} {nT0 : Nat}
    {a0 : Addr} {od0 an0 : Option Addr} {sl0 : Array (Option Value)} {oc0 kV0 dc0 pm0 cd0 ct0 : Value}
    {T1 : Addr} {oT1 : Obj} {its1 : List Value} {nT1 : Nat}
    {a1 : Addr} {od1 an1 : Option Addr} {sl1 : Array (Option Value)} {oc1 kV1 dc1 pm1 cd1 ct1 : Value}
    {a2 : Addr} {od2 an2 : Option Addr} {sl2 : Array (Option Value)} {oc2 kV2 dc2 pm2 cd2 ct2 : Value}
    {a3 : Addr} {od3 an3 : Option Addr} {sl3 : Array (Option Value)} {oc3 kV3 dc3 pm3 cd3 ct3 : Value}
    {a4 : Addr} {od4 an4 : Option Addr} {sl4 : Array (Option Value)} {oc4 kV4 dc4 pm4 cd4 ct4 : Value}
    {a5 : Addr} {od5 an5 : Option Addr} {sl5 : Array (Option Value)} {oc5 kV5 dc5 pm5 cd5 ct5 : Value}
    {a6 : Addr} {od6 an6 : Option Addr} {sl6 : Array (Option Value)} {oc6 kV6 dc6 pm6 cd6 ct6 : Value}
    {a7 : Addr} {od7 an7 : Option Addr} {sl7 : Array (Option Value)} {oc7 kV7 dc7 pm7 cd7 ct7 : Value}
    {a8 : Addr} {od8 an8 : Option Addr} {sl8 : Array (Option Value)} {oc8 kV8 dc8 pm8 cd8 ct8 : Value}
    {a9 : Addr} {od9 an9 : Option Addr} {sl9 : Array (Option Value)} {oc9 kV9 dc9 pm9 cd9 ct9 : Value}
    {a10 : Addr} {od10 an10 : Option Addr} {sl10 : Array (Option Value)} {oc10 kV10 dc10 pm10 cd10 ct10 : Value}
    {a11 : Addr} {od11 an11 : Option Addr} {sl11 : Array (Option Value)} {oc11 kV11 dc11 pm11 cd11 ct11 : Value}
    {a12 : Addr} {od12 an12 : Option Addr} {sl12 : Array (Option Value)} {oc12 kV12 dc12 pm12 cd12 ct12 : Value}
    {a13 : Addr} {od13 an13 : Option Addr} {sl13 : Array (Option Value)} {oc13 kV13 dc13 pm13 cd13 ct13 : Value}
    {a14 : Addr} {od14 an14 : Option Addr} {sl14 : Array (Option Value)} {oc14 kV14 dc14 pm14 cd14 ct14 : Value}
    {a15 : Addr} {od15 an15 : Option Addr} {sl15 : Array (Option Value)} {oc15 kV15 dc15 pm15 cd15 ct15 : Value}
    {a16 : Addr} {od16 an16 : Option Addr} {sl16 : Array (Option Value)} {oc16 kV16 dc16 pm16 cd16 ct16 : Value}
    {a17 : Addr} {od17 an17 : Option Addr} {sl17 : Array (Option Value)} {oc17 kV17 dc17 pm17 cd17 ct17 : Value}
    {a18 : Addr} {od18 an18 : Option Addr} {sl18 : Array (Option Value)} {oc18 kV18 dc18 pm18 cd18 ct18 : Value}
    {a19 : Addr} {od19 an19 : Option Addr} {sl19 : Array (Option Value)} {oc19 kV19 dc19 pm19 cd19 ct19 : Value}
    {a20 : Addr} {od20 an20 : Option Addr} {sl20 : Array (Option Value)} {oc20 kV20 dc20 pm20 cd20 ct20 : Value}
    {a21 : Addr} {od21 an21 : Option Addr} {sl21 : Array (Option Value)} {oc21 kV21 dc21 pm21 cd21 ct21 : Value}
    {e0 : Addr}
    {e1 : Addr}
    {e2 : Addr}
    {ti0 : Tok}
    {ti1 : Tok}
    (hA0 : PySem.W.nsIn K mainGlobals "is_number" = some (some (.ref a0)))
    (hL0 : K.lookup a0 = some ⟨oc0, od0, .func (PySem.W.fnOf "is_number" "is_number" (defArgs (topS 6)) (defBody (topS 6)) (defScope (topS 6)) (.ref T0) kV0 dc0 pm0 an0 cd0 ct0), sl0⟩)
    (hC0 : PySem.W.codeIn K cd0 "is_number" = true)
    (hK0 : PySem.W.keepIn K (.ref a0) = true)
    (hT0l : K.lookup T0 = some oT0)
    (hT0d : oT0.data = .seq its0.toArray nT0)
    (hT0v : Vals (([0, 1000000] : List Int).map V.int) its0)
    (hA1 : PySem.W.nsIn K mainGlobals "checked_number" = some (some (.ref a1)))
    (hL1 : K.lookup a1 = some ⟨oc1, od1, .func (PySem.W.fnOf "checked_number" "checked_number" (defArgs (topS 7)) (defBody (topS 7)) (defScope (topS 7)) (.ref T1) kV1 dc1 pm1 an1 cd1 ct1), sl1⟩)
    (hC1 : PySem.W.codeIn K cd1 "checked_number" = true)
    (hK1 : PySem.W.keepIn K (.ref a1) = true)
    (hT1l : K.lookup T1 = some oT1)
    (hT1d : oT1.data = .seq its1.toArray nT1)
    (hT1v : Vals (([0, 1000000] : List Int).map V.int) its1)
    (hA2 : PySem.W.nsIn K mainGlobals "checked_stacks" = some (some (.ref a2)))
    (hL2 : K.lookup a2 = some ⟨oc2, od2, .func (PySem.W.fnOf "checked_stacks" "checked_stacks" (defArgs (topS 10)) (defBody (topS 10)) (defScope (topS 10)) .none kV2 dc2 pm2 an2 cd2 ct2), sl2⟩)
    (hC2 : PySem.W.codeIn K cd2 "checked_stacks" = true)
    (hK2 : PySem.W.keepIn K (.ref a2) = true)
    (hA3 : PySem.W.nsIn K mainGlobals "count" = some (some (.ref a3)))
    (hL3 : K.lookup a3 = some ⟨oc3, od3, .func (PySem.W.fnOf "count" "count" (defArgs (topS 11)) (defBody (topS 11)) (defScope (topS 11)) .none kV3 dc3 pm3 an3 cd3 ct3), sl3⟩)
    (hC3 : PySem.W.codeIn K cd3 "count" = true)
    (hK3 : PySem.W.keepIn K (.ref a3) = true)
    (hA4 : PySem.W.nsIn K mainGlobals "count_by" = some (some (.ref a4)))
    (hL4 : K.lookup a4 = some ⟨oc4, od4, .func (PySem.W.fnOf "count_by" "count_by" (defArgs (topS 12)) (defBody (topS 12)) (defScope (topS 12)) .none kV4 dc4 pm4 an4 cd4 ct4), sl4⟩)
    (hC4 : PySem.W.codeIn K cd4 "count_by" = true)
    (hK4 : PySem.W.keepIn K (.ref a4) = true)
    (hA5 : PySem.W.nsIn K mainGlobals "all_ways" = some (some (.ref a5)))
    (hL5 : K.lookup a5 = some ⟨oc5, od5, .func (PySem.W.fnOf "all_ways" "all_ways" (defArgs (topS 13)) (defBody (topS 13)) (defScope (topS 13)) .none kV5 dc5 pm5 an5 cd5 ct5), sl5⟩)
    (hC5 : PySem.W.codeIn K cd5 "all_ways" = true)
    (hK5 : PySem.W.keepIn K (.ref a5) = true)
    (hA6 : PySem.W.nsIn K mainGlobals "next_way" = some (some (.ref a6)))
    (hL6 : K.lookup a6 = some ⟨oc6, od6, .func (PySem.W.fnOf "next_way" "next_way" (defArgs (topS 14)) (defBody (topS 14)) (defScope (topS 14)) .none kV6 dc6 pm6 an6 cd6 ct6), sl6⟩)
    (hC6 : PySem.W.codeIn K cd6 "next_way" = true)
    (hK6 : PySem.W.keepIn K (.ref a6) = true)
    (hA7 : PySem.W.nsIn K mainGlobals "turned" = some (some (.ref a7)))
    (hL7 : K.lookup a7 = some ⟨oc7, od7, .func (PySem.W.fnOf "turned" "turned" (defArgs (topS 15)) (defBody (topS 15)) (defScope (topS 15)) .none kV7 dc7 pm7 an7 cd7 ct7), sl7⟩)
    (hC7 : PySem.W.codeIn K cd7 "turned" = true)
    (hK7 : PySem.W.keepIn K (.ref a7) = true)
    (hA8 : PySem.W.nsIn K mainGlobals "is_even" = some (some (.ref a8)))
    (hL8 : K.lookup a8 = some ⟨oc8, od8, .func (PySem.W.fnOf "is_even" "is_even" (defArgs (topS 16)) (defBody (topS 16)) (defScope (topS 16)) .none kV8 dc8 pm8 an8 cd8 ct8), sl8⟩)
    (hC8 : PySem.W.codeIn K cd8 "is_even" = true)
    (hK8 : PySem.W.keepIn K (.ref a8) = true)
    (hA9 : PySem.W.nsIn K mainGlobals "square" = some (some (.ref a9)))
    (hL9 : K.lookup a9 = some ⟨oc9, od9, .func (PySem.W.fnOf "square" "square" (defArgs (topS 17)) (defBody (topS 17)) (defScope (topS 17)) .none kV9 dc9 pm9 an9 cd9 ct9), sl9⟩)
    (hC9 : PySem.W.codeIn K cd9 "square" = true)
    (hK9 : PySem.W.keepIn K (.ref a9) = true)
    (hA10 : PySem.W.nsIn K mainGlobals "hooks" = some (some (.ref a10)))
    (hL10 : K.lookup a10 = some ⟨oc10, od10, .func (PySem.W.fnOf "hooks" "hooks" (defArgs (topS 18)) (defBody (topS 18)) (defScope (topS 18)) .none kV10 dc10 pm10 an10 cd10 ct10), sl10⟩)
    (hC10 : PySem.W.codeIn K cd10 "hooks" = true)
    (hK10 : PySem.W.keepIn K (.ref a10) = true)
    (hA11 : PySem.W.nsIn K mainGlobals "lines" = some (some (.ref a11)))
    (hL11 : K.lookup a11 = some ⟨oc11, od11, .func (PySem.W.fnOf "lines" "lines" (defArgs (topS 19)) (defBody (topS 19)) (defScope (topS 19)) .none kV11 dc11 pm11 an11 cd11 ct11), sl11⟩)
    (hC11 : PySem.W.codeIn K cd11 "lines" = true)
    (hK11 : PySem.W.keepIn K (.ref a11) = true)
    (hA12 : PySem.W.nsIn K mainGlobals "_law_same" = some (some (.ref a12)))
    (hL12 : K.lookup a12 = some ⟨oc12, od12, .func (PySem.W.fnOf "_law_same" "_law_same" (defArgs (topS 21)) (defBody (topS 21)) (defScope (topS 21)) .none kV12 dc12 pm12 an12 cd12 ct12), sl12⟩)
    (hC12 : PySem.W.codeIn K cd12 "_law_same" = true)
    (hK12 : PySem.W.keepIn K (.ref a12) = true)
    (hA13 : PySem.W.nsIn K mainGlobals "_law_pool" = some (some (.ref a13)))
    (hL13 : K.lookup a13 = some ⟨oc13, od13, .func (PySem.W.fnOf "_law_pool" "_law_pool" (defArgs (topS 22)) (defBody (topS 22)) (defScope (topS 22)) .none kV13 dc13 pm13 an13 cd13 ct13), sl13⟩)
    (hC13 : PySem.W.codeIn K cd13 "_law_pool" = true)
    (hK13 : PySem.W.keepIn K (.ref a13) = true)
    (hA14 : PySem.W.nsIn K mainGlobals "_law_draw" = some (some (.ref a14)))
    (hL14 : K.lookup a14 = some ⟨oc14, od14, .func (PySem.W.fnOf "_law_draw" "_law_draw" (defArgs (topS 23)) (defBody (topS 23)) (defScope (topS 23)) .none kV14 dc14 pm14 an14 cd14 ct14), sl14⟩)
    (hC14 : PySem.W.codeIn K cd14 "_law_draw" = true)
    (hK14 : PySem.W.keepIn K (.ref a14) = true)
    (hA15 : PySem.W.nsIn K mainGlobals "_law_pick" = some (some (.ref a15)))
    (hL15 : K.lookup a15 = some ⟨oc15, od15, .func (PySem.W.fnOf "_law_pick" "_law_pick" (defArgs (topS 24)) (defBody (topS 24)) (defScope (topS 24)) .none kV15 dc15 pm15 an15 cd15 ct15), sl15⟩)
    (hC15 : PySem.W.codeIn K cd15 "_law_pick" = true)
    (hK15 : PySem.W.keepIn K (.ref a15) = true)
    (hA16 : PySem.W.nsIn K mainGlobals "_law_refusal" = some (some (.ref a16)))
    (hL16 : K.lookup a16 = some ⟨oc16, od16, .func (PySem.W.fnOf "_law_refusal" "_law_refusal" (defArgs (topS 25)) (defBody (topS 25)) (defScope (topS 25)) .none kV16 dc16 pm16 an16 cd16 ct16), sl16⟩)
    (hC16 : PySem.W.codeIn K cd16 "_law_refusal" = true)
    (hK16 : PySem.W.keepIn K (.ref a16) = true)
    (hA17 : PySem.W.nsIn K mainGlobals "_law_ways" = some (some (.ref a17)))
    (hL17 : K.lookup a17 = some ⟨oc17, od17, .func (PySem.W.fnOf "_law_ways" "_law_ways" (defArgs (topS 26)) (defBody (topS 26)) (defScope (topS 26)) .none kV17 dc17 pm17 an17 cd17 ct17), sl17⟩)
    (hC17 : PySem.W.codeIn K cd17 "_law_ways" = true)
    (hK17 : PySem.W.keepIn K (.ref a17) = true)
    (hA18 : PySem.W.nsIn K mainGlobals "_law_side" = some (some (.ref a18)))
    (hL18 : K.lookup a18 = some ⟨oc18, od18, .func (PySem.W.fnOf "_law_side" "_law_side" (defArgs (topS 27)) (defBody (topS 27)) (defScope (topS 27)) .none kV18 dc18 pm18 an18 cd18 ct18), sl18⟩)
    (hC18 : PySem.W.codeIn K cd18 "_law_side" = true)
    (hK18 : PySem.W.keepIn K (.ref a18) = true)
    (hA19 : PySem.W.nsIn K mainGlobals "_law_hooks" = some (some (.ref a19)))
    (hL19 : K.lookup a19 = some ⟨oc19, od19, .func (PySem.W.fnOf "_law_hooks" "_law_hooks" (defArgs (topS 28)) (defBody (topS 28)) (defScope (topS 28)) .none kV19 dc19 pm19 an19 cd19 ct19), sl19⟩)
    (hC19 : PySem.W.codeIn K cd19 "_law_hooks" = true)
    (hK19 : PySem.W.keepIn K (.ref a19) = true)
    (hA20 : PySem.W.nsIn K mainGlobals "_law_refused" = some (some (.ref a20)))
    (hL20 : K.lookup a20 = some ⟨oc20, od20, .func (PySem.W.fnOf "_law_refused" "_law_refused" (defArgs (topS 29)) (defBody (topS 29)) (defScope (topS 29)) .none kV20 dc20 pm20 an20 cd20 ct20), sl20⟩)
    (hC20 : PySem.W.codeIn K cd20 "_law_refused" = true)
    (hK20 : PySem.W.keepIn K (.ref a20) = true)
    (hA21 : PySem.W.nsIn K mainGlobals "law" = some (some (.ref a21)))
    (hL21 : K.lookup a21 = some ⟨oc21, od21, .func (PySem.W.fnOf "law" "law" (defArgs (topS 30)) (defBody (topS 30)) (defScope (topS 30)) .none kV21 dc21 pm21 an21 cd21 ct21), sl21⟩)
    (hC21 : PySem.W.codeIn K cd21 "law" = true)
    (hK21 : PySem.W.keepIn K (.ref a21) = true)
    (hE0a : PySem.W.nsIn K mainGlobals "WareError" = some (some (.ref e0)))
    (hE0b : excB K e0 = true)
    (hE1a : PySem.W.nsIn K mainGlobals "InvalidNumber" = some (some (.ref e1)))
    (hE1b : excB K e1 = true)
    (hE2a : PySem.W.nsIn K mainGlobals "InvalidPaper" = some (some (.ref e2)))
    (hE2b : excB K e2 = true)
    (hR0 : ancB K e1 ["InvalidNumber", "WareError", "ValueError"] [("WareError", e0), ("InvalidNumber", e1), ("InvalidPaper", e2)] = true)
    (hR1 : ancB K e2 ["InvalidPaper", "WareError", "ValueError"] [("WareError", e0), ("InvalidNumber", e1), ("InvalidPaper", e2)] = true)
    (hI0 : PySem.W.nsIn K mainGlobals "GREATEST" = some (some (.int 1000000 ti0)))
    (hI1 : PySem.W.nsIn K mainGlobals "MOST" = some (some (.int 200 ti1)))
    (hF0 : PySem.W.nsIn K mainGlobals "ValueError" = some none)
    (hF1 : PySem.W.nsIn K mainGlobals "abs" = some none)
    (hF2 : PySem.W.nsIn K mainGlobals "bool" = some none)
    (hF3 : PySem.W.nsIn K mainGlobals "int" = some none)
    (hF4 : PySem.W.nsIn K mainGlobals "isinstance" = some none)
    (hF5 : PySem.W.nsIn K mainGlobals "len" = some none)
    (hF6 : PySem.W.nsIn K mainGlobals "list" = some none)
    (hF7 : PySem.W.nsIn K mainGlobals "max" = some none)
    (hF8 : PySem.W.nsIn K mainGlobals "min" = some none)
    (hF9 : PySem.W.nsIn K mainGlobals "range" = some none)
    (hF10 : PySem.W.nsIn K mainGlobals "reversed" = some none)
    (hF11 : PySem.W.nsIn K mainGlobals "sorted" = some none)
    (hF12 : PySem.W.nsIn K mainGlobals "str" = some none)
    (hF13 : PySem.W.nsIn K mainGlobals "sum" = some none)
    (hF14 : PySem.W.nsIn K mainGlobals "tuple" = some none)
    : ∃ fd : FuncData, (∀ (s : Shared) (v : Value), BindsTo s fd ⟨[v], []⟩ [("script", v)]) ∧ ∀ base : Heap, K.In base → base.Ns mainGlobals mg → FnOk P w K mg base (L2N.CX P w) 40 fa fd ["script"] (spL K (runK tb 40 "law")) := by
  have wf : Wf g K mg := wf_mk X G [("WareError", e0), ("InvalidNumber", e1), ("InvalidPaper", e2)]
    ⟨⟨_, hI0⟩, ⟨_, hI1⟩, trivial⟩
    trivial
    ⟨hF0, hF1, hF2, hF3, hF4, hF5, hF6, hF7, hF8, hF9, hF10, hF11, hF12, hF13, hF14, trivial⟩
    rfl
    ⟨⟨hE0a, hE0b⟩, ⟨hE1a, hE1b⟩, ⟨hE2a, hE2b⟩, trivial⟩
    ⟨⟨_, .tail _ (.head _), hR0⟩, ⟨_, .tail _ (.tail _ (.head _)), hR1⟩, trivial⟩
  have D0 : DP g tb K mg fu 40 "is_number" sg_is_number := dp_mkD (d := d_is_number) (m := m_is_number) (ns := [0, 1000000]) X G hA0 hL0 hC0 hK0 (by rfl) sc_is_number ev_is_number rfl (by decide) (by decide) hT0l hT0d hT0v fun j h1 h2 T kV doc pm an cdv ct us its l1 l2 => by
    have h1 : j ≤ 3 := h1
    have h2 : 3 ≤ j + 2 := h2
    have hj : j = 1 ∨ j = 2 ∨ j = 3 := by omega
    rcases hj with rfl | rfl | rfl
    · exact match us, its, l1, l2 with | [_], [_, _], _, _ => ⟨_, rfl, rfl⟩
    · exact match us, its, l1, l2 with | [_, _], [_, _], _, _ => ⟨_, rfl, rfl⟩
    · exact match us, its, l1, l2 with | [_, _, _], [_, _], _, _ => ⟨_, rfl, rfl⟩
  have D1 : DP g tb K mg fu 40 "checked_number" sg_checked_number := dp_mkD (d := d_checked_number) (m := m_checked_number) (ns := [0, 1000000]) X G hA1 hL1 hC1 hK1 (by rfl) sc_checked_number ev_checked_number rfl (by decide) (by decide) hT1l hT1d hT1v fun j h1 h2 T kV doc pm an cdv ct us its l1 l2 => by
    have h1 : j ≤ 3 := h1
    have h2 : 3 ≤ j + 2 := h2
    have hj : j = 1 ∨ j = 2 ∨ j = 3 := by omega
    rcases hj with rfl | rfl | rfl
    · exact match us, its, l1, l2 with | [_], [_, _], _, _ => ⟨_, rfl, rfl⟩
    · exact match us, its, l1, l2 with | [_, _], [_, _], _, _ => ⟨_, rfl, rfl⟩
    · exact match us, its, l1, l2 with | [_, _, _], [_, _], _, _ => ⟨_, rfl, rfl⟩
  have D2 : DP g tb K mg fu 40 "checked_stacks" sg_checked_stacks := dp_mk (d := d_checked_stacks) (m := m_checked_stacks) X G hA2 hL2 hC2 hK2 (by rfl) sc_checked_stacks ev_checked_stacks rfl fun _ _ _ _ _ _ us hl => match us, hl with | [_], _ => rfl
  have D3 : DP g tb K mg fu 40 "count" sg_count := dp_mk (d := d_count) (m := m_count) X G hA3 hL3 hC3 hK3 (by rfl) sc_count ev_count rfl fun _ _ _ _ _ _ us hl => match us, hl with | [_], _ => rfl
  have D4 : DP g tb K mg fu 40 "count_by" sg_count_by := dp_mk (d := d_count_by) (m := m_count_by) X G hA4 hL4 hC4 hK4 (by rfl) sc_count_by ev_count_by rfl fun _ _ _ _ _ _ us hl => match us, hl with | [_, _], _ => rfl
  have D5 : DP g tb K mg fu 40 "all_ways" sg_all_ways := dp_mk (d := d_all_ways) (m := m_all_ways) X G hA5 hL5 hC5 hK5 (by rfl) sc_all_ways ev_all_ways rfl fun _ _ _ _ _ _ us hl => match us, hl with | [_], _ => rfl
  have D6 : DP g tb K mg fu 40 "next_way" sg_next_way := dp_mk (d := d_next_way) (m := m_next_way) X G hA6 hL6 hC6 hK6 (by rfl) sc_next_way ev_next_way rfl fun _ _ _ _ _ _ us hl => match us, hl with | [_], _ => rfl
  have D7 : DP g tb K mg fu 40 "turned" sg_turned := dp_mk (d := d_turned) (m := m_turned) X G hA7 hL7 hC7 hK7 (by rfl) sc_turned ev_turned rfl fun _ _ _ _ _ _ us hl => match us, hl with | [_], _ => rfl
  have D8 : DP g tb K mg fu 40 "is_even" sg_is_even := dp_mk (d := d_is_even) (m := m_is_even) X G hA8 hL8 hC8 hK8 (by rfl) sc_is_even ev_is_even rfl fun _ _ _ _ _ _ us hl => match us, hl with | [_], _ => rfl
  have D9 : DP g tb K mg fu 40 "square" sg_square := dp_mk (d := d_square) (m := m_square) X G hA9 hL9 hC9 hK9 (by rfl) sc_square ev_square rfl fun _ _ _ _ _ _ us hl => match us, hl with | [_], _ => rfl
  have D10 : DP g tb K mg fu 40 "hooks" sg_hooks := dp_mk (d := d_hooks) (m := m_hooks) X G hA10 hL10 hC10 hK10 (by rfl) sc_hooks ev_hooks rfl fun _ _ _ _ _ _ us hl => match us, hl with | [_], _ => rfl
  have D11 : DP g tb K mg fu 40 "lines" sg_lines := dp_mk (d := d_lines) (m := m_lines) X G hA11 hL11 hC11 hK11 (by rfl) sc_lines ev_lines rfl fun _ _ _ _ _ _ us hl => match us, hl with | [_], _ => rfl
  have D12 : DP g tb K mg fu 40 "_law_same" sg__law_same := dp_mk (d := d__law_same) (m := m__law_same) X G hA12 hL12 hC12 hK12 (by rfl) sc__law_same ev__law_same rfl fun _ _ _ _ _ _ us hl => match us, hl with | [_, _], _ => rfl
  have D13 : DP g tb K mg fu 40 "_law_pool" sg__law_pool := dp_mk (d := d__law_pool) (m := m__law_pool) X G hA13 hL13 hC13 hK13 (by rfl) sc__law_pool ev__law_pool rfl fun _ _ _ _ _ _ us hl => match us, hl with | [_], _ => rfl
  have D14 : DP g tb K mg fu 40 "_law_draw" sg__law_draw := dp_mk (d := d__law_draw) (m := m__law_draw) X G hA14 hL14 hC14 hK14 (by rfl) sc__law_draw ev__law_draw rfl fun _ _ _ _ _ _ us hl => match us, hl with | [_, _], _ => rfl
  have D15 : DP g tb K mg fu 40 "_law_pick" sg__law_pick := dp_mk (d := d__law_pick) (m := m__law_pick) X G hA15 hL15 hC15 hK15 (by rfl) sc__law_pick ev__law_pick rfl fun _ _ _ _ _ _ us hl => match us, hl with | [_, _], _ => rfl
  have D16 : DH g tb K mg fu 40 "_law_refusal" := dh_mk (d := d__law_refusal) (m := m__law_refusal) X G hA16 hL16 hC16 hK16 (by rfl) sc__law_refusal ev__law_refusal rfl rfl fun _ _ _ _ _ _ us hl => match us, hl with | [_], _ => rfl
  have D17 : DP g tb K mg fu 40 "_law_ways" sg__law_ways := dp_mk (d := d__law_ways) (m := m__law_ways) X G hA17 hL17 hC17 hK17 (by rfl) sc__law_ways ev__law_ways rfl fun _ _ _ _ _ _ us hl => match us, hl with | [_], _ => rfl
  have D18 : DP g tb K mg fu 40 "_law_side" sg__law_side := dp_mk (d := d__law_side) (m := m__law_side) X G hA18 hL18 hC18 hK18 (by rfl) sc__law_side ev__law_side rfl fun _ _ _ _ _ _ us hl => match us, hl with | [_], _ => rfl
  have D19 : DP g tb K mg fu 40 "_law_hooks" sg__law_hooks := dp_mk (d := d__law_hooks) (m := m__law_hooks) X G hA19 hL19 hC19 hK19 (by rfl) sc__law_hooks ev__law_hooks rfl fun _ _ _ _ _ _ us hl => match us, hl with | [_], _ => rfl
  have D20 : DP g tb K mg fu 40 "_law_refused" sg__law_refused := dp_mk (d := d__law_refused) (m := m__law_refused) X G hA20 hL20 hC20 hK20 (by rfl) sc__law_refused ev__law_refused rfl fun _ _ _ _ _ _ us hl => match us, hl with | [_, _, _], _ => rfl
  have D21 : DP g tb K mg fu 40 "law" sg_law := dp_mk (d := d_law) (m := m_law) X G hA21 hL21 hC21 hK21 (by rfl) sc_law ev_law rfl fun _ _ _ _ _ _ us hl => match us, hl with | [_], _ => rfl
  have hd : ∀ f sg, g.defs.lookup f = some sg → DP g tb K mg fu 40 f sg := AllP.look (P := fun p => DP g tb K mg fu 40 p.1 p.2) (l := g.defs) ⟨D0, D1, D2, D3, D4, D5, D6, D7, D8, D9, D10, D11, D12, D13, D14, D15, D17, D18, D19, D20, D21, trivial⟩
  have hh : ∀ f, f ∈ g.hots → DH g tb K mg fu 40 f := AllP.mem (P := fun f => DH g tb K mg fu 40 f) (l := g.hots) ⟨D16, trivial⟩
  obtain ⟨fd, b, F⟩ := law_end (P := P) (w := w) (d := d_law) (m := m_law) (k := 39) X G wf hd hh hfa hA21 hL21 hC21 hK21 (by rfl) sc_law ev_law rfl fun _ _ _ _ _ _ us hl => match us, hl with | [_], _ => rfl
  exact ⟨fd, b, fun base h1 h2 => law_endL (F base h1 h2)⟩
end LW
open PySem PySem.W PyProof.Rows
set_option maxHeartbeats 0 in
theorem PySem.Challenge.cw_wareloops_k83_whole_ways_to_pile_holds : PySem.Challenge.rw_wareloops_k83_whole_ways_to_pile.Holds := by
  w_on; o_law; k_head; (case hw => w_witness2)
  k_fill
  refine L2.walk_of (l := PySem.Challenge.rw_wareloops_k83_whole_ways_to_pile) (n := 63) (k := 40) (x := "script") (CX := fun w => L2N.CX PySem.Challenge.rw_wareloops_k83_whole_ways_to_pile.prog w) (sp := fun w => VL.spL _ (VL.runK LW.tb 40 "law")) rfl (by decide) rfl ⟨rfl, by decide, by decide⟩ (fun w h Y => PySem.W.kIn_of Y) ?F (fun _ _ a ns hl _ hS => ⟨a, ns, rfl, hS, LW.val ns hl, fun _ => rfl⟩) (fun _ _ _ _ _ h => VL.cx_no h)
  case F =>
    intro w mg fa h KX G hmg
    refine' LW.all_mk KX G hmg ?hA0 ?hL0 ?hC0 ?hK0 ?hT0l ?hT0d ?hT0v ?hA1 ?hL1 ?hC1 ?hK1 ?hT1l ?hT1d ?hT1v ?hA2 ?hL2 ?hC2 ?hK2 ?hA3 ?hL3 ?hC3 ?hK3 ?hA4 ?hL4 ?hC4 ?hK4 ?hA5 ?hL5 ?hC5 ?hK5 ?hA6 ?hL6 ?hC6 ?hK6 ?hA7 ?hL7 ?hC7 ?hK7 ?hA8 ?hL8 ?hC8 ?hK8 ?hA9 ?hL9 ?hC9 ?hK9 ?hA10 ?hL10 ?hC10 ?hK10 ?hA11 ?hL11 ?hC11 ?hK11 ?hA12 ?hL12 ?hC12 ?hK12 ?hA13 ?hL13 ?hC13 ?hK13 ?hA14 ?hL14 ?hC14 ?hK14 ?hA15 ?hL15 ?hC15 ?hK15 ?hA16 ?hL16 ?hC16 ?hK16 ?hA17 ?hL17 ?hC17 ?hK17 ?hA18 ?hL18 ?hC18 ?hK18 ?hA19 ?hL19 ?hC19 ?hK19 ?hA20 ?hL20 ?hC20 ?hK20 ?hA21 ?hL21 ?hC21 ?hK21 ?hE0a ?hE0b ?hE1a ?hE1b ?hE2a ?hE2b ?hR0 ?hR1 ?hI0 ?hI1 ?hF0 ?hF1 ?hF2 ?hF3 ?hF4 ?hF5 ?hF6 ?hF7 ?hF8 ?hF9 ?hF10 ?hF11 ?hF12 ?hF13 ?hF14
    (case hA0 => first | k_is | (exact rfl) | (exact .cons ⟨_, rfl⟩ (.cons ⟨_, rfl⟩ .nil)) | kernel_rfl | fail "hA0")
    (case hL0 => first | k_is | (exact rfl) | (exact .cons ⟨_, rfl⟩ (.cons ⟨_, rfl⟩ .nil)) | kernel_rfl | fail "hL0")
    (case hC0 => first | k_is | (exact rfl) | (exact .cons ⟨_, rfl⟩ (.cons ⟨_, rfl⟩ .nil)) | kernel_rfl | fail "hC0")
    (case hK0 => first | k_is | (exact rfl) | (exact .cons ⟨_, rfl⟩ (.cons ⟨_, rfl⟩ .nil)) | kernel_rfl | fail "hK0")
    (case hT0l => first | k_is | (exact rfl) | (exact .cons ⟨_, rfl⟩ (.cons ⟨_, rfl⟩ .nil)) | kernel_rfl | fail "hT0l")
    (case hT0d => first | k_is | (exact rfl) | (exact .cons ⟨_, rfl⟩ (.cons ⟨_, rfl⟩ .nil)) | kernel_rfl | fail "hT0d")
    (case hT0v => first | k_is | (exact rfl) | (exact .cons ⟨_, rfl⟩ (.cons ⟨_, rfl⟩ .nil)) | kernel_rfl | fail "hT0v")
    (case hA1 => first | k_is | (exact rfl) | (exact .cons ⟨_, rfl⟩ (.cons ⟨_, rfl⟩ .nil)) | kernel_rfl | fail "hA1")
    (case hL1 => first | k_is | (exact rfl) | (exact .cons ⟨_, rfl⟩ (.cons ⟨_, rfl⟩ .nil)) | kernel_rfl | fail "hL1")
    (case hC1 => first | k_is | (exact rfl) | (exact .cons ⟨_, rfl⟩ (.cons ⟨_, rfl⟩ .nil)) | kernel_rfl | fail "hC1")
    (case hK1 => first | k_is | (exact rfl) | (exact .cons ⟨_, rfl⟩ (.cons ⟨_, rfl⟩ .nil)) | kernel_rfl | fail "hK1")
    (case hT1l => first | k_is | (exact rfl) | (exact .cons ⟨_, rfl⟩ (.cons ⟨_, rfl⟩ .nil)) | kernel_rfl | fail "hT1l")
    (case hT1d => first | k_is | (exact rfl) | (exact .cons ⟨_, rfl⟩ (.cons ⟨_, rfl⟩ .nil)) | kernel_rfl | fail "hT1d")
    (case hT1v => first | k_is | (exact rfl) | (exact .cons ⟨_, rfl⟩ (.cons ⟨_, rfl⟩ .nil)) | kernel_rfl | fail "hT1v")
    (case hA2 => first | k_is | (exact rfl) | (exact .cons ⟨_, rfl⟩ (.cons ⟨_, rfl⟩ .nil)) | kernel_rfl | fail "hA2")
    (case hL2 => first | k_is | (exact rfl) | (exact .cons ⟨_, rfl⟩ (.cons ⟨_, rfl⟩ .nil)) | kernel_rfl | fail "hL2")
    (case hC2 => first | k_is | (exact rfl) | (exact .cons ⟨_, rfl⟩ (.cons ⟨_, rfl⟩ .nil)) | kernel_rfl | fail "hC2")
    (case hK2 => first | k_is | (exact rfl) | (exact .cons ⟨_, rfl⟩ (.cons ⟨_, rfl⟩ .nil)) | kernel_rfl | fail "hK2")
    (case hA3 => first | k_is | (exact rfl) | (exact .cons ⟨_, rfl⟩ (.cons ⟨_, rfl⟩ .nil)) | kernel_rfl | fail "hA3")
    (case hL3 => first | k_is | (exact rfl) | (exact .cons ⟨_, rfl⟩ (.cons ⟨_, rfl⟩ .nil)) | kernel_rfl | fail "hL3")
    (case hC3 => first | k_is | (exact rfl) | (exact .cons ⟨_, rfl⟩ (.cons ⟨_, rfl⟩ .nil)) | kernel_rfl | fail "hC3")
    (case hK3 => first | k_is | (exact rfl) | (exact .cons ⟨_, rfl⟩ (.cons ⟨_, rfl⟩ .nil)) | kernel_rfl | fail "hK3")
    (case hA4 => first | k_is | (exact rfl) | (exact .cons ⟨_, rfl⟩ (.cons ⟨_, rfl⟩ .nil)) | kernel_rfl | fail "hA4")
    (case hL4 => first | k_is | (exact rfl) | (exact .cons ⟨_, rfl⟩ (.cons ⟨_, rfl⟩ .nil)) | kernel_rfl | fail "hL4")
    (case hC4 => first | k_is | (exact rfl) | (exact .cons ⟨_, rfl⟩ (.cons ⟨_, rfl⟩ .nil)) | kernel_rfl | fail "hC4")
    (case hK4 => first | k_is | (exact rfl) | (exact .cons ⟨_, rfl⟩ (.cons ⟨_, rfl⟩ .nil)) | kernel_rfl | fail "hK4")
    (case hA5 => first | k_is | (exact rfl) | (exact .cons ⟨_, rfl⟩ (.cons ⟨_, rfl⟩ .nil)) | kernel_rfl | fail "hA5")
    (case hL5 => first | k_is | (exact rfl) | (exact .cons ⟨_, rfl⟩ (.cons ⟨_, rfl⟩ .nil)) | kernel_rfl | fail "hL5")
    (case hC5 => first | k_is | (exact rfl) | (exact .cons ⟨_, rfl⟩ (.cons ⟨_, rfl⟩ .nil)) | kernel_rfl | fail "hC5")
    (case hK5 => first | k_is | (exact rfl) | (exact .cons ⟨_, rfl⟩ (.cons ⟨_, rfl⟩ .nil)) | kernel_rfl | fail "hK5")
    (case hA6 => first | k_is | (exact rfl) | (exact .cons ⟨_, rfl⟩ (.cons ⟨_, rfl⟩ .nil)) | kernel_rfl | fail "hA6")
    (case hL6 => first | k_is | (exact rfl) | (exact .cons ⟨_, rfl⟩ (.cons ⟨_, rfl⟩ .nil)) | kernel_rfl | fail "hL6")
    (case hC6 => first | k_is | (exact rfl) | (exact .cons ⟨_, rfl⟩ (.cons ⟨_, rfl⟩ .nil)) | kernel_rfl | fail "hC6")
    (case hK6 => first | k_is | (exact rfl) | (exact .cons ⟨_, rfl⟩ (.cons ⟨_, rfl⟩ .nil)) | kernel_rfl | fail "hK6")
    (case hA7 => first | k_is | (exact rfl) | (exact .cons ⟨_, rfl⟩ (.cons ⟨_, rfl⟩ .nil)) | kernel_rfl | fail "hA7")
    (case hL7 => first | k_is | (exact rfl) | (exact .cons ⟨_, rfl⟩ (.cons ⟨_, rfl⟩ .nil)) | kernel_rfl | fail "hL7")
    (case hC7 => first | k_is | (exact rfl) | (exact .cons ⟨_, rfl⟩ (.cons ⟨_, rfl⟩ .nil)) | kernel_rfl | fail "hC7")
    (case hK7 => first | k_is | (exact rfl) | (exact .cons ⟨_, rfl⟩ (.cons ⟨_, rfl⟩ .nil)) | kernel_rfl | fail "hK7")
    (case hA8 => first | k_is | (exact rfl) | (exact .cons ⟨_, rfl⟩ (.cons ⟨_, rfl⟩ .nil)) | kernel_rfl | fail "hA8")
    (case hL8 => first | k_is | (exact rfl) | (exact .cons ⟨_, rfl⟩ (.cons ⟨_, rfl⟩ .nil)) | kernel_rfl | fail "hL8")
    (case hC8 => first | k_is | (exact rfl) | (exact .cons ⟨_, rfl⟩ (.cons ⟨_, rfl⟩ .nil)) | kernel_rfl | fail "hC8")
    (case hK8 => first | k_is | (exact rfl) | (exact .cons ⟨_, rfl⟩ (.cons ⟨_, rfl⟩ .nil)) | kernel_rfl | fail "hK8")
    (case hA9 => first | k_is | (exact rfl) | (exact .cons ⟨_, rfl⟩ (.cons ⟨_, rfl⟩ .nil)) | kernel_rfl | fail "hA9")
    (case hL9 => first | k_is | (exact rfl) | (exact .cons ⟨_, rfl⟩ (.cons ⟨_, rfl⟩ .nil)) | kernel_rfl | fail "hL9")
    (case hC9 => first | k_is | (exact rfl) | (exact .cons ⟨_, rfl⟩ (.cons ⟨_, rfl⟩ .nil)) | kernel_rfl | fail "hC9")
    (case hK9 => first | k_is | (exact rfl) | (exact .cons ⟨_, rfl⟩ (.cons ⟨_, rfl⟩ .nil)) | kernel_rfl | fail "hK9")
    (case hA10 => first | k_is | (exact rfl) | (exact .cons ⟨_, rfl⟩ (.cons ⟨_, rfl⟩ .nil)) | kernel_rfl | fail "hA10")
    (case hL10 => first | k_is | (exact rfl) | (exact .cons ⟨_, rfl⟩ (.cons ⟨_, rfl⟩ .nil)) | kernel_rfl | fail "hL10")
    (case hC10 => first | k_is | (exact rfl) | (exact .cons ⟨_, rfl⟩ (.cons ⟨_, rfl⟩ .nil)) | kernel_rfl | fail "hC10")
    (case hK10 => first | k_is | (exact rfl) | (exact .cons ⟨_, rfl⟩ (.cons ⟨_, rfl⟩ .nil)) | kernel_rfl | fail "hK10")
    (case hA11 => first | k_is | (exact rfl) | (exact .cons ⟨_, rfl⟩ (.cons ⟨_, rfl⟩ .nil)) | kernel_rfl | fail "hA11")
    (case hL11 => first | k_is | (exact rfl) | (exact .cons ⟨_, rfl⟩ (.cons ⟨_, rfl⟩ .nil)) | kernel_rfl | fail "hL11")
    (case hC11 => first | k_is | (exact rfl) | (exact .cons ⟨_, rfl⟩ (.cons ⟨_, rfl⟩ .nil)) | kernel_rfl | fail "hC11")
    (case hK11 => first | k_is | (exact rfl) | (exact .cons ⟨_, rfl⟩ (.cons ⟨_, rfl⟩ .nil)) | kernel_rfl | fail "hK11")
    (case hA12 => first | k_is | (exact rfl) | (exact .cons ⟨_, rfl⟩ (.cons ⟨_, rfl⟩ .nil)) | kernel_rfl | fail "hA12")
    (case hL12 => first | k_is | (exact rfl) | (exact .cons ⟨_, rfl⟩ (.cons ⟨_, rfl⟩ .nil)) | kernel_rfl | fail "hL12")
    (case hC12 => first | k_is | (exact rfl) | (exact .cons ⟨_, rfl⟩ (.cons ⟨_, rfl⟩ .nil)) | kernel_rfl | fail "hC12")
    (case hK12 => first | k_is | (exact rfl) | (exact .cons ⟨_, rfl⟩ (.cons ⟨_, rfl⟩ .nil)) | kernel_rfl | fail "hK12")
    (case hA13 => first | k_is | (exact rfl) | (exact .cons ⟨_, rfl⟩ (.cons ⟨_, rfl⟩ .nil)) | kernel_rfl | fail "hA13")
    (case hL13 => first | k_is | (exact rfl) | (exact .cons ⟨_, rfl⟩ (.cons ⟨_, rfl⟩ .nil)) | kernel_rfl | fail "hL13")
    (case hC13 => first | k_is | (exact rfl) | (exact .cons ⟨_, rfl⟩ (.cons ⟨_, rfl⟩ .nil)) | kernel_rfl | fail "hC13")
    (case hK13 => first | k_is | (exact rfl) | (exact .cons ⟨_, rfl⟩ (.cons ⟨_, rfl⟩ .nil)) | kernel_rfl | fail "hK13")
    (case hA14 => first | k_is | (exact rfl) | (exact .cons ⟨_, rfl⟩ (.cons ⟨_, rfl⟩ .nil)) | kernel_rfl | fail "hA14")
    (case hL14 => first | k_is | (exact rfl) | (exact .cons ⟨_, rfl⟩ (.cons ⟨_, rfl⟩ .nil)) | kernel_rfl | fail "hL14")
    (case hC14 => first | k_is | (exact rfl) | (exact .cons ⟨_, rfl⟩ (.cons ⟨_, rfl⟩ .nil)) | kernel_rfl | fail "hC14")
    (case hK14 => first | k_is | (exact rfl) | (exact .cons ⟨_, rfl⟩ (.cons ⟨_, rfl⟩ .nil)) | kernel_rfl | fail "hK14")
    (case hA15 => first | k_is | (exact rfl) | (exact .cons ⟨_, rfl⟩ (.cons ⟨_, rfl⟩ .nil)) | kernel_rfl | fail "hA15")
    (case hL15 => first | k_is | (exact rfl) | (exact .cons ⟨_, rfl⟩ (.cons ⟨_, rfl⟩ .nil)) | kernel_rfl | fail "hL15")
    (case hC15 => first | k_is | (exact rfl) | (exact .cons ⟨_, rfl⟩ (.cons ⟨_, rfl⟩ .nil)) | kernel_rfl | fail "hC15")
    (case hK15 => first | k_is | (exact rfl) | (exact .cons ⟨_, rfl⟩ (.cons ⟨_, rfl⟩ .nil)) | kernel_rfl | fail "hK15")
    (case hA16 => first | k_is | (exact rfl) | (exact .cons ⟨_, rfl⟩ (.cons ⟨_, rfl⟩ .nil)) | kernel_rfl | fail "hA16")
    (case hL16 => first | k_is | (exact rfl) | (exact .cons ⟨_, rfl⟩ (.cons ⟨_, rfl⟩ .nil)) | kernel_rfl | fail "hL16")
    (case hC16 => first | k_is | (exact rfl) | (exact .cons ⟨_, rfl⟩ (.cons ⟨_, rfl⟩ .nil)) | kernel_rfl | fail "hC16")
    (case hK16 => first | k_is | (exact rfl) | (exact .cons ⟨_, rfl⟩ (.cons ⟨_, rfl⟩ .nil)) | kernel_rfl | fail "hK16")
    (case hA17 => first | k_is | (exact rfl) | (exact .cons ⟨_, rfl⟩ (.cons ⟨_, rfl⟩ .nil)) | kernel_rfl | fail "hA17")
    (case hL17 => first | k_is | (exact rfl) | (exact .cons ⟨_, rfl⟩ (.cons ⟨_, rfl⟩ .nil)) | kernel_rfl | fail "hL17")
    (case hC17 => first | k_is | (exact rfl) | (exact .cons ⟨_, rfl⟩ (.cons ⟨_, rfl⟩ .nil)) | kernel_rfl | fail "hC17")
    (case hK17 => first | k_is | (exact rfl) | (exact .cons ⟨_, rfl⟩ (.cons ⟨_, rfl⟩ .nil)) | kernel_rfl | fail "hK17")
    (case hA18 => first | k_is | (exact rfl) | (exact .cons ⟨_, rfl⟩ (.cons ⟨_, rfl⟩ .nil)) | kernel_rfl | fail "hA18")
    (case hL18 => first | k_is | (exact rfl) | (exact .cons ⟨_, rfl⟩ (.cons ⟨_, rfl⟩ .nil)) | kernel_rfl | fail "hL18")
    (case hC18 => first | k_is | (exact rfl) | (exact .cons ⟨_, rfl⟩ (.cons ⟨_, rfl⟩ .nil)) | kernel_rfl | fail "hC18")
    (case hK18 => first | k_is | (exact rfl) | (exact .cons ⟨_, rfl⟩ (.cons ⟨_, rfl⟩ .nil)) | kernel_rfl | fail "hK18")
    (case hA19 => first | k_is | (exact rfl) | (exact .cons ⟨_, rfl⟩ (.cons ⟨_, rfl⟩ .nil)) | kernel_rfl | fail "hA19")
    (case hL19 => first | k_is | (exact rfl) | (exact .cons ⟨_, rfl⟩ (.cons ⟨_, rfl⟩ .nil)) | kernel_rfl | fail "hL19")
    (case hC19 => first | k_is | (exact rfl) | (exact .cons ⟨_, rfl⟩ (.cons ⟨_, rfl⟩ .nil)) | kernel_rfl | fail "hC19")
    (case hK19 => first | k_is | (exact rfl) | (exact .cons ⟨_, rfl⟩ (.cons ⟨_, rfl⟩ .nil)) | kernel_rfl | fail "hK19")
    (case hA20 => first | k_is | (exact rfl) | (exact .cons ⟨_, rfl⟩ (.cons ⟨_, rfl⟩ .nil)) | kernel_rfl | fail "hA20")
    (case hL20 => first | k_is | (exact rfl) | (exact .cons ⟨_, rfl⟩ (.cons ⟨_, rfl⟩ .nil)) | kernel_rfl | fail "hL20")
    (case hC20 => first | k_is | (exact rfl) | (exact .cons ⟨_, rfl⟩ (.cons ⟨_, rfl⟩ .nil)) | kernel_rfl | fail "hC20")
    (case hK20 => first | k_is | (exact rfl) | (exact .cons ⟨_, rfl⟩ (.cons ⟨_, rfl⟩ .nil)) | kernel_rfl | fail "hK20")
    (case hA21 => first | k_is | (exact rfl) | (exact .cons ⟨_, rfl⟩ (.cons ⟨_, rfl⟩ .nil)) | kernel_rfl | fail "hA21")
    (case hL21 => first | k_is | (exact rfl) | (exact .cons ⟨_, rfl⟩ (.cons ⟨_, rfl⟩ .nil)) | kernel_rfl | fail "hL21")
    (case hC21 => first | k_is | (exact rfl) | (exact .cons ⟨_, rfl⟩ (.cons ⟨_, rfl⟩ .nil)) | kernel_rfl | fail "hC21")
    (case hK21 => first | k_is | (exact rfl) | (exact .cons ⟨_, rfl⟩ (.cons ⟨_, rfl⟩ .nil)) | kernel_rfl | fail "hK21")
    (case hE0a => first | k_is | (exact rfl) | (exact .cons ⟨_, rfl⟩ (.cons ⟨_, rfl⟩ .nil)) | kernel_rfl | fail "hE0a")
    (case hE0b => first | k_is | (exact rfl) | (exact .cons ⟨_, rfl⟩ (.cons ⟨_, rfl⟩ .nil)) | kernel_rfl | fail "hE0b")
    (case hE1a => first | k_is | (exact rfl) | (exact .cons ⟨_, rfl⟩ (.cons ⟨_, rfl⟩ .nil)) | kernel_rfl | fail "hE1a")
    (case hE1b => first | k_is | (exact rfl) | (exact .cons ⟨_, rfl⟩ (.cons ⟨_, rfl⟩ .nil)) | kernel_rfl | fail "hE1b")
    (case hE2a => first | k_is | (exact rfl) | (exact .cons ⟨_, rfl⟩ (.cons ⟨_, rfl⟩ .nil)) | kernel_rfl | fail "hE2a")
    (case hE2b => first | k_is | (exact rfl) | (exact .cons ⟨_, rfl⟩ (.cons ⟨_, rfl⟩ .nil)) | kernel_rfl | fail "hE2b")
    (case hR0 => first | k_is | (exact rfl) | (exact .cons ⟨_, rfl⟩ (.cons ⟨_, rfl⟩ .nil)) | kernel_rfl | fail "hR0")
    (case hR1 => first | k_is | (exact rfl) | (exact .cons ⟨_, rfl⟩ (.cons ⟨_, rfl⟩ .nil)) | kernel_rfl | fail "hR1")
    (case hI0 => first | k_is | (exact rfl) | (exact .cons ⟨_, rfl⟩ (.cons ⟨_, rfl⟩ .nil)) | kernel_rfl | fail "hI0")
    (case hI1 => first | k_is | (exact rfl) | (exact .cons ⟨_, rfl⟩ (.cons ⟨_, rfl⟩ .nil)) | kernel_rfl | fail "hI1")
    (case hF0 => first | k_is | (exact rfl) | (exact .cons ⟨_, rfl⟩ (.cons ⟨_, rfl⟩ .nil)) | kernel_rfl | fail "hF0")
    (case hF1 => first | k_is | (exact rfl) | (exact .cons ⟨_, rfl⟩ (.cons ⟨_, rfl⟩ .nil)) | kernel_rfl | fail "hF1")
    (case hF2 => first | k_is | (exact rfl) | (exact .cons ⟨_, rfl⟩ (.cons ⟨_, rfl⟩ .nil)) | kernel_rfl | fail "hF2")
    (case hF3 => first | k_is | (exact rfl) | (exact .cons ⟨_, rfl⟩ (.cons ⟨_, rfl⟩ .nil)) | kernel_rfl | fail "hF3")
    (case hF4 => first | k_is | (exact rfl) | (exact .cons ⟨_, rfl⟩ (.cons ⟨_, rfl⟩ .nil)) | kernel_rfl | fail "hF4")
    (case hF5 => first | k_is | (exact rfl) | (exact .cons ⟨_, rfl⟩ (.cons ⟨_, rfl⟩ .nil)) | kernel_rfl | fail "hF5")
    (case hF6 => first | k_is | (exact rfl) | (exact .cons ⟨_, rfl⟩ (.cons ⟨_, rfl⟩ .nil)) | kernel_rfl | fail "hF6")
    (case hF7 => first | k_is | (exact rfl) | (exact .cons ⟨_, rfl⟩ (.cons ⟨_, rfl⟩ .nil)) | kernel_rfl | fail "hF7")
    (case hF8 => first | k_is | (exact rfl) | (exact .cons ⟨_, rfl⟩ (.cons ⟨_, rfl⟩ .nil)) | kernel_rfl | fail "hF8")
    (case hF9 => first | k_is | (exact rfl) | (exact .cons ⟨_, rfl⟩ (.cons ⟨_, rfl⟩ .nil)) | kernel_rfl | fail "hF9")
    (case hF10 => first | k_is | (exact rfl) | (exact .cons ⟨_, rfl⟩ (.cons ⟨_, rfl⟩ .nil)) | kernel_rfl | fail "hF10")
    (case hF11 => first | k_is | (exact rfl) | (exact .cons ⟨_, rfl⟩ (.cons ⟨_, rfl⟩ .nil)) | kernel_rfl | fail "hF11")
    (case hF12 => first | k_is | (exact rfl) | (exact .cons ⟨_, rfl⟩ (.cons ⟨_, rfl⟩ .nil)) | kernel_rfl | fail "hF12")
    (case hF13 => first | k_is | (exact rfl) | (exact .cons ⟨_, rfl⟩ (.cons ⟨_, rfl⟩ .nil)) | kernel_rfl | fail "hF13")
    (case hF14 => first | k_is | (exact rfl) | (exact .cons ⟨_, rfl⟩ (.cons ⟨_, rfl⟩ .nil)) | kernel_rfl | fail "hF14")
